/- The walks of PlanW: written by a program of ours (gen.py) over the engine. -/
import Derived.Test.YtmakdilmibjpbabGreatDoorWants
import Derived.Test.YtmakdilmibjpbabGreatDoorFacts
import Derived.Test.YtmakdilmibjpbabGreatDoorTwo
import Derived.Test.YtmakdilmibjpbabGreatDoorCount
namespace Go.Proofs.YtmakdilmibjpbabGreatDoor
open Go Go.RowKit
set_option linter.unusedVariables false
set_option linter.unusedSimpArgs false
set_option maxRecDepth 20000

theorem plan_Shop (M : Amb) (H : List HP) (c : Int) : FnV Tryz.prog M H 80 [.int .i64 c] (.int .i64 (shopOf c)) := by
 refine fn_intro Tryz.func80 rfl Tryz.ntmps80 rfl fun F hF => ?_
 refine r_sr (p_as rfl rfl (o_keep (.c 0 rfl (.c 2 rfl .n)) (r_seq (r_sr (p_mv rfl rfl (p_lss rfl rfl rfl (p_mv rfl rfl ?_)))))))
 refine l_op (x_p (pv_mv (.s rfl rfl rfl) rfl rfl (by first | exact fun _ => rfl | exact id | exact fun h => (Bool.and_eq_true_iff.1 h).1 | simp_all)) rfl rfl ?_)
 refine l_op (x_p (pv_geq (.s rfl rfl rfl) rfl rfl rfl (by refine fun h => ⟨?_, ?_⟩ <;> first | rfl | exact h | exact (Bool.and_eq_true_iff.1 h).1 | simp_all)) rfl rfl ?_)
 refine l_op (x_p (pv_or (.n rfl) rfl rfl rfl (fun _ => ⟨rfl, fun hc => by first | rfl | (rw [hc]; rfl) | simp_all⟩)) rfl rfl ?_)
 refine o_keep (.c 0 rfl (.c 2 rfl (.c 8 rfl .n))) (r_cond _ rfl (fun h1 => ?_) (fun h1 => ?_))
 ·try simp only [bq1, bq2, bq3, bq4, bq5, bq6, bq7, bq8] at h1
  refine r_sr (p_as rfl rfl (o_keep (.c 0 rfl (.c 2 rfl .n)) ?_))
  refine r_retv hF rfl (.c (.t rfl) .n) ?_ ?_
  ·repeat first|exact eR|refine eB ?_|refine eS ?_|refine eN ?_|refine eX ?_|refine eD ?_
  ·exact int_eq (by unfold shopOf; rw [if_pos (by omega)])
 ·try simp only [bq1, bq2, bq3, bq4, bq5, bq6, bq7, bq8] at h1
  have hc := h1
  refine r_skip (r_sr (p_mv rfl rfl ?_))
  refine l_op (x_p (pv_quo (fun _ => by first | omega | (rw [Int.tdiv_eq_ediv_of_nonneg (by omega)]; omega)) (fun _ => by first | omega | (rw [Int.tdiv_eq_ediv_of_nonneg (by omega)]; omega)) (.n rfl) rfl rfl rfl (fun _ => ⟨rfl, rfl⟩)) rfl rfl ?_)
  refine p_as rfl rfl (o_keep (.c 2 rfl .n) ?_)
  refine r_retv hF rfl (.c (.t rfl) .n) ?_ ?_
  ·repeat first|exact eR|refine eB ?_|refine eS ?_|refine eN ?_|refine eX ?_|refine eD ?_
  ·exact int_eq (by rw [shopOf_ok (by omega) (by omega)]; exact Int.tdiv_eq_ediv_of_nonneg (by omega))

theorem plan_Want (M : Amb) (H : List HP) (w : Want) : FnV Tryz.prog M H 114 [.agg (rW w).toArray] (.int .i64 (wantF w)) := by
 refine fn_intro Tryz.func114 rfl Tryz.ntmps114 rfl fun F hF => ?_
 refine r_sr (p_box rfl rfl rfl fun b1 => ?_)
 refine p_as rfl rfl (o_keep (.c 1 rfl (.c 2 rfl .n)) (r_seq (r_sr (p_fa fa_115_0 rfl rfl (p_ldc tc_3 rfl (by rfl) rfl ?_)))))
 refine p_callv cf_80 (.c rfl .n) rfl (plan_Shop _ _ _) ?_
 refine p_lss rfl rfl rfl (o_keep (.c 1 rfl (.c 2 rfl (.c 6 rfl .n))) (r_cond _ rfl (fun h1 => ?_) (fun h1 => ?_)))
 ·try simp only [bq1, bq2, bq3, bq4, bq5, bq6, bq7, bq8] at h1
  refine r_sr (p_as rfl rfl (o_keep (.c 1 rfl (.c 2 rfl .n)) ?_))
  refine r_retv hF rfl (.c (.t rfl) .n) ?_ ?_
  ·repeat first|exact eR|refine eB ?_|refine eS ?_|refine eN ?_|refine eX ?_|refine eD ?_
  ·exact int_eq (by unfold wantF; rw [if_pos (by assumption)])
 ·try simp only [bq1, bq2, bq3, bq4, bq5, bq6, bq7, bq8] at h1
  refine r_skip (r_sr (p_fa fa_115_1 rfl rfl (p_ldc tc_3 rfl (by rfl) rfl ?_)))
  refine p_callv cf_126 (.c rfl .n) rfl (count_Delta _ _ _) ?_
  refine p_as rfl rfl (o_keep (.c 2 rfl .n) ?_)
  refine r_retv hF rfl (.c (.t rfl) .n) ?_ ?_
  ·repeat first|exact eR|refine eB ?_|refine eS ?_|refine eN ?_|refine eX ?_|refine eD ?_
  ·exact int_eq (by unfold wantF; rw [if_neg (by assumption)])

theorem plan_Check (M : Amb) (H : List HP) (v : Value) (l : List Want) (hv : Rd M H v 2 (l.map rW)) (hb : l.length ≤ 100000) : FnV Tryz.prog M H 94 [v] (.agg (rF (checkL l)).toArray) := by
 refine fn_intro Tryz.func94 rfl Tryz.ntmps94 rfl fun F hF => ?_
 refine r_sr (p_alloc zr_29 rfl fun b2 => ?_)
 refine o_keep (.c 0 rfl (.c 2 rfl .n)) (r_seq (r_block (r_sr (p_mv rfl rfl (l_op (x_p (pv_lens hv.len ⟨_, Tryz.underlying85⟩ (.n rfl) rfl rfl rfl rfl (fun _ => rfl)) rfl rfl (p_eql rfl rfl rfl (p_as rfl rfl ?_))))))))
 refine o_keep (.c 0 rfl (.c 2 rfl (.c 8 rfl .n))) (r_cond _ rfl (fun h1 => ?_) (fun h1 => ?_))
 ·try simp only [bq1, bq2, bq3, bq4, bq5, bq6, bq7, bq8] at h1
  have hc : checkL l = ⟨2, -1⟩ := by unfold checkL; rw [if_pos (by omega)]
  refine r_sr ?_
  refine p_build zr_29 pl_29 (.c rfl (fun _ => rfl) rfl rfl rfl (by repeat constructor) (.c rfl (fun _ => rfl) rfl rfl rfl (by repeat constructor) .n)) rfl ?_
  refine p_store (.ofA ta_29) rfl rfl rfl rfl rfl (by repeat constructor) ?_
  refine o_keep (.c 0 rfl (.c 2 rfl .n)) ?_
  refine r_retv hF rfl (.c (.a rfl ta_29 (.blk (SelB.ent) (.s (.s .z))) rfl) .n) ?_ ?_
  ·repeat first|exact eR|refine eB ?_|refine eS ?_|refine eN ?_|refine eX ?_|refine eD ?_
  ·rw [hc]; rfl
 ·try simp only [bq1, bq2, bq3, bq4, bq5, bq6, bq7, bq8] at h1
  refine r_sr (p_mv rfl rfl (l_op (x_p (pv_lens hv.len ⟨_, Tryz.underlying85⟩ (.n rfl) rfl rfl rfl rfl (fun _ => rfl)) rfl rfl (p_gtr rfl rfl rfl (p_as rfl rfl (o_keep (.c 0 rfl (.c 2 rfl (.c 13 rfl .n))) (r_cond _ rfl (fun h2 => ?_) (fun h2 => ?_))))))))
  ·try simp only [bq1, bq2, bq3, bq4, bq5, bq6, bq7, bq8] at h2
   have hc : checkL l = ⟨3, -1⟩ := by unfold checkL; rw [if_neg (by omega), if_pos (by omega)]
   refine r_sr ?_
   refine p_build zr_29 pl_29 (.c rfl (fun _ => rfl) rfl rfl rfl (by repeat constructor) (.c rfl (fun _ => rfl) rfl rfl rfl (by repeat constructor) .n)) rfl ?_
   refine p_store (.ofA ta_29) rfl rfl rfl rfl rfl (by repeat constructor) ?_
   refine o_keep (.c 0 rfl (.c 2 rfl .n)) ?_
   refine r_retv hF rfl (.c (.a rfl ta_29 (.blk (SelB.ent) (.s (.s .z))) rfl) .n) ?_ ?_
   ·repeat first|exact eR|refine eB ?_|refine eS ?_|refine eN ?_|refine eX ?_|refine eD ?_
   ·rw [hc]; rfl
  ·try simp only [bq1, bq2, bq3, bq4, bq5, bq6, bq7, bq8] at h2
   have hc0 : checkL l = scanW [] l := by unfold checkL; rw [if_neg (by omega), if_neg (by omega)]
   refine r_skip (r_end (r_seq (r_sr (p_mv rfl rfl (l_op (x_p (pv_lens hv.len ⟨_, Tryz.underlying85⟩ (.n rfl) rfl rfl rfl rfl (fun _ => rfl)) rfl rfl (p_mv rfl rfl (o_keep (.c 0 rfl (.c 2 rfl (.c 18 rfl (.c 19 rfl (.c 20 rfl .n))))) ?_))))))))
   refine r_block ?_
   refine r_loop_1 (fun (i : Nat) => [(20, true, .int .i64 (i : Int))]) (.c 0 rfl (.c 2 rfl (.c 18 rfl (.c 19 rfl .n)))) (fun (i : Nat) => blk b2 [.int .i64 0, .int .i64 0] 29 :: H) (fun (i : Nat) => i ≤ l.length ∧ scanW [] l = scanW (l.take i) (l.drop i)) (fun (i : Nat) => l.length - i) (0) ?_ (.c 20 rfl .n) ?_ (fun i hI => ?_)
   ·exact ⟨Nat.zero_le _, by simp⟩
   ·repeat first|exact eR|refine eB ?_|refine eS ?_|refine eN ?_|refine eX ?_|refine eD ?_
   ·skip
    obtain ⟨hil, hI⟩ := hI
    refine r_sr (p_lss rfl rfl rfl (o_keep (.c 0 rfl (.c 2 rfl (.c 18 rfl (.c 19 rfl (.c 20 rfl (.c 21 rfl .n)))))) (r_seq (r_cond _ rfl (fun h3 => ?_) (fun h3 => ?_)))))
    ·try simp only [bq1, bq2, bq3, bq4, bq5, bq6, bq7, bq8] at h3
     obtain ⟨w, hw⟩ := getlt (l := l) (i := i) (by omega)
     refine r_skip (r_seq (r_block (r_sr (p_mv rfl rfl (p_idx Tryz.underlying85 (.ofA ta_115) hv rfl (mapget hw) rfl rfl rfl ?_)))))
     refine p_ldats 0 ta_115 (Rd.ent hv (by repeat (first | exact Ent.rfl | exact Ent.one Ent.h | exact Ent.one (SelS.ent) | exact Ent.nil | exact Ent.left | refine Ent.dropR ?_ | refine Ent.tr Ent.skip ?_))) (mapget hw) rfl rfl (.s (.s .z)) rfl ?_
     refine p_alloc zr_115 rfl fun b4 => ?_
     refine p_as rfl rfl ?_
     refine p_store (.ofA ta_115) rfl rfl rfl rfl rfl (by repeat constructor) ?_
     refine o_keep (.c 0 rfl (.c 2 rfl (.c 3 rfl (.c 4 rfl (.c 18 rfl (.c 19 rfl (.c 20 rfl .n))))))) (r_seq (r_sr ?_))
     refine p_lda ta_115 rfl (by exact (.s (.s .z))) rfl ?_
     refine p_callv cf_114 (.c rfl .n) rfl (plan_Want _ _ _) ?_
     refine p_as rfl rfl (o_keep (.c 0 rfl (.c 2 rfl (.c 3 rfl (.c 4 rfl (.c 5 rfl (.c 18 rfl (.c 19 rfl (.c 20 rfl .n)))))))) (r_sr (p_mv rfl rfl (p_neq rfl rfl rfl (o_keep (.c 0 rfl (.c 2 rfl (.c 3 rfl (.c 4 rfl (.c 5 rfl (.c 18 rfl (.c 19 rfl (.c 20 rfl (.c 28 rfl .n))))))))) (r_cond _ rfl (fun h4 => ?_) (fun h4 => ?_)))))))
     ·try simp only [bq1, bq2, bq3, bq4, bq5, bq6, bq7, bq8] at h4
      have hc : checkL l = ⟨wantF w, i⟩ := by rw [hc0, hI]; exact scan_want hw (by omega) h4
      refine r_sr (p_mv rfl rfl (p_mv rfl rfl ?_))
      refine p_build zr_29 pl_29 (.c rfl (fun _ => rfl) rfl rfl rfl (by repeat constructor) (.c rfl (fun _ => rfl) rfl rfl rfl (by repeat constructor) .n)) rfl ?_
      refine p_store (.ofA ta_29) rfl rfl rfl rfl rfl (by repeat constructor) ?_
      refine o_keep (.c 0 rfl (.c 2 rfl (.c 3 rfl (.c 4 rfl (.c 18 rfl (.c 19 rfl (.c 20 rfl .n))))))) ?_
      refine r_retv hF rfl (.c (.a rfl ta_29 (.blk (SelB.ent) (.s (.s .z))) rfl) .n) ?_ ?_
      ·repeat first|exact eR|refine eB ?_|refine eS ?_|refine eN ?_|refine eX ?_|refine eD ?_
      ·rw [hc]; rfl
     ·try simp only [bq1, bq2, bq3, bq4, bq5, bq6, bq7, bq8] at h4
      have hw0 : wantF w = 0 := by omega
      have hti := take_len (l := l) (i := i) (by omega)
      have hrs : Rd M H (resl v 2 0 i) 2 ((l.take i).map rW) := (hv.resl (Nat.zero_le _) (show i ≤ (l.map rW).length by rw [List.length_map]; omega)).to (by simp)
      refine r_skip (r_sr (p_mv rfl rfl (p_mv rfl rfl ?_)))
      refine l_op (x_p (pv_slc (l := 0) (h := i) Tryz.underlying85 (.ofA ta_115) hv (Nat.zero_le _) (by rw [List.length_map]; omega) rfl rfl rfl (.inl ⟨rfl, rfl, rfl⟩) (.inr ⟨_, _, rfl, rfl, rfl⟩)) rfl rfl ?_)
      refine l_op (x_p (pv_lens (hrs.len) ⟨_, Tryz.underlying85⟩ (.n rfl) rfl rfl rfl rfl (fun _ => rfl)) rfl rfl (p_mv rfl rfl (o_keep (.c 0 rfl (.c 2 rfl (.c 3 rfl (.c 4 rfl (.c 18 rfl (.c 19 rfl (.c 20 rfl (.c 34 rfl (.c 35 rfl (.c 36 rfl .n)))))))))) (r_block ?_))))
      refine r_loop_1 (fun (j : Nat) => [(36, true, .int .i64 (j : Int))]) (.c 0 rfl (.c 2 rfl (.c 3 rfl (.c 4 rfl (.c 18 rfl (.c 19 rfl (.c 20 rfl (.c 34 rfl (.c 35 rfl .n))))))))) (fun (j : Nat) => blk b4 (rW w) 115 :: blk b2 [.int .i64 0, .int .i64 0] 29 :: H) (fun (j : Nat) => j ≤ (l.take i).length ∧ ∀ (q : Nat) (y : Want), q < j → (l.take i)[q]? = some y → y.ctr ≠ w.ctr) (fun (j : Nat) => (l.take i).length - j) (0) ?_ (.c 36 rfl .n) ?_ (fun j hI => ?_)
      ·exact ⟨Nat.zero_le _, fun q y hq => by omega⟩
      ·repeat first|exact eR|refine eB ?_|refine eS ?_|refine eN ?_|refine eX ?_|refine eD ?_
      ·skip
       obtain ⟨hjl, hJ⟩ := hI
       refine r_sr (p_lss rfl rfl rfl (o_keep (.c 0 rfl (.c 2 rfl (.c 3 rfl (.c 4 rfl (.c 18 rfl (.c 19 rfl (.c 20 rfl (.c 34 rfl (.c 35 rfl (.c 36 rfl (.c 37 rfl .n))))))))))) (r_seq (r_cond _ rfl (fun h5 => ?_) (fun h5 => ?_)))))
       ·try simp only [bq1, bq2, bq3, bq4, bq5, bq6, bq7, bq8] at h5
        have hj : j < (l.take i).length := by omega
        obtain ⟨x, hx⟩ := getlt hj
        refine r_skip (r_seq (r_block (r_sr (p_idx Tryz.underlying85 (.ofA ta_115) hrs rfl (mapget hx) rfl rfl rfl ?_))))
        refine p_ldats 0 ta_115 (Rd.ent hrs (by repeat (first | exact Ent.rfl | exact Ent.one Ent.h | exact Ent.one (SelS.ent) | exact Ent.nil | exact Ent.left | refine Ent.dropR ?_ | refine Ent.tr Ent.skip ?_))) (mapget hx) rfl rfl (.s (.s .z)) rfl ?_
        refine p_alloc zr_115 rfl fun b7 => ?_
        refine p_store (.ofA ta_115) rfl rfl rfl rfl rfl (by repeat constructor) ?_
        refine o_keep (.c 0 rfl (.c 2 rfl (.c 3 rfl (.c 4 rfl (.c 7 rfl (.c 18 rfl (.c 19 rfl (.c 20 rfl (.c 34 rfl (.c 35 rfl (.c 36 rfl .n))))))))))) (r_sr (p_fa fa_115_0 rfl rfl (p_ldc tc_3 rfl (by rfl) rfl ?_)))
        refine p_fa fa_115_0 rfl rfl (p_ldc tc_3 rfl (by rfl) rfl ?_)
        refine p_eql rfl rfl rfl (o_keep (.c 0 rfl (.c 2 rfl (.c 3 rfl (.c 4 rfl (.c 18 rfl (.c 19 rfl (.c 20 rfl (.c 34 rfl (.c 35 rfl (.c 36 rfl (.c 44 rfl .n))))))))))) (r_cond _ rfl (fun h6 => ?_) (fun h6 => ?_)))
        ·try simp only [bq1, bq2, bq3, bq4, bq5, bq6, bq7, bq8] at h6
         have hc : checkL l = ⟨4, i⟩ := by rw [hc0, hI]; exact scan_twice hw (by omega) hw0 (List.mem_of_getElem? hx) h6
         refine r_sr (p_mv rfl rfl ?_)
         refine p_build zr_29 pl_29 (.c rfl (fun _ => rfl) rfl rfl rfl (by repeat constructor) (.c rfl (fun _ => rfl) rfl rfl rfl (by repeat constructor) .n)) rfl ?_
         refine p_store (.ofA ta_29) rfl rfl rfl rfl rfl (by repeat constructor) ?_
         refine o_keep (.c 0 rfl (.c 2 rfl (.c 3 rfl (.c 4 rfl (.c 18 rfl (.c 19 rfl (.c 20 rfl (.c 34 rfl (.c 35 rfl (.c 36 rfl .n)))))))))) ?_
         refine r_retv hF rfl (.c (.a rfl ta_29 (.blk (SelB.ent) (.s (.s .z))) rfl) .n) ?_ ?_
         ·repeat first|exact eR|refine eB ?_|refine eS ?_|refine eN ?_|refine eX ?_|refine eD ?_
         ·rw [hc]; rfl
        ·try simp only [bq1, bq2, bq3, bq4, bq5, bq6, bq7, bq8] at h6
         refine r_skip (r_end (r_region (p_add rfl rfl (by omega) rfl (p_mv rfl rfl (o_keep (.c 0 rfl (.c 2 rfl (.c 3 rfl (.c 4 rfl (.c 18 rfl (.c 19 rfl (.c 20 rfl (.c 34 rfl (.c 35 rfl (.c 36 rfl .n)))))))))) ?_)))))
         refine r_back_1 (j + 1) ?_ ?_ (Keep.app (.c 36 rfl .n) (.c 0 rfl (.c 2 rfl (.c 3 rfl (.c 4 rfl (.c 18 rfl (.c 19 rfl (.c 20 rfl (.c 34 rfl (.c 35 rfl .n)))))))))) ?_
         ·exact ⟨by omega, scan_step hJ hx (by assumption)⟩
         ·omega
         ·repeat first|exact eR|refine eB ?_|refine eS ?_|refine eN ?_|refine eX ?_|refine eD ?_
       ·try simp only [bq1, bq2, bq3, bq4, bq5, bq6, bq7, bq8] at h5
        have hj : (l.take i).length ≤ j := by omega
        refine r_exit rfl (r_end (r_region (p_add rfl rfl (by omega) rfl (p_mv rfl rfl (o_keep (.c 0 rfl (.c 2 rfl (.c 18 rfl (.c 19 rfl (.c 20 rfl .n))))) ?_)))))
        refine r_back_1 (i + 1) ?_ ?_ (Keep.app (.c 20 rfl .n) (.c 0 rfl (.c 2 rfl (.c 18 rfl (.c 19 rfl .n))))) ?_
        ·exact ⟨by omega, hI.trans (scan_next hw hw0 hJ hj)⟩
        ·omega
        ·repeat first|exact eR|refine eB ?_|refine eS ?_|refine eN ?_|refine eX ?_|refine eD ?_
    ·try simp only [bq1, bq2, bq3, bq4, bq5, bq6, bq7, bq8] at h3
     have hc : checkL l = ⟨0, 0⟩ := by rw [hc0, hI]; exact scan_end (by omega)
     refine r_exit rfl (r_sr ?_)
     refine p_build zr_29 pl_29 (.n) rfl ?_
     refine p_store (.ofA ta_29) rfl rfl rfl rfl rfl (by repeat constructor) ?_
     refine o_keep (.c 2 rfl .n) ?_
     refine r_retv hF rfl (.c (.a rfl ta_29 (.blk (SelB.ent) (.s (.s .z))) rfl) .n) ?_ ?_
     ·repeat first|exact eR|refine eB ?_|refine eS ?_|refine eN ?_|refine eX ?_|refine eD ?_
     ·rw [hc]; rfl

theorem plan_Shops (M : Amb) (A : List HP) (v : Value) (l : List Want) (hv : Rd M A v 2 (l.map rW)) (hb : l.length ≤ 100000) : FnE (α := Value) Tryz.prog M 78 [v] A (fun x => x) (fun x => sl x 3 1 ((shopsL l).map rI) :: A) := by
 refine fne_intro Tryz.func78 rfl Tryz.ntmps78 rfl fun R F hF => ?_
 refine r_sr (p_as rfl rfl (o_keep (.c 0 rfl (.c 2 rfl .n)) (r_sr (p_as rfl rfl (o_keep (.c 0 rfl (.c 2 rfl (.c 3 rfl .n))) (r_seq (r_sr ?_)))))))
 refine p_mv rfl rfl (o_keep (.c 0 rfl (.c 2 rfl (.c 3 rfl (.c 7 rfl .n)))) (r_block ?_))
 refine r_loop_2 (fun (s : Nat) (ov : Value) => [(7, true, .int .i64 (s : Int)), (3, true, ov)]) (.c 0 rfl (.c 2 rfl .n)) (fun (s : Nat) (ov : Value) => sl ov 3 1 ((shopsTo l s).map rI) :: (A ++ R)) (fun (s : Nat) (ov : Value) => s ≤ 3) (fun (s : Nat) (ov : Value) => 3 - s) (0) (.slice Option.none 0 0) ?_ (.c 7 rfl (.c 3 rfl .n)) ?_ (fun s ov hI => ?_)
 ·omega
 ·repeat first|exact eR|refine eB ?_|refine eS ?_|refine eN ?_|refine eX ?_|refine eD ?_
 ·skip
  refine r_sr (p_lss rfl rfl rfl (o_keep (.c 0 rfl (.c 2 rfl (.c 3 rfl (.c 7 rfl (.c 8 rfl .n))))) (r_seq (r_cond _ rfl (fun h1 => ?_) (fun h1 => ?_)))))
  ·try simp only [bq1, bq2, bq3, bq4, bq5, bq6, bq7, bq8] at h1
   refine r_skip (r_seq (r_block (r_sr (p_mv rfl rfl (p_as rfl rfl (o_keep (.c 0 rfl (.c 2 rfl (.c 3 rfl (.c 4 rfl (.c 7 rfl .n))))) (r_sr ?_)))))))
   refine p_mv rfl rfl (l_op (x_p (pv_lens hv.len ⟨_, Tryz.underlying85⟩ (.n rfl) rfl rfl rfl rfl (fun _ => rfl)) rfl rfl (p_mv rfl rfl (o_keep (.c 0 rfl (.c 2 rfl (.c 3 rfl (.c 4 rfl (.c 7 rfl (.c 10 rfl (.c 11 rfl (.c 12 rfl .n)))))))) ?_))))
   refine r_cut_1 (fun (ov1 : Value) => [(3, true, ov1)]) (.c 0 rfl (.c 2 rfl (.c 7 rfl .n))) (fun (ov1 : Value) => sl ov1 3 1 ((shopsTo l (s + 1)).map rI) :: (A ++ R)) (fun (ov1 : Value) => True) ?_ (fun ov1 hI => ?_)
   ·skip
    refine r_block ?_
    refine r_loop_1 (fun (j : Nat) => [(12, true, .int .i64 (j : Int))]) (.c 0 rfl (.c 2 rfl (.c 3 rfl (.c 4 rfl (.c 7 rfl (.c 10 rfl (.c 11 rfl .n))))))) (fun (j : Nat) => sl ov 3 1 ((shopsTo l s).map rI) :: (A ++ R)) (fun (j : Nat) => j ≤ l.length ∧ ∀ (q : Nat) (y : Want), q < j → l[q]? = some y → shopOf y.ctr ≠ s) (fun (j : Nat) => l.length - j) (0) ?_ (.c 12 rfl .n) ?_ (fun j hI => ?_)
    ·exact ⟨Nat.zero_le _, fun q y hq => by omega⟩
    ·repeat first|exact eR|refine eB ?_|refine eS ?_|refine eN ?_|refine eX ?_|refine eD ?_
    ·skip
     obtain ⟨hjl, hJ⟩ := hI
     refine r_sr (p_lss rfl rfl rfl (o_keep (.c 0 rfl (.c 2 rfl (.c 3 rfl (.c 4 rfl (.c 7 rfl (.c 10 rfl (.c 11 rfl (.c 12 rfl (.c 13 rfl .n))))))))) (r_seq (r_cond _ rfl (fun h2 => ?_) (fun h2 => ?_)))))
     ·try simp only [bq1, bq2, bq3, bq4, bq5, bq6, bq7, bq8] at h2
      obtain ⟨w, hw⟩ := getlt (l := l) (i := j) (by omega)
      refine r_skip (r_seq (r_block (r_sr (p_idx Tryz.underlying85 (.ofA ta_115) hv rfl (mapget hw) rfl rfl rfl ?_))))
      refine p_ldats 0 ta_115 (Rd.ent hv (by repeat (first | exact Ent.rfl | exact Ent.one Ent.h | exact Ent.one (SelS.ent) | exact Ent.nil | exact Ent.left | refine Ent.dropR ?_ | refine Ent.tr Ent.skip ?_))) (mapget hw) rfl rfl (.s (.s .z)) rfl ?_
      refine p_alloc zr_115 rfl fun b6 => ?_
      refine p_store (.ofA ta_115) rfl rfl rfl rfl rfl (by repeat constructor) ?_
      refine o_keep (.c 0 rfl (.c 2 rfl (.c 3 rfl (.c 4 rfl (.c 6 rfl (.c 7 rfl (.c 10 rfl (.c 11 rfl (.c 12 rfl .n))))))))) (r_sr (p_fa fa_115_0 rfl rfl (p_ldc tc_3 rfl (by rfl) rfl ?_)))
      refine p_callv cf_80 (.c rfl .n) rfl (plan_Shop _ _ _) ?_
      refine p_mv rfl rfl (p_eql rfl rfl rfl (o_keep (.c 0 rfl (.c 2 rfl (.c 3 rfl (.c 4 rfl (.c 7 rfl (.c 10 rfl (.c 11 rfl (.c 12 rfl (.c 20 rfl .n))))))))) (r_cond _ rfl (fun h3 => ?_) (fun h3 => ?_))))
      ·try simp only [bq1, bq2, bq3, bq4, bq5, bq6, bq7, bq8] at h3
       refine r_sr (p_mv rfl rfl (p_mv rfl rfl ?_))
       refine p_bslice1 Tryz.underlying59 (.ofC tc_3) zr_3 rfl rfl rfl rfl rfl rfl rfl fun b23 => ?_
       refine p_append Tryz.underlying59 el_3 rfl rfl rfl rfl rfl (Rd.blit rfl rfl) (by simp; have := shopsTo_len (l := l) (s := s); omega) fun v24 => ?_
       refine o_rd v24 fun hr24 => ?_
       refine p_as rfl rfl (o_keep (.c 0 rfl (.c 2 rfl (.c 3 rfl (.c 4 rfl (.c 7 rfl (.c 10 rfl (.c 11 rfl (.c 12 rfl .n)))))))) (r_exit rfl ?_))
       refine r_join_1 (_) ?_ (Keep.app (.c 3 rfl .n) (.c 0 rfl (.c 2 rfl (.c 7 rfl .n)))) ?_
       ·trivial
       ·rw [shops_hit (s := s) hw (by assumption), List.map_append]; repeat first|exact eR|refine eB ?_|refine eS ?_|refine eN ?_|refine eX ?_|refine eD ?_
      ·try simp only [bq1, bq2, bq3, bq4, bq5, bq6, bq7, bq8] at h3
       refine r_skip (r_end (r_region (p_add rfl rfl (by omega) rfl (p_mv rfl rfl (o_keep (.c 0 rfl (.c 2 rfl (.c 3 rfl (.c 4 rfl (.c 7 rfl (.c 10 rfl (.c 11 rfl (.c 12 rfl .n)))))))) ?_)))))
       refine r_back_1 (j + 1) ?_ ?_ (Keep.app (.c 12 rfl .n) (.c 0 rfl (.c 2 rfl (.c 3 rfl (.c 4 rfl (.c 7 rfl (.c 10 rfl (.c 11 rfl .n)))))))) ?_
       ·exact ⟨by omega, miss_in hJ hw (by assumption)⟩
       ·omega
       ·repeat first|exact eR|refine eB ?_|refine eS ?_|refine eN ?_|refine eX ?_|refine eD ?_
     ·try simp only [bq1, bq2, bq3, bq4, bq5, bq6, bq7, bq8] at h2
      have hj : l.length ≤ j := by omega
      refine r_exit rfl ?_
      refine r_join_1 (ov) ?_ (Keep.app (.c 3 rfl .n) (.c 0 rfl (.c 2 rfl (.c 7 rfl .n)))) ?_
      ·trivial
      ·rw [shops_miss (s := s) hJ hj]; repeat first|exact eR|refine eB ?_|refine eS ?_|refine eN ?_|refine eX ?_|refine eD ?_
   refine r_end (r_region (p_add rfl rfl (by omega) rfl (p_mv rfl rfl (o_keep (.c 0 rfl (.c 2 rfl (.c 3 rfl (.c 7 rfl .n)))) ?_))))
   refine r_back_2 (s + 1) (ov1) ?_ ?_ (Keep.app (.c 7 rfl (.c 3 rfl .n)) (.c 0 rfl (.c 2 rfl .n))) ?_
   ·omega
   ·omega
   ·repeat first|exact eR|refine eB ?_|refine eS ?_|refine eN ?_|refine eX ?_|refine eD ?_
  ·try simp only [bq1, bq2, bq3, bq4, bq5, bq6, bq7, bq8] at h1
   refine r_exit rfl (r_sr (p_mv rfl rfl (p_as rfl rfl (o_keep (.c 2 rfl .n) ?_))))
   refine r_rete (ov) hF rfl (.c (.t rfl) .n) ?_ ?_
   ·have hs3 : s = 3 := (by omega); subst hs3; exact Ent.rfl
   ·rfl

theorem wget2 {ws : List Int} {i : Nat} {n : Int} (h : i < ws.length) : ((ws.set i n).map vI)[i]? = some (.int .i64 n) := by rw [List.getElem?_map, List.getElem?_set_self h]; rfl
theorem wget {ws : List Int} {i : Nat} (h : i < ws.length) : (ws.map vI)[i]? = some (.int .i64 (ws.getD i 0)) := by rw [List.getElem?_map, getDs (d := 0) h]; rfl
theorem eq_World {ws vs : List Int} (h1 : ws.length = 6) (h2 : vs.length = 6) : EqT Tryz.prog 34 (ws.map vI) (vs.map vI) (decide (ws = vs)) :=
  EqT.ints (n := 6) Tryz.underlying34 (show Tryz.prog.info? 3 = some ((Tryz.prog.info? 3).getD default) by kernel_rfl) Tryz.underlying3 (by kernel_rfl) tc_3 (by kernel_rfl) h1 h2
theorem eq_Fault {f g : Flt} : EqT Tryz.prog 29 (rF f) (rF g) (decide (f = g)) :=
  ⟨Tryz.eqGuardType29, fun w => by
    obtain ⟨a, b⟩ := f
    obtain ⟨a', b'⟩ := g
    simp only [rF]
    rw [show (10000 : Nat) = 9998 + 1 + 1 from rfl, run_equalIn_agg w _ _ _ _ Tryz.underlying29 Tryz.stoodInHeld29]
    by_cases h1 : a = a' <;> by_cases h2 : b = b' <;> simp [Program.fieldsOf, Op.eqFields, part, run_equalIn_int w _ _ _ _ _ _ Tryz.underlying3, h1, h2]⟩
theorem applyL_err {ws : List Int} {l : List Want} (h : (checkL l).code ≠ 0) : applyL ws l = (z6, checkL l) := by unfold applyL; rw [if_pos h]
theorem applyL_go {ws : List Int} {l : List Want} (h : (checkL l).code = 0) : applyL ws l = goA ws (l.take l.length |>.drop 0) 0 ∧ ∀ w ∈ l, wantF w = 0 := by
  refine ⟨by unfold applyL; rw [if_neg (by omega)]; simp, ((checkL_ok l).1 h).2.2.1⟩
theorem goA_at {ws wc : List Int} {l : List Want} {i : Nat} {w : Want} (hI : applyL ws l = goA wc (l.drop i) i) (hw : l[i]? = some w) :
    (wc.getD w.ctr.toNat 0 < 0 ∨ 100 < wc.getD w.ctr.toNat 0 → applyL ws l = (z6, ⟨1, i⟩)) ∧ (¬ (wc.getD w.ctr.toNat 0 < 0 ∨ 100 < wc.getD w.ctr.toNat 0) → wc.getD w.ctr.toNat 0 + w.dl < 0 → applyL ws l = (z6, ⟨5, i⟩)) ∧
    (¬ (wc.getD w.ctr.toNat 0 < 0 ∨ 100 < wc.getD w.ctr.toNat 0) → ¬ wc.getD w.ctr.toNat 0 + w.dl < 0 → 100 < wc.getD w.ctr.toNat 0 + w.dl → applyL ws l = (z6, ⟨6, i⟩)) ∧
    (¬ (wc.getD w.ctr.toNat 0 < 0 ∨ 100 < wc.getD w.ctr.toNat 0) → ¬ wc.getD w.ctr.toNat 0 + w.dl < 0 → ¬ 100 < wc.getD w.ctr.toNat 0 + w.dl → applyL ws l = goA (wc.set w.ctr.toNat (wc.getD w.ctr.toNat 0 + w.dl)) (l.drop (i + 1)) (i + 1)) := by
  rw [drop_at hw] at hI
  unfold goA at hI
  refine ⟨fun h => ?_, fun h h2 => ?_, fun h h2 h3 => ?_, fun h h2 h3 => ?_⟩
  · rw [if_pos h] at hI; exact hI
  · rw [if_neg h, if_pos h2] at hI; exact hI
  · rw [if_neg h, if_neg h2, if_pos h3] at hI; exact hI
  · rw [if_neg h, if_neg h2, if_neg h3] at hI; exact hI

theorem plan_Apply (M : Amb) (H : List HP) (v : Value) (l : List Want) (ws : List Int) (hv : Rd M H v 2 (l.map rW)) (hb : l.length ≤ 100000) (h6 : ws.length = 6) : FnV Tryz.prog M H 73 [.agg (ws.map vI).toArray, v] (.tuple #[.agg ((applyL ws l).1.map vI).toArray, .agg (rF (applyL ws l).2).toArray]) := by
 refine fn_intro Tryz.func73 rfl Tryz.ntmps73 rfl fun F hF => ?_
 refine r_sr (p_box rfl rfl rfl fun b2 => ?_)
 refine p_alloc zr_34 rfl fun b4 => ?_
 refine p_alloc zr_29 rfl fun b5 => ?_
 refine o_keep (.c 1 rfl (.c 2 rfl (.c 4 rfl (.c 5 rfl .n)))) (r_seq (r_sr (p_mv rfl rfl ?_)))
 refine p_callv cf_94 (.c rfl .n) rfl (plan_Check _ _ _ _ (Rd.ent hv (by repeat (first | exact Ent.rfl | exact Ent.one Ent.h | exact Ent.one (SelS.ent) | exact Ent.nil | exact Ent.left | refine Ent.dropR ?_))) hb) ?_
 refine p_alloc zr_29 rfl fun b6 => ?_
 refine p_store (.ofA ta_29) rfl rfl rfl rfl rfl (by repeat constructor) ?_
 refine o_keep (.c 1 rfl (.c 2 rfl (.c 4 rfl (.c 5 rfl (.c 6 rfl .n))))) (r_sr (p_fa fa_29_0 rfl rfl (p_ldc tc_3 rfl (by rfl) rfl ?_)))
 refine p_neq rfl rfl rfl (o_keep (.c 1 rfl (.c 2 rfl (.c 4 rfl (.c 5 rfl (.c 6 rfl (.c 14 rfl .n)))))) (r_cond _ rfl (fun h1 => ?_) (fun h1 => ?_)))
 ·try simp only [bq1, bq2, bq3, bq4, bq5, bq6, bq7, bq8] at h1
  have ha := applyL_err (ws := ws) h1
  refine r_seq ?_
  refine r_plan (_) ([blk b4 [.int .i64 0, .int .i64 0, .int .i64 0, .int .i64 0, .int .i64 0, .int .i64 0] 34, blk b5 [.int .i64 0, .int .i64 0] 29]) mo (.c 1 rfl (.c 2 rfl (.c 4 rfl (.c 5 rfl (.c 6 rfl .n))))) ((Ent.c SelB.ent (Ent.c SelB.ent Ent.rfl))) ?_
  refine qp 0 [] rfl rfl rfl rfl (by kernel_rfl) rfl (pv_buildA zr_34 Tryz.underlying34 (.ofC tc_3) (.n rfl) rfl (.n)) (qr 1 [.k 6] rfl rfl rfl rfl (by kernel_rfl) rfl (fun He => q_lda ta_29 (.n rfl) rfl rfl (fun _ => rfl) (by exact (.s (.s .z)))) ?_)
  refine qm_store (.ofA ta_34) (i := 2) [.k 4, .o 0] (by kernel_rfl) (by kernel_rfl) rfl rfl rfl (by kernel_rfl) (by kernel_rfl) ⟨_, .n rfl, rfl⟩ rfl rfl rfl rfl (by first | rfl | exact (by first | rfl | assumption | (simp only [List.drop_zero, List.length_map]; assumption) | (simp [*]; done))) (by first | rfl | exact (by simp [vI, Value.oneCell'])) (Ins.whole (by first | rfl | (simp only [List.length_map, List.length_cons, List.length_nil]; omega) | (simp [*]; done) | (simp [*]; rfl))) ?_
  refine qb_store (.ofA ta_29) (i := 3) [.k 5, .o 1] (by kernel_rfl) (by kernel_rfl) rfl rfl rfl (by kernel_rfl) (by kernel_rfl) (by kernel_rfl) ⟨_, .n rfl, rfl⟩ rfl rfl rfl rfl rfl rfl (by repeat constructor) ?_
  refine qm_n (by kernel_rfl) (by kernel_rfl) (by kernel_rfl) (by kernel_rfl) (.c 1 rfl (.c 2 rfl (.c 4 rfl (.c 5 rfl .n)))) ?_
  refine r_retv hF rfl (.c (.a rfl ta_34 (.blk (SelB.ent) (Tk.all rfl)) (by first | rfl | assumption | (simp only [List.drop_zero, List.length_map]; assumption) | (simp [*]; done))) (.c (.a rfl ta_29 (.blk (SelB.ent) (.s (.s .z))) rfl) .n)) ?_ ?_
  ·repeat first|exact eR|refine eB ?_|refine eS ?_|refine eN ?_|refine eX ?_|refine eD ?_
  ·rw [ha]; rfl
 ·try simp only [bq1, bq2, bq3, bq4, bq5, bq6, bq7, bq8] at h1
  obtain ⟨hg0, hok⟩ := applyL_go (ws := ws) (l := l) (by omega)
  refine r_skip (r_seq (r_sr (p_mv rfl rfl (l_op (x_p (pv_lens hv.len ⟨_, Tryz.underlying85⟩ (.n rfl) rfl rfl rfl rfl (fun _ => rfl)) rfl rfl (p_mv rfl rfl (o_keep (.c 2 rfl (.c 4 rfl (.c 5 rfl (.c 17 rfl (.c 18 rfl (.c 19 rfl .n)))))) (r_block ?_))))))))
  refine r_loop_2 (fun (i : Nat) (wc : List Int) => [(19, true, .int .i64 (i : Int))]) (.c 2 rfl (.c 4 rfl (.c 5 rfl (.c 17 rfl (.c 18 rfl .n))))) (fun (i : Nat) (wc : List Int) => blk b2 (wc.map vI) 34 :: blk b4 (z6.map vI) 34 :: blk b5 (rF ⟨0, 0⟩) 29 :: H) (fun (i : Nat) (wc : List Int) => i ≤ l.length ∧ wc.length = 6 ∧ applyL ws l = goA wc (l.drop i) i) (fun (i : Nat) (wc : List Int) => l.length - i) (0) (ws) ?_ (.c 19 rfl .n) ?_ (fun i wc hI => ?_)
  ·exact ⟨Nat.zero_le _, h6, by rw [hg0]; simp⟩
  ·repeat first|exact eR|refine eB ?_|refine eS ?_|refine eN ?_|refine eX ?_|refine eD ?_
  ·skip
   obtain ⟨hil, hc6, hI⟩ := hI
   refine r_sr (p_lss rfl rfl rfl (o_keep (.c 2 rfl (.c 4 rfl (.c 5 rfl (.c 17 rfl (.c 18 rfl (.c 19 rfl (.c 20 rfl .n))))))) (r_seq (r_cond _ rfl (fun h2 => ?_) (fun h2 => ?_)))))
   ·try simp only [bq1, bq2, bq3, bq4, bq5, bq6, bq7, bq8] at h2
    obtain ⟨w, hw⟩ := getlt (l := l) (i := i) (by omega)
    have hwk := wantF_ok (hok w (List.mem_of_getElem? hw))
    have hg := goA_at hI hw
    refine r_skip (r_seq (r_block (r_sr (p_mv rfl rfl (p_idx Tryz.underlying85 (.ofA ta_115) hv rfl (mapget hw) rfl rfl rfl ?_)))))
    refine p_ldats 0 ta_115 (Rd.ent hv (by repeat (first | exact Ent.rfl | exact Ent.one Ent.h | exact Ent.one (SelS.ent) | exact Ent.nil | exact Ent.left | refine Ent.dropR ?_ | refine Ent.tr Ent.skip ?_))) (mapget hw) rfl rfl (.s (.s .z)) rfl ?_
    refine p_alloc zr_115 rfl fun b8 => ?_
    refine p_as rfl rfl ?_
    refine p_store (.ofA ta_115) rfl rfl rfl rfl rfl (by repeat constructor) ?_
    refine o_keep (.c 2 rfl (.c 4 rfl (.c 5 rfl (.c 7 rfl (.c 8 rfl (.c 17 rfl (.c 18 rfl (.c 19 rfl .n)))))))) (r_sr (p_fa fa_115_0 rfl rfl (p_ldc tc_3 rfl (by rfl) rfl ?_)))
    refine l_op (x_p (pv_aidx (i := w.ctr.toNat) Tryz.underlying34 (.ofC tc_3) (fun hg => ⟨by omega, by omega⟩) (.n rfl) rfl rfl rfl (fun _ => ⟨rfl, rfl⟩)) rfl rfl (l_op (x_r (q_ldci (i := w.ctr.toNat) tc_3 (.n rfl) rfl rfl (fun _ => rfl) (by omega) (wget (by omega))) rfl rfl ?_)))
    refine p_as rfl rfl (o_keep (.c 2 rfl (.c 4 rfl (.c 5 rfl (.c 7 rfl (.c 8 rfl (.c 9 rfl (.c 17 rfl (.c 18 rfl (.c 19 rfl .n))))))))) (r_seq (r_block (r_sr (p_mv rfl rfl (p_lss rfl rfl rfl (p_mv rfl rfl ?_)))))))
    refine l_op (x_p (pv_mv (.s rfl rfl rfl) rfl rfl (by first | exact fun _ => rfl | exact id | exact fun h => (Bool.and_eq_true_iff.1 h).1 | simp_all)) rfl rfl ?_)
    refine l_op (x_p (pv_gtr (.s rfl rfl rfl) rfl rfl rfl (by refine fun h => ⟨?_, ?_⟩ <;> first | rfl | exact h | exact (Bool.and_eq_true_iff.1 h).1 | simp_all)) rfl rfl ?_)
    refine l_op (x_p (pv_or (.n rfl) rfl rfl rfl (fun _ => ⟨rfl, fun hc => by first | rfl | (rw [hc]; rfl) | simp_all⟩)) rfl rfl ?_)
    refine p_as rfl rfl (o_keep (.c 2 rfl (.c 4 rfl (.c 5 rfl (.c 7 rfl (.c 8 rfl (.c 9 rfl (.c 17 rfl (.c 18 rfl (.c 19 rfl (.c 28 rfl .n)))))))))) (r_cond _ rfl (fun h3 => ?_) (fun h3 => ?_)))
    ·try simp only [bq1, bq2, bq3, bq4, bq5, bq6, bq7, bq8] at h3
     have ha := hg.1 h3
     refine r_sr (l_op (x_p (pv_buildA zr_34 Tryz.underlying34 (.ofC tc_3) (.n rfl) rfl (.n)) rfl rfl (p_mv rfl rfl ?_)))
     refine p_build zr_29 pl_29 (.c rfl (fun _ => rfl) rfl rfl rfl (by repeat constructor) (.c rfl (fun _ => rfl) rfl rfl rfl (by repeat constructor) .n)) rfl ?_
     refine p_store (.ofA ta_34) rfl rfl rfl (by first | rfl | exact (by first | rfl | assumption | (simp only [List.drop_zero, List.length_map]; assumption) | (simp [*]; done))) (by first | rfl | exact (by simp [vI, Value.oneCell'])) (Ins.whole (by first | rfl | (simp only [List.length_map, List.length_cons, List.length_nil]; omega) | (simp [*]; done) | (simp [*]; rfl))) ?_
     refine p_store (.ofA ta_29) rfl rfl rfl rfl rfl (by repeat constructor) ?_
     refine o_keep (.c 2 rfl (.c 4 rfl (.c 5 rfl (.c 8 rfl (.c 9 rfl (.c 17 rfl (.c 18 rfl (.c 19 rfl .n)))))))) ?_
     refine r_retv hF rfl (.c (.a rfl ta_34 (.blk (SelB.ent) (Tk.all rfl)) (by first | rfl | assumption | (simp only [List.drop_zero, List.length_map]; assumption) | (simp [*]; done))) (.c (.a rfl ta_29 (.blk (SelB.ent) (.s (.s .z))) rfl) .n)) ?_ ?_
     ·repeat first|exact eR|refine eB ?_|refine eS ?_|refine eN ?_|refine eX ?_|refine eD ?_
     ·rw [ha]; rfl
    ·try simp only [bq1, bq2, bq3, bq4, bq5, bq6, bq7, bq8] at h3
     have h28 := h3
     refine r_sr (p_mv rfl rfl (p_fa fa_115_1 rfl rfl (p_ldc tc_3 rfl (by rfl) rfl ?_)))
     refine p_add rfl rfl (by omega) rfl (p_lss rfl rfl rfl (p_as rfl rfl (o_keep (.c 2 rfl (.c 4 rfl (.c 5 rfl (.c 7 rfl (.c 8 rfl (.c 9 rfl (.c 17 rfl (.c 18 rfl (.c 19 rfl (.c 38 rfl .n)))))))))) (r_cond _ rfl (fun h4 => ?_) (fun h4 => ?_)))))
     ·try simp only [bq1, bq2, bq3, bq4, bq5, bq6, bq7, bq8] at h4
      have ha := hg.2.1 (by omega) h4
      refine r_sr (l_op (x_p (pv_buildA zr_34 Tryz.underlying34 (.ofC tc_3) (.n rfl) rfl (.n)) rfl rfl (p_mv rfl rfl ?_)))
      refine p_build zr_29 pl_29 (.c rfl (fun _ => rfl) rfl rfl rfl (by repeat constructor) (.c rfl (fun _ => rfl) rfl rfl rfl (by repeat constructor) .n)) rfl ?_
      refine p_store (.ofA ta_34) rfl rfl rfl (by first | rfl | exact (by first | rfl | assumption | (simp only [List.drop_zero, List.length_map]; assumption) | (simp [*]; done))) (by first | rfl | exact (by simp [vI, Value.oneCell'])) (Ins.whole (by first | rfl | (simp only [List.length_map, List.length_cons, List.length_nil]; omega) | (simp [*]; done) | (simp [*]; rfl))) ?_
      refine p_store (.ofA ta_29) rfl rfl rfl rfl rfl (by repeat constructor) ?_
      refine o_keep (.c 2 rfl (.c 4 rfl (.c 5 rfl (.c 8 rfl (.c 9 rfl (.c 17 rfl (.c 18 rfl (.c 19 rfl .n)))))))) ?_
      refine r_retv hF rfl (.c (.a rfl ta_34 (.blk (SelB.ent) (Tk.all rfl)) (by first | rfl | assumption | (simp only [List.drop_zero, List.length_map]; assumption) | (simp [*]; done))) (.c (.a rfl ta_29 (.blk (SelB.ent) (.s (.s .z))) rfl) .n)) ?_ ?_
      ·repeat first|exact eR|refine eB ?_|refine eS ?_|refine eN ?_|refine eX ?_|refine eD ?_
      ·rw [ha]; rfl
     ·try simp only [bq1, bq2, bq3, bq4, bq5, bq6, bq7, bq8] at h4
      have h38 := h4
      refine r_sr (p_mv rfl rfl (p_fa fa_115_1 rfl rfl (p_ldc tc_3 rfl (by rfl) rfl ?_)))
      refine p_add rfl rfl (by omega) rfl (p_gtr rfl rfl rfl (p_as rfl rfl (o_keep (.c 2 rfl (.c 4 rfl (.c 5 rfl (.c 7 rfl (.c 8 rfl (.c 9 rfl (.c 17 rfl (.c 18 rfl (.c 19 rfl (.c 47 rfl .n)))))))))) (r_cond _ rfl (fun h5 => ?_) (fun h5 => ?_)))))
      ·try simp only [bq1, bq2, bq3, bq4, bq5, bq6, bq7, bq8] at h5
       have ha := hg.2.2.1 (by omega) (by omega) h5
       refine r_sr (l_op (x_p (pv_buildA zr_34 Tryz.underlying34 (.ofC tc_3) (.n rfl) rfl (.n)) rfl rfl (p_mv rfl rfl ?_)))
       refine p_build zr_29 pl_29 (.c rfl (fun _ => rfl) rfl rfl rfl (by repeat constructor) (.c rfl (fun _ => rfl) rfl rfl rfl (by repeat constructor) .n)) rfl ?_
       refine p_store (.ofA ta_34) rfl rfl rfl (by first | rfl | exact (by first | rfl | assumption | (simp only [List.drop_zero, List.length_map]; assumption) | (simp [*]; done))) (by first | rfl | exact (by simp [vI, Value.oneCell'])) (Ins.whole (by first | rfl | (simp only [List.length_map, List.length_cons, List.length_nil]; omega) | (simp [*]; done) | (simp [*]; rfl))) ?_
       refine p_store (.ofA ta_29) rfl rfl rfl rfl rfl (by repeat constructor) ?_
       refine o_keep (.c 2 rfl (.c 4 rfl (.c 5 rfl (.c 8 rfl (.c 9 rfl (.c 17 rfl (.c 18 rfl (.c 19 rfl .n)))))))) ?_
       refine r_retv hF rfl (.c (.a rfl ta_34 (.blk (SelB.ent) (Tk.all rfl)) (by first | rfl | assumption | (simp only [List.drop_zero, List.length_map]; assumption) | (simp [*]; done))) (.c (.a rfl ta_29 (.blk (SelB.ent) (.s (.s .z))) rfl) .n)) ?_ ?_
       ·repeat first|exact eR|refine eB ?_|refine eS ?_|refine eN ?_|refine eX ?_|refine eD ?_
       ·rw [ha]; rfl
      ·try simp only [bq1, bq2, bq3, bq4, bq5, bq6, bq7, bq8] at h5
       have hnx := hg.2.2.2 (by omega) (by omega) h5
       refine r_skip (r_end (r_region (p_fa fa_115_0 rfl rfl (p_ldc tc_3 rfl (by rfl) rfl ?_))))
       refine p_mv rfl rfl (p_fa fa_115_1 rfl rfl (p_ldc tc_3 rfl (by rfl) rfl ?_))
       refine p_add rfl rfl (by omega) rfl (l_op (x_p (pv_aidx (i := w.ctr.toNat) Tryz.underlying34 (.ofC tc_3) (fun hg => ⟨by omega, by omega⟩) (.n rfl) rfl rfl rfl (fun _ => ⟨rfl, rfl⟩)) rfl rfl ?_))
       refine p_store (.ofC tc_3) rfl rfl rfl rfl rfl (Ins.atm' (f := vI) (i := w.ctr.toNat) (by omega) (by omega)) ?_
       refine o_keep (.c 2 rfl (.c 4 rfl (.c 5 rfl (.c 17 rfl (.c 18 rfl (.c 19 rfl .n)))))) (r_end (r_region (p_add rfl rfl (by omega) rfl (p_mv rfl rfl (o_keep (.c 2 rfl (.c 4 rfl (.c 5 rfl (.c 17 rfl (.c 18 rfl (.c 19 rfl .n)))))) ?_)))))
       refine r_back_2 (i + 1) (wc.set w.ctr.toNat (wc.getD w.ctr.toNat 0 + w.dl)) ?_ ?_ (Keep.app (.c 19 rfl .n) (.c 2 rfl (.c 4 rfl (.c 5 rfl (.c 17 rfl (.c 18 rfl .n)))))) ?_
       ·exact ⟨by omega, by simpa using hc6, hnx⟩
       ·omega
       ·repeat first|exact eR|refine eB ?_|refine eS ?_|refine eN ?_|refine eX ?_|refine eD ?_
   ·try simp only [bq1, bq2, bq3, bq4, bq5, bq6, bq7, bq8] at h2
    have ha : applyL ws l = (wc, ⟨0, 0⟩) := by rw [hI, List.drop_eq_nil_of_le (by omega)]; rfl
    refine r_exit rfl (r_sr ?_)
    refine p_lda ta_34 rfl (by exact (Tk.all (by first | rfl | assumption | (simp only [List.drop_zero, List.length_map]; assumption) | (simp [*]; done)))) rfl ?_
    refine p_build zr_29 pl_29 (.n) rfl ?_
    refine p_store (.ofA ta_34) rfl rfl rfl (by first | rfl | exact (by first | rfl | assumption | (simp only [List.drop_zero, List.length_map]; assumption) | (simp [*]; done))) (by first | rfl | exact (by simp [vI, Value.oneCell'])) (Ins.whole (by first | rfl | (simp only [List.length_map, List.length_cons, List.length_nil]; omega) | (simp [*]; done) | (simp [*]; rfl))) ?_
    refine p_store (.ofA ta_29) rfl rfl rfl rfl rfl (by repeat constructor) ?_
    refine o_keep (.c 4 rfl (.c 5 rfl .n)) ?_
    refine r_retv hF rfl (.c (.a rfl ta_34 (.blk (SelB.ent) (Tk.all rfl)) (by first | rfl | assumption | (simp only [List.drop_zero, List.length_map]; assumption) | (simp [*]; done))) (.c (.a rfl ta_29 (.blk (SelB.ent) (.s (.s .z))) rfl) .n)) ?_ ?_
    ·repeat first|exact eR|refine eB ?_|refine eS ?_|refine eN ?_|refine eX ?_|refine eD ?_
    ·rw [ha]; rfl

end Go.Proofs.YtmakdilmibjpbabGreatDoor
