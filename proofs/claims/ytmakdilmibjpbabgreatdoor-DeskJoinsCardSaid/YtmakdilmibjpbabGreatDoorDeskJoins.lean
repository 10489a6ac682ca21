/- The walks of DeskJoins: written by a program of ours (gen.py) over the engine. -/
import Derived.Test.YtmakdilmibjpbabGreatDoorWants
import Derived.Test.YtmakdilmibjpbabGreatDoorFacts
import Derived.Test.YtmakdilmibjpbabGreatDoorDeskG
namespace Go.Proofs.YtmakdilmibjpbabGreatDoor
open Go Go.RowKit
set_option linter.unusedVariables false
set_option linter.unusedSimpArgs false
set_option maxRecDepth 20000

theorem law_DeskJoins (M : Amb) (H : List HP) (L : LibOk M) (v : Value) (l : List (List UInt8)) (hv : Rd M [] v 1 (l.map rS)) (hb : ∀ s ∈ l, s.length ≤ 140737488355328) (c : Int) : FnV Tryz.prog M H 3 [v, .int .i64 c] (.bool true) := by
 refine fn_intro Tryz.func3 rfl Tryz.ntmps3 rfl fun F hF => ?_
 refine r_sr (p_as rfl rfl (o_keep (.c 0 rfl (.c 1 rfl (.c 4 rfl .n))) (r_seq (r_sr ?_))))
 refine p_callv cf_4 (.n) rfl (law_begun _ _ L) ?_
 refine p_not rfl rfl (o_keep (.c 0 rfl (.c 1 rfl (.c 4 rfl (.c 17 rfl .n)))) (r_cond _ rfl (fun h1 => ?_) (fun h1 => ?_)))
 ·simp at h1
 ·skip
  refine r_skip (r_seq (r_sr (p_mv rfl rfl (l_op (x_p (pv_lens (Rd.len hv) ⟨_, Tryz.underlying22⟩ (.n rfl) rfl rfl rfl rfl (fun _ => rfl)) rfl rfl (p_gtr rfl rfl rfl (p_mv rfl rfl (l_op (x_p (pv_mv (.s rfl rfl rfl) rfl rfl (by first | exact fun _ => rfl | exact id | exact fun h => (Bool.and_eq_true_iff.1 h).1 | simp_all)) rfl rfl ?_)))))))))
  refine l_op (x_q (rq_call cf_5 (.s rfl rfl rfl) rfl (.c rfl (by first | exact fun _ => rfl | exact id | exact fun h => (Bool.and_eq_true_iff.1 h).1 | simp_all) .n) (fun hg => law_slow _ _ _ l hv.all (by simp at hg; omega) hb)) rfl rfl ?_)
  refine l_op (x_p (pv_or (.n rfl) rfl rfl rfl (fun _ => ⟨rfl, fun hc => by first | rfl | (rw [hc]; rfl) | simp_all⟩)) rfl rfl ?_)
  refine o_keep (.c 0 rfl (.c 1 rfl (.c 4 rfl (.c 24 rfl .n)))) (r_cond _ rfl (fun h2 => ?_) (fun h2 => ?_))
  ·skip
   refine r_sr (p_as rfl rfl (o_keep (.c 0 rfl (.c 1 rfl (.c 4 rfl .n))) ?_))
   refine r_retv hF rfl (.c (.t rfl) .n) ?_ ?_
   ·repeat first|exact eR|refine eB ?_|refine eS ?_|refine eN ?_|refine eX ?_|refine eD ?_
   ·rfl
  ·skip
   have hL : l.length ≤ 150 ∧ slowL l = false := by simp at h2; exact ⟨by have := h2.1; omega, h2.2⟩
   obtain ⟨hL1, hsl⟩ := hL
   have hs := slowA_no hsl
   have hrl := rnd_lt (n := c) (L := l.length + 1) (by omega)
   refine r_skip (r_sr (p_mv rfl rfl (l_op (x_p (pv_conv Tryz.underlying3 Tryz.underlying25 (.n rfl) rfl rfl (fun _ => rfl)) rfl rfl (p_mv rfl rfl (l_op (x_p (pv_lens (Rd.len hv) ⟨_, Tryz.underlying22⟩ (.n rfl) rfl rfl rfl rfl (fun _ => rfl)) rfl rfl (p_add rfl rfl (by first | omega | exact u64_ne (L := l.length + 1) (by omega) (by omega)) rfl ?_))))))))
   refine l_op (x_p (pv_conv Tryz.underlying3 Tryz.underlying25 (.n rfl) rfl rfl (fun _ => rfl)) rfl rfl (l_op (x_p (pv_rem (fun _ => by first | omega | exact u64_ne (L := l.length + 1) (by omega) (by omega)) (.n rfl) rfl rfl rfl (fun _ => ⟨rfl, rfl⟩)) rfl rfl (l_op (x_p (pv_conv Tryz.underlying25 Tryz.underlying3 (.n rfl) rfl rfl (fun _ => rfl)) rfl rfl (p_as rfl rfl ?_))))))
   refine o_keep (.c 0 rfl (.c 4 rfl (.c 5 rfl .n))) ?_
   rw [show (IntKind.i64.wrap ((IntKind.u64.wrap c).tmod (IntKind.u64.wrap ((l.length : Int) + 1)))) = (rnd c (l.length + 1) : Int) from rnd_eq (L := l.length + 1) (by omega) (by omega)]
   generalize rnd c (l.length + 1) = k at hrl ⊢
   have ha1 := doS_len tn0_inv (l := l.take k) (by simp; omega)
   have ha2 := doS_len (tn0_inv.doS (l.take k)) (l := l.drop k) (by simp; omega)
   refine r_sr ?_
   refine p_calle cf_6 (.n) rfl (desk_New _) fun dx => ?_
   refine o_cat ?_
   refine p_calle cf_6 (.n) rfl (desk_New _) fun ex => ?_
   refine o_cat ?_
   refine p_as rfl rfl (p_as rfl rfl (o_keep (.c 0 rfl (.c 4 rfl (.c 5 rfl (.c 6 rfl (.c 7 rfl .n))))) (r_sr (p_mv rfl rfl (p_mv rfl rfl (p_mv rfl rfl ?_))))))
   refine l_op (x_p (pv_slc (l := 0) (h := k) Tryz.underlying22 (.ofC tc_9) hv (Nat.zero_le _) (by rw [List.length_map]; omega) rfl rfl rfl (.inl ⟨rfl, rfl, rfl⟩) (.inr ⟨_, _, rfl, rfl, rfl⟩)) rfl rfl ?_)
   refine p_callc cf_7 (.c rfl (.c rfl .n)) rfl (desk_Do _ L dx.1 dx.2 tn0 (tn0_inv) _ (l.take k) (Rd.to (hv.resl (Nat.zero_le _) (show k ≤ (l.map rS).length by rw [List.length_map]; omega)) (by simp)) (by simp; omega) (fun s h => hs s (List.mem_of_mem_take h))) ?_
   refine p_mv rfl rfl (p_ext rfl rfl rfl (p_ext rfl rfl rfl (p_alloc zr_29 rfl fun b9 => ?_)))
   refine p_as rfl rfl ?_
   refine p_store (.ofA ta_29) rfl rfl rfl (by first | rfl | exact rfl) (by first | rfl | exact rfl) (Ins.whole (by first | rfl | (simp only [List.length_map, List.length_cons, List.length_nil]; omega) | (simp [*]; done) | (simp [*]; rfl))) ?_
   refine o_keep (.c 0 rfl (.c 4 rfl (.c 5 rfl (.c 6 rfl (.c 7 rfl (.c 8 rfl (.c 9 rfl .n))))))) (r_sr (p_mv rfl rfl (p_mv rfl rfl ?_)))
   refine p_callc cf_7 (.c rfl (.c rfl .n)) rfl (desk_Do _ L ex.1 ex.2 tn0 (tn0_inv) _ l hv (by omega) hs) ?_
   refine p_mv rfl rfl (p_ext rfl rfl rfl (p_ext rfl rfl rfl (p_alloc zr_29 rfl fun b11 => ?_)))
   refine p_as rfl rfl ?_
   refine p_store (.ofA ta_29) rfl rfl rfl (by first | rfl | exact rfl) (by first | rfl | exact rfl) (Ins.whole (by first | rfl | (simp only [List.length_map, List.length_cons, List.length_nil]; omega) | (simp [*]; done) | (simp [*]; rfl))) ?_
   refine o_keep (.c 0 rfl (.c 4 rfl (.c 5 rfl (.c 6 rfl (.c 8 rfl (.c 9 rfl (.c 10 rfl (.c 11 rfl .n)))))))) (r_sr (p_mv rfl rfl (p_mv rfl rfl (p_mv rfl rfl ?_))))
   refine l_op (x_p (pv_slc (l := k) (h := (l.map rS).length) Tryz.underlying22 (.ofC tc_9) hv (by rw [List.length_map]; omega) (Nat.le_refl _) rfl rfl rfl (.inr ⟨_, _, rfl, rfl, rfl⟩) (.inl ⟨rfl, rfl, rfl⟩)) rfl rfl ?_)
   refine p_callc cf_7 (.c rfl (.c rfl .n)) rfl (desk_Do _ L dx.1 dx.2 (doS tn0 (l.take k)).1 (tn0_inv.doS _) _ (l.drop k) (Rd.to (hv.resl (show k ≤ (l.map rS).length by rw [List.length_map]; omega) (Nat.le_refl _)) (by rw [List.take_length, List.map_drop])) (by simp; omega) (fun s h => hs s (List.mem_of_mem_drop h))) ?_
   refine p_mv rfl rfl (p_ext rfl rfl rfl (p_ext rfl rfl rfl (p_alloc zr_29 rfl fun b13 => ?_)))
   refine p_as rfl rfl ?_
   refine p_store (.ofA ta_29) rfl rfl rfl (by first | rfl | exact rfl) (by first | rfl | exact rfl) (Ins.whole (by first | rfl | (simp only [List.length_map, List.length_cons, List.length_nil]; omega) | (simp [*]; done) | (simp [*]; rfl))) ?_
   refine o_keep (.c 0 rfl (.c 4 rfl (.c 8 rfl (.c 9 rfl (.c 10 rfl (.c 11 rfl (.c 12 rfl (.c 13 rfl .n)))))))) (r_seq (r_sr (p_fa fa_29_0 rfl rfl (p_ldc tc_3 rfl (by rfl) rfl ?_))))
   refine p_neq rfl rfl rfl (o_keep (.c 0 rfl (.c 4 rfl (.c 8 rfl (.c 9 rfl (.c 10 rfl (.c 12 rfl (.c 13 rfl (.c 59 rfl .n)))))))) (r_cond _ rfl (fun h3 => ?_) (fun h3 => ?_)))
   ·skip
    have hg0 : (linesF l).1 ≠ 0 := by simpa using h3
    refine r_sr (p_fa fa_29_0 rfl rfl (p_ldc tc_3 rfl (by rfl) rfl ?_))
    refine p_neq rfl rfl rfl (p_mv rfl rfl (l_op (x_p (pv_fa fa_29_0 (.s rfl rfl rfl) rfl rfl (by first | exact fun _ => rfl | exact id | exact fun h => (Bool.and_eq_true_iff.1 h).1 | simp_all)) rfl rfl (l_op (x_r (q_ldc tc_3 (.s rfl rfl rfl) rfl rfl (by first | exact fun _ => rfl | exact id | exact fun h => (Bool.and_eq_true_iff.1 h).1 | simp_all) (by rfl)) rfl rfl ?_)))))
    refine l_op (x_p (pv_neq (.s rfl rfl rfl) rfl rfl rfl (by refine fun h => ⟨?_, ?_⟩ <;> first | rfl | exact h | exact (Bool.and_eq_true_iff.1 h).1 | simp_all)) rfl rfl ?_)
    refine l_op (x_p (pv_or (.n rfl) rfl rfl rfl (fun _ => ⟨rfl, fun hc => by first | rfl | (rw [hc]; rfl) | simp_all⟩)) rfl rfl ?_)
    refine p_as rfl rfl (o_keep (.c 0 rfl (.c 4 rfl (.c 8 rfl (.c 9 rfl (.c 10 rfl (.c 12 rfl (.c 13 rfl .n))))))) ?_)
    refine r_retv hF rfl (.c (.t rfl) .n) ?_ ?_
    ·repeat first|exact eR|refine eB ?_|refine eS ?_|refine eN ?_|refine eX ?_|refine eD ?_
    ·exact bool_eq (by rcases joins_no k hL1 hg0 with h | h <;> simp [h])
   ·skip
    have hg0 : (linesF l).1 = 0 := by simpa using h3
    refine r_skip (r_sr ?_)
    refine p_calle cf_6 (.n) rfl (desk_New _) fun gx => ?_
    refine o_cat ?_
    refine p_mv rfl rfl ?_
    refine p_callc cf_7 (.c rfl (.c rfl .n)) rfl (desk_Do _ L gx.1 gx.2 tn0 (tn0_inv) _ l hv (by omega) hs) ?_
    refine p_mv rfl rfl (p_ext rfl rfl rfl (p_ext rfl rfl rfl (p_alloc zr_29 rfl fun b15 => ?_)))
    refine p_as rfl rfl ?_
    refine p_store (.ofA ta_29) rfl rfl rfl (by first | rfl | exact rfl) (by first | rfl | exact rfl) (Ins.whole (by first | rfl | (simp only [List.length_map, List.length_cons, List.length_nil]; omega) | (simp [*]; done) | (simp [*]; rfl))) ?_
    refine o_keep (.c 4 rfl (.c 8 rfl (.c 9 rfl (.c 10 rfl (.c 12 rfl (.c 13 rfl (.c 14 rfl .n))))))) (r_sr (p_fa fa_29_0 rfl rfl (p_ldc tc_3 rfl (by rfl) rfl ?_)))
    refine p_eql rfl rfl rfl (p_mv rfl rfl (l_op (x_p (pv_fa fa_29_0 (.s rfl rfl rfl) rfl rfl (by first | exact fun _ => rfl | exact id | exact fun h => (Bool.and_eq_true_iff.1 h).1 | simp_all)) rfl rfl (l_op (x_r (q_ldc tc_3 (.s rfl rfl rfl) rfl rfl (by first | exact fun _ => rfl | exact id | exact fun h => (Bool.and_eq_true_iff.1 h).1 | simp_all) (by rfl)) rfl rfl ?_)))))
    refine l_op (x_p (pv_eql (.s rfl rfl rfl) rfl rfl rfl (by refine fun h => ⟨?_, ?_⟩ <;> first | rfl | exact h | exact (Bool.and_eq_true_iff.1 h).1 | simp_all)) rfl rfl ?_)
    refine l_op (x_p (pv_and (.n rfl) rfl rfl rfl (fun _ => ⟨rfl, fun hc => by first | rfl | (rw [hc]; rfl) | simp_all⟩)) rfl rfl ?_)
    refine p_mv rfl rfl (l_op (x_p (pv_mv (.s rfl rfl rfl) rfl rfl (by first | exact fun _ => rfl | exact id | exact fun h => (Bool.and_eq_true_iff.1 h).1 | simp_all)) rfl rfl (l_op (x_p (pv_mv (.s rfl rfl rfl) rfl rfl (by first | exact fun _ => rfl | exact id | exact fun h => (Bool.and_eq_true_iff.1 h).1 | simp_all)) rfl rfl ?_))))
    refine l_op (x_p (pv_sadd (fun hg => by (try simp only [List.length_append, List.length_cons, List.length_nil]); omega) (.s rfl rfl rfl) rfl rfl rfl (by refine fun h => ⟨?_, ?_⟩ <;> first | rfl | exact h | exact (Bool.and_eq_true_iff.1 h).1 | simp_all)) rfl rfl ?_)
    refine l_op (x_p (pv_mv (.s rfl rfl rfl) rfl rfl (by first | exact fun _ => rfl | exact id | exact fun h => (Bool.and_eq_true_iff.1 h).1 | simp_all)) rfl rfl ?_)
    refine l_op (x_p (pv_seq (.s rfl rfl rfl) rfl rfl rfl (by refine fun h => ⟨?_, ?_⟩ <;> first | rfl | exact h | exact (Bool.and_eq_true_iff.1 h).1 | simp_all)) rfl rfl ?_)
    refine l_op (x_p (pv_and (.n rfl) rfl rfl rfl (fun _ => ⟨rfl, fun hc => by first | rfl | (rw [hc]; rfl) | simp_all⟩)) rfl rfl ?_)
    refine p_mv rfl rfl (l_op (x_p (pv_mv (.s rfl rfl rfl) rfl rfl (by first | exact fun _ => rfl | exact id | exact fun h => (Bool.and_eq_true_iff.1 h).1 | simp_all)) rfl rfl (l_op (x_p (pv_mv (.s rfl rfl rfl) rfl rfl (by first | exact fun _ => rfl | exact id | exact fun h => (Bool.and_eq_true_iff.1 h).1 | simp_all)) rfl rfl ?_))))
    refine l_op (x_p (pv_seq (.s rfl rfl rfl) rfl rfl rfl (by refine fun h => ⟨?_, ?_⟩ <;> first | rfl | exact h | exact (Bool.and_eq_true_iff.1 h).1 | simp_all)) rfl rfl ?_)
    refine l_op (x_p (pv_and (.n rfl) rfl rfl rfl (fun _ => ⟨rfl, fun hc => by first | rfl | (rw [hc]; rfl) | simp_all⟩)) rfl rfl ?_)
    refine p_as rfl rfl (o_keep (.c 4 rfl .n) ?_)
    refine r_retv hF rfl (.c (.t rfl) .n) ?_ ?_
    ·repeat first|exact eR|refine eB ?_|refine eS ?_|refine eN ?_|refine eX ?_|refine eD ?_
    ·exact bool_eq (by obtain ⟨q1, q2, q3⟩ := joins_yes tn0 k hL1 hg0; simp [q1, q2, q3])

end Go.Proofs.YtmakdilmibjpbabGreatDoor
