/- The walks of BrokDue: written by a program of ours (gen.py) over the engine. -/
import Derived.Test.YtmakdilmibjpbabPlain
import Derived.Test.YtmakdilmibjpbabFacts
import Derived.Test.YtmakdilmibjpbabBookW4
import Derived.Test.YtmakdilmibjpbabBrokLaws
import Derived.Test.YtmakdilmibjpbabAnn
namespace Go.Proofs.Ytmakdilmibjpbab
open Go Go.RowKit
set_option linter.unusedVariables false
set_option linter.unusedSimpArgs false
set_option maxRecDepth 20000

theorem eq_MailB {m n : Mail} : EqT Try.prog 37 (rM m) (rM n) (decide (m = n)) := eq_Mail
theorem crash_stD {b : BrokS} (n : Nat) (hn : n < b.l.length) : stateB (crashB b) n ≠ 0 := by
  have e1 : b.l[n]? = some b.l[n] := List.getElem?_eq_getElem hn
  have e2 : (crashB b).l[n]? = some (crashD b.l[n]) := by unfold crashB; simp [e1]
  rw [stateB_at e2]
  unfold crashD
  dsimp only
  split
  · simp
  · assumption
theorem crash_lenD {b : BrokS} : (crashB b).l.length = b.l.length := by unfold crashB; simp
theorem crash_wantsD {b : BrokS} {k : Nat} {d : Deal} (h : b.l[k]? = some d) : wantsB (crashB b) k = d.wants := by
  have e2 : (crashB b).l[k]? = some (crashD d) := by unfold crashB; simp [h]
  rw [wantsB_at e2]; rfl
theorem nodup_at {l : List Mail} (h : l.Nodup) {i j : Nat} {m n : Mail} (hi : l[i]? = some m) (hj : l[j]? = some n) (hij : i < j) : m ≠ n := fun e => by
  subst e
  obtain ⟨h1, h2⟩ := List.getElem?_eq_some_iff.1 hi
  obtain ⟨h3, h4⟩ := List.getElem?_eq_some_iff.1 hj
  exact (List.pairwise_iff_getElem.1 h) i j h1 h3 hij (h2.trans h4.symm)
theorem hit_S {l : List Want} {k : Nat} {w v : Want} (h : l[k]? = some w) : (l.take (k + 1)).any (fun x => decide (x = v)) = ((l.take k).any (fun x => decide (x = v)) || decide (w = v)) := any_step h

theorem law_BrokerDue (M : Amb) (H : List HP) (xs : List BkStep) (sv : Value) (hs : Rd M [] sv 10 (xs.map rBk)) (hx : ∀ x ∈ xs, Rd M [] x.wv 2 (x.wants.map rW)) : FnV Try.prog M H 10 [sv] (.bool true) := by
  refine fn_intro Try.func10 rfl Try.ntmps10 rfl fun F hF => ?_
  refine r_seq ?_
  refine r_region ?_
  refine p_as rfl rfl ?_
  refine o_keep (.c 0 rfl (.c 2 rfl .n)) ?_
  refine r_seq ?_
  refine r_seq ?_
  refine r_region ?_
  refine p_callv cf_14 (.n) rfl (law_brokerBegun _ _) ?_
  refine p_not rfl rfl ?_
  refine o_keep (.c 0 rfl (.c 2 rfl (.c 15 rfl .n))) ?_
  refine r_cond _ rfl (fun h1 => ?_) (fun h1 => ?_)
  · simp at h1
  · skip
    refine r_skip ?_
    refine r_seq ?_
    refine r_seq ?_
    refine r_region ?_
    refine p_mv rfl rfl ?_
    refine p_callv cf_37 (.c rfl .n) rfl ((law_greatB _ xs sv hs hx).q) ?_
    refine o_keep (.c 0 rfl (.c 2 rfl (.c 17 rfl .n))) ?_
    refine r_cond _ rfl (fun h2 => ?_) (fun h2 => ?_)
    · skip
      refine r_seq ?_
      refine r_region ?_
      refine p_as rfl rfl ?_
      refine o_keep (.c 0 rfl (.c 2 rfl .n)) ?_
      refine r_retv hF rfl (.c (.t rfl) .n) ?_ ?_
      · first | exact Ent.rfl | (repeat (first | exact Ent.rfl | refine Ent.c (SelB.ent) ?_ | refine Ent.c (SelS.ent) ?_ | refine Ent.cN ?_ | refine Ent.c (SelX.ent) ?_ | refine Ent.dropR ?_))
      · first | rfl | exact bool_eq (by simp [hB.crash_due, ha])
    · skip
      have hgr := great_no h2
      refine r_skip ?_
      refine r_seq ?_
      refine r_region ?_
      refine p_calle cf_15 (.n) rfl (broker_New _) fun bk => ?_
      refine o_cat ?_
      refine p_as rfl rfl ?_
      refine o_keep (.c 0 rfl (.c 2 rfl (.c 3 rfl .n))) ?_
      refine r_seq ?_
      refine r_region ?_
      refine p_build zr_77 pl_77 (.n) rfl ?_
      refine p_box rfl rfl rfl fun b20 => ?_
      refine p_as rfl rfl ?_
      refine o_keep (.c 0 rfl (.c 2 rfl (.c 3 rfl (.c 4 rfl .n)))) ?_
      refine r_ent (Ent.tr (show Ent _ (manyP bdealP [] brk0.l :: _) from many_nil) (Ent.tr (Ent.slN (E := 3) (sz := 1)) (Ent.slN (E := 86) (sz := 4)))) ?_
      refine r_ent (bookP_close (b := b20) (T := 77) (rest := []) (s := brk0) (.slice Option.none 0 0) (.slice Option.none 0 0) [] rfl rfl rfl rfl) ?_
      refine r_seq ?_
      refine r_seq ?_
      refine r_region ?_
      refine p_as rfl rfl ?_
      refine o_keep (.c 0 rfl (.c 2 rfl (.c 3 rfl (.c 4 rfl (.c 5 rfl .n))))) ?_
      refine r_block ?_
      refine r_loop_2 (fun (i : Nat) (s : BrokS) => [(5, true, .int .i64 (i : Int))]) (.c 0 rfl (.c 2 rfl (.c 3 rfl (.c 4 rfl .n)))) (fun (i : Nat) (s : BrokS) => brokP bk s :: bookP b20 77 [] s :: H) (fun (i : Nat) (s : BrokS) => i ≤ xs.length ∧ BInv s) (fun (i : Nat) (s : BrokS) => xs.length - i) (0) (brk0) ?_ (.c 5 rfl .n) ?_ (fun i s hI => ?_)
      · exact ⟨Nat.zero_le _, BInv.new⟩
      · first | exact Ent.rfl | (repeat (first | exact Ent.rfl | refine Ent.c (SelB.ent) ?_ | refine Ent.c (SelS.ent) ?_ | refine Ent.cN ?_ | refine Ent.c (SelX.ent) ?_ | refine Ent.dropR ?_))
      · skip
        obtain ⟨hil, hI⟩ := hI
        refine r_seq ?_
        refine r_seq ?_
        refine r_region ?_
        refine p_mv rfl rfl ?_
        refine p_mv rfl rfl ?_
        refine l_op (x_p (pv_lens hs.len ⟨_, Try.underlying72⟩ (.n rfl) rfl rfl rfl rfl (fun _ => rfl)) rfl rfl ?_)
        refine p_lss rfl rfl rfl ?_
        refine o_keep (.c 0 rfl (.c 2 rfl (.c 3 rfl (.c 4 rfl (.c 5 rfl (.c 24 rfl .n)))))) ?_
        refine r_cond _ rfl (fun h3 => ?_) (fun h3 => ?_)
        · skip
          obtain ⟨x, hxi⟩ := getlt (l := xs) (i := i) (by have := of_decide_eq_true h3; omega)
          have hil2 := (List.getElem?_eq_some_iff.1 hxi).1
          have hxm := List.mem_of_getElem? hxi
          have hxr := hx x hxm
          have hxw := hgr.2 x hxm
          obtain ⟨s1, hs1⟩ : ∃ s1, stepBk s x = s1 := ⟨_, rfl⟩
          have hI1 : BInv s1 := hs1 ▸ hI.stp x
          have hor1 := hI1.ord_le
          have hl1 := hI1.len
          have hdu1 := due_le hI1
          refine r_skip ?_
          refine r_seq ?_
          refine r_block ?_
          refine r_region ?_
          refine p_mv rfl rfl ?_
          refine p_mv rfl rfl ?_
          refine p_mv rfl rfl ?_
          refine p_mv rfl rfl ?_
          refine p_idx Try.underlying72 (.ofA ta_80) hs rfl (mapget hxi) rfl rfl rfl ?_
          refine p_ldats 0 ta_80 (Rd.ent hs (by repeat (first | exact Ent.rfl | exact Ent.one Ent.h | exact Ent.one (SelS.ent) | exact Ent.nil | exact Ent.left | refine Ent.dropR ?_ | refine Ent.tr Ent.skip ?_))) (mapget hxi) rfl rfl (.s (.s (.s (.s (.s (.s (.s (.s (.s (.s .z)))))))))) rfl ?_
          refine p_callc cf_38 (.c rfl (.c rfl (.c rfl .n))) rfl (law_bstepE _ bk b20 s hI x hs1 hxr (by omega)) ?_
          refine o_keep (.c 0 rfl (.c 2 rfl (.c 3 rfl (.c 4 rfl (.c 5 rfl .n))))) ?_
          refine r_end ?_
          refine r_region ?_
          refine p_mv rfl rfl ?_
          refine p_add rfl rfl (by omega) rfl ?_
          refine p_as rfl rfl ?_
          refine o_keep (.c 0 rfl (.c 2 rfl (.c 3 rfl (.c 4 rfl (.c 5 rfl .n))))) ?_
          refine r_back_2 (i + 1) (s1) ?_ ?_ (Keep.app (.c 5 rfl .n) (.c 0 rfl (.c 2 rfl (.c 3 rfl (.c 4 rfl .n))))) ?_
          · exact ⟨by omega, hI1⟩
          · omega
          · first | exact Ent.rfl | (repeat (first | exact Ent.rfl | refine Ent.c (SelB.ent) ?_ | refine Ent.c (SelS.ent) ?_ | refine Ent.cN ?_ | refine Ent.c (SelX.ent) ?_ | refine Ent.dropR ?_))
        · skip
          refine r_exit rfl ?_
          refine r_seq ?_
          refine r_region ?_
          refine p_mv rfl rfl ?_
          refine p_calle cf_41 (.c rfl .n) rfl (broker_Due _ bk s hI) fun dv => ?_
          refine o_cat ?_
          refine o_rd dv fun hrd => ?_
          refine p_as rfl rfl ?_
          refine o_keep (.c 2 rfl (.c 3 rfl (.c 6 rfl .n))) ?_
          have hB := hI
          have hl8 := hI.len
          have hdu := due_le hI
          have hnd := hI.due_nodup
          refine r_seq ?_
          refine r_seq ?_
          refine r_region ?_
          refine p_as rfl rfl ?_
          refine o_keep (.c 2 rfl (.c 3 rfl (.c 6 rfl (.c 7 rfl .n)))) ?_
          refine r_block ?_
          refine r_loop_1 (fun (j : Nat) => [(7, true, .int .i64 (j : Int))]) (.c 2 rfl (.c 3 rfl (.c 6 rfl .n))) (fun (j : Nat) => sl dv 37 6 ((dueB s).map rM) :: brokP bk s :: bookP b20 77 [] s :: H) (fun (j : Nat) => j ≤ (dueB s).length) (fun (j : Nat) => (dueB s).length - j) (0) ?_ (.c 7 rfl .n) ?_ (fun j hI => ?_)
          · exact Nat.zero_le _
          · first | exact Ent.rfl | (repeat (first | exact Ent.rfl | refine Ent.c (SelB.ent) ?_ | refine Ent.c (SelS.ent) ?_ | refine Ent.cN ?_ | refine Ent.c (SelX.ent) ?_ | refine Ent.dropR ?_))
          · skip
            refine r_seq ?_
            refine r_seq ?_
            refine r_region ?_
            refine p_mv rfl rfl ?_
            refine p_mv rfl rfl ?_
            refine l_op (x_p (pv_lens (Rd.len hrd) ⟨_, Try.underlying83⟩ (.n rfl) rfl rfl rfl rfl (fun _ => rfl)) rfl rfl ?_)
            refine p_lss rfl rfl rfl ?_
            refine o_keep (.c 2 rfl (.c 3 rfl (.c 6 rfl (.c 7 rfl (.c 39 rfl .n))))) ?_
            refine r_cond _ rfl (fun h4 => ?_) (fun h4 => ?_)
            · skip
              obtain ⟨m, hmj⟩ := getlt (l := dueB s) (i := j) (by have := of_decide_eq_true h4; omega)
              have hjl := (List.getElem?_eq_some_iff.1 hmj).1
              obtain ⟨hm0, hm1, hmd⟩ := hB.due_is (List.mem_of_getElem? hmj)
              have hwl := wantsB_leB hB m.deal
              refine r_skip ?_
              refine r_seq ?_
              refine r_block ?_
              refine r_seq ?_
              refine r_region ?_
              refine p_mv rfl rfl ?_
              refine p_mv rfl rfl ?_
              refine p_mv rfl rfl ?_
              refine p_idx Try.underlying83 (.ofA ta_37) hrd rfl (mapget hmj) rfl rfl rfl ?_
              refine p_faat fa_37_1 (Rd.sh hrd (mapget hmj)) rfl rfl ?_
              refine p_ldat 1 tc_3 (Rd.ent hrd (by repeat (first | exact Ent.rfl | exact Ent.one Ent.h | exact Ent.one (SelS.ent) | exact Ent.nil | exact Ent.left | refine Ent.dropR ?_ | refine Ent.tr Ent.skip ?_))) (mapget hmj) rfl rfl rfl rfl ?_
              refine p_calle cf_45 (.c rfl (.c rfl .n)) rfl (broker_Wants _ bk s hB m.deal (wants_bb hB)) fun wv => ?_
              refine o_cat ?_
              refine o_rd wv fun hrw => ?_
              refine p_as rfl rfl ?_
              refine o_keep (.c 2 rfl (.c 3 rfl (.c 6 rfl (.c 7 rfl (.c 8 rfl .n))))) ?_
              refine r_seq ?_
              refine r_seq ?_
              refine r_region ?_
              refine p_mv rfl rfl ?_
              refine p_mv rfl rfl ?_
              refine p_mv rfl rfl ?_
              refine p_idx Try.underlying83 (.ofA ta_37) hrd rfl (mapget hmj) rfl rfl rfl ?_
              refine p_faat fa_37_1 (Rd.sh hrd (mapget hmj)) rfl rfl ?_
              refine p_ldat 1 tc_3 (Rd.ent hrd (by repeat (first | exact Ent.rfl | exact Ent.one Ent.h | exact Ent.one (SelS.ent) | exact Ent.nil | exact Ent.left | refine Ent.dropR ?_ | refine Ent.tr Ent.skip ?_))) (mapget hmj) rfl rfl rfl rfl ?_
              refine p_callv cf_21 (.c rfl (.c rfl .n)) rfl ((broker_State _ bk s hB m.deal).q) ?_
              refine o_keep (.c 2 rfl (.c 3 rfl (.c 6 rfl (.c 7 rfl (.c 8 rfl (.c 55 rfl .n)))))) ?_
              refine r_block ?_
              refine r_seq ?_
              refine r_region ?_
              refine p_eql rfl rfl rfl ?_
              refine p_as rfl rfl ?_
              refine o_keep (.c 2 rfl (.c 3 rfl (.c 6 rfl (.c 7 rfl (.c 8 rfl (.c 55 rfl (.c 56 rfl .n))))))) ?_
              refine r_cond _ rfl (fun h5 => ?_) (fun h5 => ?_)
              · skip
                have h0 : stateB s m.deal = 0 := of_decide_eq_true h5
                obtain ⟨_, hk1, hmw, hms, hmy⟩ := hmd.resolve_right (fun q => by omega)
                refine r_seq ?_
                refine r_region ?_
                refine p_as rfl rfl ?_
                refine o_keep (.c 2 rfl (.c 3 rfl (.c 6 rfl (.c 7 rfl (.c 8 rfl (.c 9 rfl .n)))))) ?_
                refine r_seq ?_
                refine r_seq ?_
                refine r_region ?_
                refine p_as rfl rfl ?_
                refine o_keep (.c 2 rfl (.c 3 rfl (.c 6 rfl (.c 7 rfl (.c 8 rfl (.c 9 rfl (.c 10 rfl .n))))))) ?_
                refine r_block ?_
                refine r_loop_2 (fun (k : Nat) (hit : Bool) => [(10, true, .int .i64 (k : Int)), (9, true, .bool hit)]) (.c 2 rfl (.c 3 rfl (.c 6 rfl (.c 7 rfl (.c 8 rfl .n))))) (fun (k : Nat) (hit : Bool) => sl wv 35 2 ((wantsB s m.deal).map rW) :: sl dv 37 6 ((dueB s).map rM) :: brokP bk s :: bookP b20 77 [] s :: H) (fun (k : Nat) (hit : Bool) => k ≤ (wantsB s m.deal).length ∧ hit = ((wantsB s m.deal).take k).any (fun x => decide (x = ⟨m.ctr, m.dl⟩))) (fun (k : Nat) (hit : Bool) => (wantsB s m.deal).length - k) (0) (false) ?_ (.c 10 rfl (.c 9 rfl .n)) ?_ (fun k hit hI => ?_)
                · exact ⟨Nat.zero_le _, by simp⟩
                · first | exact Ent.rfl | (repeat (first | exact Ent.rfl | refine Ent.c (SelB.ent) ?_ | refine Ent.c (SelS.ent) ?_ | refine Ent.cN ?_ | refine Ent.c (SelX.ent) ?_ | refine Ent.dropR ?_))
                · skip
                  obtain ⟨hk0, hh⟩ := hI
                  refine r_seq ?_
                  refine r_seq ?_
                  refine r_region ?_
                  refine p_mv rfl rfl ?_
                  refine p_mv rfl rfl ?_
                  refine l_op (x_p (pv_lens (Rd.len hrw) ⟨_, Try.underlying22⟩ (.n rfl) rfl rfl rfl rfl (fun _ => rfl)) rfl rfl ?_)
                  refine p_lss rfl rfl rfl ?_
                  refine o_keep (.c 2 rfl (.c 3 rfl (.c 6 rfl (.c 7 rfl (.c 8 rfl (.c 9 rfl (.c 10 rfl (.c 61 rfl .n)))))))) ?_
                  refine r_cond _ rfl (fun h6 => ?_) (fun h6 => ?_)
                  · skip
                    obtain ⟨w, hwk⟩ := getlt (l := wantsB s m.deal) (i := k) (by have := of_decide_eq_true h6; omega)
                    have hkl := (List.getElem?_eq_some_iff.1 hwk).1
                    refine r_skip ?_
                    refine r_seq ?_
                    refine r_block ?_
                    refine r_plan _ [] mo (.c 2 rfl (.c 3 rfl (.c 6 rfl (.c 7 rfl (.c 8 rfl (.c 9 rfl (.c 10 rfl .n))))))) Ent.rfl ?_
                    refine qm_q (i := 0) (l := [.k 9]) rfl rfl rfl rfl (by kernel_rfl) rfl (fun He => PV.rq (pv_mv (.n rfl) rfl rfl (fun _ => rfl))) ?_
                    refine qm_q (i := 1) (l := [.o 0]) rfl rfl rfl rfl (by kernel_rfl) rfl (fun He => PV.rq (pv_mv (.n rfl) rfl rfl (fun _ => rfl))) ?_
                    refine qm_q (i := 2) (l := [.k 8, .o 1]) rfl rfl rfl rfl (by kernel_rfl) rfl (fun He => PV.rq (pv_mv (.s rfl rfl rfl) rfl rfl (by first | exact fun _ => rfl | exact id | exact fun h => (Bool.and_eq_true_iff.1 h).1 | simp_all))) ?_
                    refine qm_q (i := 3) (l := [.k 10, .o 1]) rfl rfl rfl rfl (by kernel_rfl) rfl (fun He => PV.rq (pv_mv (.s rfl rfl rfl) rfl rfl (by first | exact fun _ => rfl | exact id | exact fun h => (Bool.and_eq_true_iff.1 h).1 | simp_all))) ?_
                    refine qm_q (i := 4) (l := [.o 2, .o 3, .o 1]) rfl rfl rfl rfl (by kernel_rfl) rfl (fun He => PV.rq (pv_idx Try.underlying22 (.ofA ta_35) hrw (fun hg => ⟨rfl, (mapget hwk)⟩) (.s rfl rfl rfl) rfl rfl rfl (by refine fun h => ⟨?_, ?_⟩ <;> first | rfl | exact h | exact (Bool.and_eq_true_iff.1 h).1 | simp_all))) ?_
                    refine qm_q (i := 5) (l := [.o 4, .o 1]) rfl rfl rfl rfl (by kernel_rfl) rfl (fun He => RV.rq (rv_ldats (j := 0) ta_35 (Rd.ent hrw (by repeat (first | exact Ent.rfl | exact Ent.one Ent.h | exact Ent.one (SelS.ent) | exact Ent.nil | exact Ent.left | refine Ent.dropR ?_ | refine Ent.tr Ent.skip ?_))) (fun hg => (mapget hwk)) (.s rfl rfl rfl) rfl rfl (by first | exact fun _ => rfl | exact id | exact fun h => (Bool.and_eq_true_iff.1 h).1 | simp_all) rfl (.s (.s .z)))) ?_
                    refine qm_q (i := 6) (l := [.k 6, .o 1]) rfl rfl rfl rfl (by kernel_rfl) rfl (fun He => PV.rq (pv_mv (.s rfl rfl rfl) rfl rfl (by first | exact fun _ => rfl | exact id | exact fun h => (Bool.and_eq_true_iff.1 h).1 | simp_all))) ?_
                    refine qm_q (i := 7) (l := [.k 7, .o 1]) rfl rfl rfl rfl (by kernel_rfl) rfl (fun He => PV.rq (pv_mv (.s rfl rfl rfl) rfl rfl (by first | exact fun _ => rfl | exact id | exact fun h => (Bool.and_eq_true_iff.1 h).1 | simp_all))) ?_
                    refine qm_q (i := 8) (l := [.o 6, .o 7, .o 1]) rfl rfl rfl rfl (by kernel_rfl) rfl (fun He => PV.rq (pv_idx Try.underlying83 (.ofA ta_37) hrd (fun hg => ⟨rfl, (mapget hmj)⟩) (.s rfl rfl rfl) rfl rfl rfl (by refine fun h => ⟨?_, ?_⟩ <;> first | rfl | exact h | exact (Bool.and_eq_true_iff.1 h).1 | simp_all))) ?_
                    refine qm_q (i := 9) (l := [.o 8, .o 1]) rfl rfl rfl rfl (by kernel_rfl) rfl (fun He => PV.rq (pv_faat fa_37_3 (fun hg => Rd.sh hrd (mapget hmj)) (.s rfl rfl rfl) rfl rfl (by first | exact fun _ => rfl | exact id | exact fun h => (Bool.and_eq_true_iff.1 h).1 | simp_all))) ?_
                    refine qm_q (i := 10) (l := [.o 9, .o 1]) rfl rfl rfl rfl (by kernel_rfl) rfl (fun He => RV.rq (rv_ldats (j := 3) ta_35 (Rd.ent hrd (by repeat (first | exact Ent.rfl | exact Ent.one Ent.h | exact Ent.one (SelS.ent) | exact Ent.nil | exact Ent.left | refine Ent.dropR ?_ | refine Ent.tr Ent.skip ?_))) (fun hg => (mapget hmj)) (.s rfl rfl rfl) rfl rfl (by first | exact fun _ => rfl | exact id | exact fun h => (Bool.and_eq_true_iff.1 h).1 | simp_all) rfl (.s (.s .z)))) ?_
                    refine qm_q (i := 11) (l := [.o 5, .o 10, .o 1]) rfl rfl rfl rfl (by kernel_rfl) rfl (fun He => PV.rq (pv_aeq ((eq_Want (m := w) (n := ⟨m.ctr, m.dl⟩))) (.s rfl rfl rfl) rfl rfl rfl (by refine fun h => ⟨?_, ?_⟩ <;> first | rfl | exact h | exact (Bool.and_eq_true_iff.1 h).1 | simp_all))) ?_
                    refine qm_q (i := 12) (l := [.o 1, .o 11]) rfl rfl rfl rfl (by kernel_rfl) rfl (fun He => PV.rq (pv_or (.n rfl) rfl rfl rfl (fun _ => ⟨rfl, fun hc => by first | rfl | (rw [hc]; rfl) | simp_all⟩))) ?_
                    refine qm_q (i := 13) (l := [.o 12]) rfl rfl rfl rfl (by kernel_rfl) rfl (fun He => PV.rq (pv_as (.n rfl) rfl rfl (fun _ => rfl))) ?_
                    refine qm_n (by kernel_rfl) (by kernel_rfl) (by kernel_rfl) (by kernel_rfl) (.c 2 rfl (.c 3 rfl (.c 6 rfl (.c 7 rfl (.c 8 rfl (.c 9 rfl (.c 10 rfl .n))))))) ?_
                    refine r_end ?_
                    refine r_region ?_
                    refine p_mv rfl rfl ?_
                    refine p_add rfl rfl (by omega) rfl ?_
                    refine p_as rfl rfl ?_
                    refine o_keep (.c 2 rfl (.c 3 rfl (.c 6 rfl (.c 7 rfl (.c 8 rfl (.c 9 rfl (.c 10 rfl .n))))))) ?_
                    refine r_back_2 (k + 1) (_) ?_ ?_ (Keep.app (.c 10 rfl (.c 9 rfl .n)) (.c 2 rfl (.c 3 rfl (.c 6 rfl (.c 7 rfl (.c 8 rfl .n)))))) ?_
                    · exact ⟨by omega, by rw [hit_S hwk, ← hh]⟩
                    · omega
                    · first | exact Ent.rfl | (repeat (first | exact Ent.rfl | refine Ent.c (SelB.ent) ?_ | refine Ent.c (SelS.ent) ?_ | refine Ent.cN ?_ | refine Ent.c (SelX.ent) ?_ | refine Ent.dropR ?_))
                  · skip
                    have hke : (wantsB s m.deal).length ≤ k := by have := of_decide_eq_false h6; omega
                    have hhit : hit = true := by rw [hh, List.take_of_length_le hke]; exact List.any_eq_true.2 ⟨_, hmw, by simp⟩
                    refine r_exit rfl ?_
                    refine r_seq ?_
                    refine r_plan _ [] mo (.c 2 rfl (.c 3 rfl (.c 6 rfl (.c 7 rfl (.c 9 rfl .n))))) Ent.rfl ?_
                    refine qm_q (i := 0) (l := [.k 6]) rfl rfl rfl rfl (by kernel_rfl) rfl (fun He => PV.rq (pv_mv (.n rfl) rfl rfl (fun _ => rfl))) ?_
                    refine qm_q (i := 1) (l := [.k 7]) rfl rfl rfl rfl (by kernel_rfl) rfl (fun He => PV.rq (pv_mv (.n rfl) rfl rfl (fun _ => rfl))) ?_
                    refine qm_q (i := 2) (l := [.o 0, .o 1]) rfl rfl rfl rfl (by kernel_rfl) rfl (fun He => PV.rq (pv_idx Try.underlying83 (.ofA ta_37) hrd (fun hg => ⟨rfl, (mapget hmj)⟩) (.n rfl) rfl rfl rfl (fun _ => ⟨rfl, rfl⟩))) ?_
                    refine qm_q (i := 3) (l := [.o 2]) rfl rfl rfl rfl (by kernel_rfl) rfl (fun He => PV.rq (pv_faat fa_37_0 (fun hg => Rd.sh hrd (mapget hmj)) (.n rfl) rfl rfl (fun _ => rfl))) ?_
                    refine qm_q (i := 4) (l := [.o 3]) rfl rfl rfl rfl (by kernel_rfl) rfl (fun He => RV.rq (rv_ldat (j := 0) tc_3 (Rd.ent hrd (by repeat (first | exact Ent.rfl | exact Ent.one Ent.h | exact Ent.one (SelS.ent) | exact Ent.nil | exact Ent.left | refine Ent.dropR ?_ | refine Ent.tr Ent.skip ?_))) (fun hg => (mapget hmj)) (.n rfl) rfl rfl (fun _ => rfl) rfl (fun _ => rfl))) ?_
                    refine qm_q (i := 5) (l := [.o 4]) rfl rfl rfl rfl (by kernel_rfl) rfl (fun He => PV.rq (pv_neq (.n rfl) rfl rfl rfl (fun _ => ⟨rfl, rfl⟩))) ?_
                    refine qm_q (i := 6) (l := [.o 5]) rfl rfl rfl rfl (by kernel_rfl) rfl (fun He => PV.rq (pv_mv (.n rfl) rfl rfl (fun _ => rfl))) ?_
                    refine qm_q (i := 7) (l := [.k 9, .o 6]) rfl rfl rfl rfl (by kernel_rfl) rfl (fun He => PV.rq (pv_mv (.s rfl rfl rfl) rfl rfl (by first | exact fun _ => rfl | exact id | exact fun h => (Bool.and_eq_true_iff.1 h).1 | simp_all))) ?_
                    refine qm_q (i := 8) (l := [.o 7, .o 6]) rfl rfl rfl rfl (by kernel_rfl) rfl (fun He => PV.rq (pv_not (.s rfl rfl rfl) rfl rfl (by first | exact fun _ => rfl | exact id | exact fun h => (Bool.and_eq_true_iff.1 h).1 | simp_all))) ?_
                    refine qm_q (i := 9) (l := [.o 6, .o 8]) rfl rfl rfl rfl (by kernel_rfl) rfl (fun He => PV.rq (pv_or (.n rfl) rfl rfl rfl (fun _ => ⟨rfl, fun hc => by first | rfl | (rw [hc]; rfl) | simp_all⟩))) ?_
                    refine qm_q (i := 10) (l := [.o 9]) rfl rfl rfl rfl (by kernel_rfl) rfl (fun He => PV.rq (pv_mv (.n rfl) rfl rfl (fun _ => rfl))) ?_
                    refine qm_q (i := 11) (l := [.k 6, .o 10]) rfl rfl rfl rfl (by kernel_rfl) rfl (fun He => PV.rq (pv_mv (.s rfl rfl rfl) rfl rfl (by first | exact fun _ => rfl | exact id | exact fun h => (Bool.and_eq_true_iff.1 h).1 | simp_all))) ?_
                    refine qm_q (i := 12) (l := [.k 7, .o 10]) rfl rfl rfl rfl (by kernel_rfl) rfl (fun He => PV.rq (pv_mv (.s rfl rfl rfl) rfl rfl (by first | exact fun _ => rfl | exact id | exact fun h => (Bool.and_eq_true_iff.1 h).1 | simp_all))) ?_
                    refine qm_q (i := 13) (l := [.o 11, .o 12, .o 10]) rfl rfl rfl rfl (by kernel_rfl) rfl (fun He => PV.rq (pv_idx Try.underlying83 (.ofA ta_37) hrd (fun hg => ⟨rfl, (mapget hmj)⟩) (.s rfl rfl rfl) rfl rfl rfl (by refine fun h => ⟨?_, ?_⟩ <;> first | rfl | exact h | exact (Bool.and_eq_true_iff.1 h).1 | simp_all))) ?_
                    refine qm_q (i := 14) (l := [.o 13, .o 10]) rfl rfl rfl rfl (by kernel_rfl) rfl (fun He => PV.rq (pv_faat fa_37_2 (fun hg => Rd.sh hrd (mapget hmj)) (.s rfl rfl rfl) rfl rfl (by first | exact fun _ => rfl | exact id | exact fun h => (Bool.and_eq_true_iff.1 h).1 | simp_all))) ?_
                    refine qm_q (i := 15) (l := [.o 14, .o 10]) rfl rfl rfl rfl (by kernel_rfl) rfl (fun He => RV.rq (rv_ldat (j := 2) tc_3 (Rd.ent hrd (by repeat (first | exact Ent.rfl | exact Ent.one Ent.h | exact Ent.one (SelS.ent) | exact Ent.nil | exact Ent.left | refine Ent.dropR ?_ | refine Ent.tr Ent.skip ?_))) (fun hg => (mapget hmj)) (.s rfl rfl rfl) rfl rfl (by first | exact fun _ => rfl | exact id | exact fun h => (Bool.and_eq_true_iff.1 h).1 | simp_all) rfl (fun _ => rfl))) ?_
                    refine qm_q (i := 16) (l := [.k 6, .o 10]) rfl rfl rfl rfl (by kernel_rfl) rfl (fun He => PV.rq (pv_mv (.s rfl rfl rfl) rfl rfl (by first | exact fun _ => rfl | exact id | exact fun h => (Bool.and_eq_true_iff.1 h).1 | simp_all))) ?_
                    refine qm_q (i := 17) (l := [.k 7, .o 10]) rfl rfl rfl rfl (by kernel_rfl) rfl (fun He => PV.rq (pv_mv (.s rfl rfl rfl) rfl rfl (by first | exact fun _ => rfl | exact id | exact fun h => (Bool.and_eq_true_iff.1 h).1 | simp_all))) ?_
                    refine qm_q (i := 18) (l := [.o 16, .o 17, .o 10]) rfl rfl rfl rfl (by kernel_rfl) rfl (fun He => PV.rq (pv_idx Try.underlying83 (.ofA ta_37) hrd (fun hg => ⟨rfl, (mapget hmj)⟩) (.s rfl rfl rfl) rfl rfl rfl (by refine fun h => ⟨?_, ?_⟩ <;> first | rfl | exact h | exact (Bool.and_eq_true_iff.1 h).1 | simp_all))) ?_
                    refine qm_q (i := 19) (l := [.o 18, .o 10]) rfl rfl rfl rfl (by kernel_rfl) rfl (fun He => PV.rq (pv_faat fa_37_3 (fun hg => Rd.sh hrd (mapget hmj)) (.s rfl rfl rfl) rfl rfl (by first | exact fun _ => rfl | exact id | exact fun h => (Bool.and_eq_true_iff.1 h).1 | simp_all))) ?_
                    refine qm_q (i := 20) (l := [.o 19, .o 10]) rfl rfl rfl rfl (by kernel_rfl) rfl (fun He => PV.rq (pv_faat fa_35_0 (fun hg => Rd.sh hrd (mapget hmj)) (.s rfl rfl rfl) rfl rfl (by first | exact fun _ => rfl | exact id | exact fun h => (Bool.and_eq_true_iff.1 h).1 | simp_all))) ?_
                    refine qm_q (i := 21) (l := [.o 20, .o 10]) rfl rfl rfl rfl (by kernel_rfl) rfl (fun He => RV.rq (rv_ldat (j := 3) tc_3 (Rd.ent hrd (by repeat (first | exact Ent.rfl | exact Ent.one Ent.h | exact Ent.one (SelS.ent) | exact Ent.nil | exact Ent.left | refine Ent.dropR ?_ | refine Ent.tr Ent.skip ?_))) (fun hg => (mapget hmj)) (.s rfl rfl rfl) rfl rfl (by first | exact fun _ => rfl | exact id | exact fun h => (Bool.and_eq_true_iff.1 h).1 | simp_all) rfl (fun _ => rfl))) ?_
                    refine qm_q (i := 22) (l := [.o 21, .o 10]) rfl rfl rfl rfl (by kernel_rfl) rfl (fun He => rq_call cf_19 (.s rfl rfl rfl) rfl (.c rfl (by first | exact fun _ => rfl | exact id | exact fun h => (Bool.and_eq_true_iff.1 h).1 | simp_all) .n) (fun hg => plan_Shop _ _ _)) ?_
                    refine qm_q (i := 23) (l := [.o 15, .o 22, .o 10]) rfl rfl rfl rfl (by kernel_rfl) rfl (fun He => PV.rq (pv_neq (.s rfl rfl rfl) rfl rfl rfl (by refine fun h => ⟨?_, ?_⟩ <;> first | rfl | exact h | exact (Bool.and_eq_true_iff.1 h).1 | simp_all))) ?_
                    refine qm_q (i := 24) (l := [.o 10, .o 23]) rfl rfl rfl rfl (by kernel_rfl) rfl (fun He => PV.rq (pv_or (.n rfl) rfl rfl rfl (fun _ => ⟨rfl, fun hc => by first | rfl | (rw [hc]; rfl) | simp_all⟩))) ?_
                    refine qm_q (i := 25) (l := [.o 24]) rfl rfl rfl rfl (by kernel_rfl) rfl (fun He => PV.rq (pv_mv (.n rfl) rfl rfl (fun _ => rfl))) ?_
                    refine qm_q (i := 26) (l := [.k 6, .o 25]) rfl rfl rfl rfl (by kernel_rfl) rfl (fun He => PV.rq (pv_mv (.s rfl rfl rfl) rfl rfl (by first | exact fun _ => rfl | exact id | exact fun h => (Bool.and_eq_true_iff.1 h).1 | simp_all))) ?_
                    refine qm_q (i := 27) (l := [.k 7, .o 25]) rfl rfl rfl rfl (by kernel_rfl) rfl (fun He => PV.rq (pv_mv (.s rfl rfl rfl) rfl rfl (by first | exact fun _ => rfl | exact id | exact fun h => (Bool.and_eq_true_iff.1 h).1 | simp_all))) ?_
                    refine qm_q (i := 28) (l := [.o 26, .o 27, .o 25]) rfl rfl rfl rfl (by kernel_rfl) rfl (fun He => PV.rq (pv_idx Try.underlying83 (.ofA ta_37) hrd (fun hg => ⟨rfl, (mapget hmj)⟩) (.s rfl rfl rfl) rfl rfl rfl (by refine fun h => ⟨?_, ?_⟩ <;> first | rfl | exact h | exact (Bool.and_eq_true_iff.1 h).1 | simp_all))) ?_
                    refine qm_q (i := 29) (l := [.o 28, .o 25]) rfl rfl rfl rfl (by kernel_rfl) rfl (fun He => PV.rq (pv_faat fa_37_4 (fun hg => Rd.sh hrd (mapget hmj)) (.s rfl rfl rfl) rfl rfl (by first | exact fun _ => rfl | exact id | exact fun h => (Bool.and_eq_true_iff.1 h).1 | simp_all))) ?_
                    refine qm_q (i := 30) (l := [.o 29, .o 25]) rfl rfl rfl rfl (by kernel_rfl) rfl (fun He => RV.rq (rv_ldat (j := 5) tc_4 (Rd.ent hrd (by repeat (first | exact Ent.rfl | exact Ent.one Ent.h | exact Ent.one (SelS.ent) | exact Ent.nil | exact Ent.left | refine Ent.dropR ?_ | refine Ent.tr Ent.skip ?_))) (fun hg => (mapget hmj)) (.s rfl rfl rfl) rfl rfl (by first | exact fun _ => rfl | exact id | exact fun h => (Bool.and_eq_true_iff.1 h).1 | simp_all) rfl (fun _ => rfl))) ?_
                    refine qm_q (i := 31) (l := [.o 25, .o 30]) rfl rfl rfl rfl (by kernel_rfl) rfl (fun He => PV.rq (pv_or (.n rfl) rfl rfl rfl (fun _ => ⟨rfl, fun hc => by first | rfl | (rw [hc]; rfl) | simp_all⟩))) ?_
                    refine qm_n (by kernel_rfl) (by kernel_rfl) (by kernel_rfl) (by kernel_rfl) (.c 2 rfl (.c 3 rfl (.c 6 rfl (.c 7 rfl (.c 108 rfl .n))))) ?_
                    refine r_cond _ rfl (fun h7 => ?_) (fun h7 => ?_)
                    · exfalso; simp [hk1, hhit, hms, hmy] at h7
                    · skip
                      refine r_skip ?_
                      refine r_end ?_
                      refine r_seq ?_
                      refine r_region ?_
                      refine p_as rfl rfl ?_
                      refine o_keep (.c 2 rfl (.c 3 rfl (.c 6 rfl (.c 7 rfl (.c 11 rfl .n))))) ?_
                      refine r_block ?_
                      refine r_loop_1 (fun (q : Nat) => [(11, true, .int .i64 (q : Int))]) (.c 2 rfl (.c 3 rfl (.c 6 rfl (.c 7 rfl .n)))) (fun (q : Nat) => sl dv 37 6 ((dueB s).map rM) :: brokP bk s :: bookP b20 77 [] s :: H) (fun (q : Nat) => q ≤ j) (fun (q : Nat) => j - q) (0) ?_ (.c 11 rfl .n) ?_ (fun q hI => ?_)
                      · exact Nat.zero_le _
                      · first | exact Ent.rfl | (repeat (first | exact Ent.rfl | refine Ent.c (SelB.ent) ?_ | refine Ent.c (SelS.ent) ?_ | refine Ent.cN ?_ | refine Ent.c (SelX.ent) ?_ | refine Ent.dropR ?_))
                      · skip
                        refine r_seq ?_
                        refine r_seq ?_
                        refine r_region ?_
                        refine p_mv rfl rfl ?_
                        refine p_mv rfl rfl ?_
                        refine p_lss rfl rfl rfl ?_
                        refine o_keep (.c 2 rfl (.c 3 rfl (.c 6 rfl (.c 7 rfl (.c 11 rfl (.c 147 rfl .n)))))) ?_
                        refine r_cond _ rfl (fun h8 => ?_) (fun h8 => ?_)
                        · skip
                          have hql : q < j := by have := of_decide_eq_true h8; omega
                          obtain ⟨n, hmq⟩ := getlt (l := dueB s) (i := q) (by omega)
                          have hnm := nodup_at hnd hmq hmj hql
                          refine r_skip ?_
                          refine r_seq ?_
                          refine r_block ?_
                          refine r_seq ?_
                          refine r_plan _ [] mo (.c 2 rfl (.c 3 rfl (.c 6 rfl (.c 7 rfl (.c 11 rfl .n))))) Ent.rfl ?_
                          refine qm_q (i := 0) (l := [.k 6]) rfl rfl rfl rfl (by kernel_rfl) rfl (fun He => PV.rq (pv_mv (.n rfl) rfl rfl (fun _ => rfl))) ?_
                          refine qm_q (i := 1) (l := [.k 11]) rfl rfl rfl rfl (by kernel_rfl) rfl (fun He => PV.rq (pv_mv (.n rfl) rfl rfl (fun _ => rfl))) ?_
                          refine qm_q (i := 2) (l := [.o 0, .o 1]) rfl rfl rfl rfl (by kernel_rfl) rfl (fun He => PV.rq (pv_idx Try.underlying83 (.ofA ta_37) hrd (fun hg => ⟨rfl, (mapget hmq)⟩) (.n rfl) rfl rfl rfl (fun _ => ⟨rfl, rfl⟩))) ?_
                          refine qm_q (i := 3) (l := [.o 2]) rfl rfl rfl rfl (by kernel_rfl) rfl (fun He => RV.rq (rv_ldats (j := 0) ta_37 (Rd.ent hrd (by repeat (first | exact Ent.rfl | exact Ent.one Ent.h | exact Ent.one (SelS.ent) | exact Ent.nil | exact Ent.left | refine Ent.dropR ?_ | refine Ent.tr Ent.skip ?_))) (fun hg => (mapget hmq)) (.n rfl) rfl rfl (fun _ => rfl) rfl (.s (.s (.s (.s (.s (.s .z)))))))) ?_
                          refine qm_q (i := 4) (l := [.k 6]) rfl rfl rfl rfl (by kernel_rfl) rfl (fun He => PV.rq (pv_mv (.n rfl) rfl rfl (fun _ => rfl))) ?_
                          refine qm_q (i := 5) (l := [.k 7]) rfl rfl rfl rfl (by kernel_rfl) rfl (fun He => PV.rq (pv_mv (.n rfl) rfl rfl (fun _ => rfl))) ?_
                          refine qm_q (i := 6) (l := [.o 4, .o 5]) rfl rfl rfl rfl (by kernel_rfl) rfl (fun He => PV.rq (pv_idx Try.underlying83 (.ofA ta_37) hrd (fun hg => ⟨rfl, (mapget hmj)⟩) (.n rfl) rfl rfl rfl (fun _ => ⟨rfl, rfl⟩))) ?_
                          refine qm_q (i := 7) (l := [.o 6]) rfl rfl rfl rfl (by kernel_rfl) rfl (fun He => RV.rq (rv_ldats (j := 0) ta_37 (Rd.ent hrd (by repeat (first | exact Ent.rfl | exact Ent.one Ent.h | exact Ent.one (SelS.ent) | exact Ent.nil | exact Ent.left | refine Ent.dropR ?_ | refine Ent.tr Ent.skip ?_))) (fun hg => (mapget hmj)) (.n rfl) rfl rfl (fun _ => rfl) rfl (.s (.s (.s (.s (.s (.s .z)))))))) ?_
                          refine qm_q (i := 8) (l := [.o 3, .o 7]) rfl rfl rfl rfl (by kernel_rfl) rfl (fun He => PV.rq (pv_aeq (eq_MailB) (.n rfl) rfl rfl rfl (fun _ => ⟨rfl, rfl⟩))) ?_
                          refine qm_n (by kernel_rfl) (by kernel_rfl) (by kernel_rfl) (by kernel_rfl) (.c 2 rfl (.c 3 rfl (.c 6 rfl (.c 7 rfl (.c 11 rfl (.c 158 rfl .n)))))) ?_
                          refine r_cond _ rfl (fun h9 => ?_) (fun h9 => ?_)
                          · exfalso; simp at h9; exact hnm h9
                          · skip
                            refine r_skip ?_
                            refine r_end ?_
                            refine r_region ?_
                            refine p_mv rfl rfl ?_
                            refine p_add rfl rfl (by omega) rfl ?_
                            refine p_as rfl rfl ?_
                            refine o_keep (.c 2 rfl (.c 3 rfl (.c 6 rfl (.c 7 rfl (.c 11 rfl .n))))) ?_
                            refine r_back_1 (q + 1) ?_ ?_ (Keep.app (.c 11 rfl .n) (.c 2 rfl (.c 3 rfl (.c 6 rfl (.c 7 rfl .n))))) ?_
                            · omega
                            · omega
                            · first | exact Ent.rfl | (repeat (first | exact Ent.rfl | refine Ent.c (SelB.ent) ?_ | refine Ent.c (SelS.ent) ?_ | refine Ent.cN ?_ | refine Ent.c (SelX.ent) ?_ | refine Ent.dropR ?_))
                        · skip
                          refine r_exit rfl ?_
                          refine r_end ?_
                          refine r_region ?_
                          refine p_mv rfl rfl ?_
                          refine p_add rfl rfl (by omega) rfl ?_
                          refine p_as rfl rfl ?_
                          refine o_keep (.c 2 rfl (.c 3 rfl (.c 6 rfl (.c 7 rfl .n)))) ?_
                          refine r_back_1 (j + 1) ?_ ?_ (Keep.app (.c 7 rfl .n) (.c 2 rfl (.c 3 rfl (.c 6 rfl .n)))) ?_
                          · omega
                          · omega
                          · first | exact Ent.rfl | (repeat (first | exact Ent.rfl | refine Ent.c (SelB.ent) ?_ | refine Ent.c (SelS.ent) ?_ | refine Ent.cN ?_ | refine Ent.c (SelX.ent) ?_ | refine Ent.dropR ?_))
              · skip
                have h0 : ¬ stateB s m.deal = 0 := of_decide_eq_false h5
                obtain ⟨hst, hk3, hyes, hmsh⟩ := hmd.resolve_left (fun q => h0 q.1)
                refine r_seq ?_
                refine r_seq ?_
                refine r_region ?_
                refine p_eql rfl rfl rfl ?_
                refine p_as rfl rfl ?_
                refine o_keep (.c 2 rfl (.c 3 rfl (.c 6 rfl (.c 7 rfl (.c 8 rfl (.c 55 rfl (.c 109 rfl .n))))))) ?_
                refine r_cond _ rfl (fun h10 => ?_) (fun h10 => ?_)
                · skip
                  have h1 : stateB s m.deal = 1 := of_decide_eq_true h10
                  refine r_skip ?_
                  refine r_cond _ rfl (fun h11 => ?_) (fun h11 => ?_)
                  · skip
                    refine r_seq ?_
                    refine r_plan _ [] mo (.c 2 rfl (.c 3 rfl (.c 6 rfl (.c 7 rfl (.c 8 rfl .n))))) Ent.rfl ?_
                    refine qm_q (i := 0) (l := [.k 6]) rfl rfl rfl rfl (by kernel_rfl) rfl (fun He => PV.rq (pv_mv (.n rfl) rfl rfl (fun _ => rfl))) ?_
                    refine qm_q (i := 1) (l := [.k 7]) rfl rfl rfl rfl (by kernel_rfl) rfl (fun He => PV.rq (pv_mv (.n rfl) rfl rfl (fun _ => rfl))) ?_
                    refine qm_q (i := 2) (l := [.o 0, .o 1]) rfl rfl rfl rfl (by kernel_rfl) rfl (fun He => PV.rq (pv_idx Try.underlying83 (.ofA ta_37) hrd (fun hg => ⟨rfl, (mapget hmj)⟩) (.n rfl) rfl rfl rfl (fun _ => ⟨rfl, rfl⟩))) ?_
                    refine qm_q (i := 3) (l := [.o 2]) rfl rfl rfl rfl (by kernel_rfl) rfl (fun He => PV.rq (pv_faat fa_37_0 (fun hg => Rd.sh hrd (mapget hmj)) (.n rfl) rfl rfl (fun _ => rfl))) ?_
                    refine qm_q (i := 4) (l := [.o 3]) rfl rfl rfl rfl (by kernel_rfl) rfl (fun He => RV.rq (rv_ldat (j := 0) tc_3 (Rd.ent hrd (by repeat (first | exact Ent.rfl | exact Ent.one Ent.h | exact Ent.one (SelS.ent) | exact Ent.nil | exact Ent.left | refine Ent.dropR ?_ | refine Ent.tr Ent.skip ?_))) (fun hg => (mapget hmj)) (.n rfl) rfl rfl (fun _ => rfl) rfl (fun _ => rfl))) ?_
                    refine qm_q (i := 5) (l := [.o 4]) rfl rfl rfl rfl (by kernel_rfl) rfl (fun He => PV.rq (pv_to (pv_neq (.n rfl) rfl rfl rfl (fun _ => ⟨rfl, rfl⟩)) (show _ = Value.bool false from bool_eq (by simp [hk3])))) ?_
                    refine qm_q (i := 6) (l := [.o 5]) rfl rfl rfl rfl (by kernel_rfl) rfl (fun He => PV.rq (pv_mv (.n rfl) rfl rfl (fun _ => rfl))) ?_
                    refine qm_q (i := 7) (l := [.k 6, .o 6]) rfl rfl rfl rfl (by kernel_rfl) rfl (fun He => PV.rq (pv_ung (.s rfl rfl rfl) rfl (pv_mv (.n rfl) rfl rfl (fun _ => rfl)))) ?_
                    refine qm_q (i := 8) (l := [.k 7, .o 6]) rfl rfl rfl rfl (by kernel_rfl) rfl (fun He => PV.rq (pv_ung (.s rfl rfl rfl) rfl (pv_mv (.n rfl) rfl rfl (fun _ => rfl)))) ?_
                    refine qm_q (i := 9) (l := [.o 7, .o 8, .o 6]) rfl rfl rfl rfl (by kernel_rfl) rfl (fun He => PV.rq (pv_ung (.s rfl rfl rfl) rfl (pv_idx Try.underlying83 (.ofA ta_37) hrd (fun hg => ⟨rfl, (mapget hmj)⟩) (.n rfl) rfl rfl rfl (fun _ => ⟨rfl, rfl⟩)))) ?_
                    refine qm_q (i := 10) (l := [.o 9, .o 6]) rfl rfl rfl rfl (by kernel_rfl) rfl (fun He => PV.rq (pv_ung (.s rfl rfl rfl) rfl (pv_faat fa_37_4 (fun hg => Rd.sh hrd (mapget hmj)) (.n rfl) rfl rfl (fun _ => rfl)))) ?_
                    refine qm_q (i := 11) (l := [.o 10, .o 6]) rfl rfl rfl rfl (by kernel_rfl) rfl (fun He => RV.rq (rv_ung (.s rfl rfl rfl) rfl (rv_ldat (j := 5) tc_4 (Rd.ent hrd (by repeat (first | exact Ent.rfl | exact Ent.one Ent.h | exact Ent.one (SelS.ent) | exact Ent.nil | exact Ent.left | refine Ent.dropR ?_ | refine Ent.tr Ent.skip ?_))) (fun hg => (mapget hmj)) (.n rfl) rfl rfl (fun _ => rfl) rfl (fun _ => rfl)))) ?_
                    refine qm_q (i := 12) (l := [.k 3, .o 6]) rfl rfl rfl rfl (by kernel_rfl) rfl (fun He => PV.rq (pv_ung (.s rfl rfl rfl) rfl (pv_mv (.n rfl) rfl rfl (fun _ => rfl)))) ?_
                    refine qm_q (i := 13) (l := [.k 6, .o 6]) rfl rfl rfl rfl (by kernel_rfl) rfl (fun He => PV.rq (pv_ung (.s rfl rfl rfl) rfl (pv_mv (.n rfl) rfl rfl (fun _ => rfl)))) ?_
                    refine qm_q (i := 14) (l := [.k 7, .o 6]) rfl rfl rfl rfl (by kernel_rfl) rfl (fun He => PV.rq (pv_ung (.s rfl rfl rfl) rfl (pv_mv (.n rfl) rfl rfl (fun _ => rfl)))) ?_
                    refine qm_q (i := 15) (l := [.o 13, .o 14, .o 6]) rfl rfl rfl rfl (by kernel_rfl) rfl (fun He => PV.rq (pv_ung (.s rfl rfl rfl) rfl (pv_idx Try.underlying83 (.ofA ta_37) hrd (fun hg => ⟨rfl, (mapget hmj)⟩) (.n rfl) rfl rfl rfl (fun _ => ⟨rfl, rfl⟩)))) ?_
                    refine qm_q (i := 16) (l := [.o 15, .o 6]) rfl rfl rfl rfl (by kernel_rfl) rfl (fun He => PV.rq (pv_ung (.s rfl rfl rfl) rfl (pv_faat fa_37_1 (fun hg => Rd.sh hrd (mapget hmj)) (.n rfl) rfl rfl (fun _ => rfl)))) ?_
                    refine qm_q (i := 17) (l := [.o 16, .o 6]) rfl rfl rfl rfl (by kernel_rfl) rfl (fun He => RV.rq (rv_ung (.s rfl rfl rfl) rfl (rv_ldat (j := 1) tc_3 (Rd.ent hrd (by repeat (first | exact Ent.rfl | exact Ent.one Ent.h | exact Ent.one (SelS.ent) | exact Ent.nil | exact Ent.left | refine Ent.dropR ?_ | refine Ent.tr Ent.skip ?_))) (fun hg => (mapget hmj)) (.n rfl) rfl rfl (fun _ => rfl) rfl (fun _ => rfl)))) ?_
                    refine qm_q (i := 18) (l := [.o 12, .o 17, .o 6]) rfl rfl rfl rfl (by kernel_rfl) rfl (fun He => rq_ung (.s rfl rfl rfl) rfl (rq_call cf_21 (.n rfl) rfl (.c rfl (fun _ => rfl) (.c rfl (fun _ => rfl) .n)) (fun hg => (broker_State _ bk s hB m.deal).q))) ?_
                    refine qm_q (i := 19) (l := [.o 18, .o 6]) rfl rfl rfl rfl (by kernel_rfl) rfl (fun He => PV.rq (pv_ung (.s rfl rfl rfl) rfl (pv_eql (.n rfl) rfl rfl rfl (fun _ => ⟨rfl, rfl⟩)))) ?_
                    refine qm_q (i := 20) (l := [.o 11, .o 19, .o 6]) rfl rfl rfl rfl (by kernel_rfl) rfl (fun He => PV.rq (pv_ung (.s rfl rfl rfl) rfl (pv_to (pv_bne Try.underlying4 (.n rfl) rfl rfl rfl (fun _ => ⟨rfl, rfl⟩)) (show _ = Value.bool false from bool_eq (by simp [hyes]))))) ?_
                    refine qm_q (i := 21) (l := [.o 6, .o 20]) rfl rfl rfl rfl (by kernel_rfl) rfl (fun He => PV.rq (pv_or (.n rfl) rfl rfl rfl (fun _ => ⟨rfl, fun hc => by first | rfl | (rw [hc]; rfl) | simp_all⟩))) ?_
                    refine qm_q (i := 22) (l := [.o 21]) rfl rfl rfl rfl (by kernel_rfl) rfl (fun He => PV.rq (pv_mv (.n rfl) rfl rfl (fun _ => rfl))) ?_
                    refine qm_q (i := 23) (l := [.k 8, .o 22]) rfl rfl rfl rfl (by kernel_rfl) rfl (fun He => PV.rq (pv_ung (.s rfl rfl rfl) rfl (pv_mv (.n rfl) rfl rfl (fun _ => rfl)))) ?_
                    refine qm_q (i := 25) (l := [.k 6, .o 22]) rfl rfl rfl rfl (by kernel_rfl) rfl (fun He => PV.rq (pv_ung (.s rfl rfl rfl) rfl (pv_mv (.n rfl) rfl rfl (fun _ => rfl)))) ?_
                    refine qm_q (i := 26) (l := [.k 7, .o 22]) rfl rfl rfl rfl (by kernel_rfl) rfl (fun He => PV.rq (pv_ung (.s rfl rfl rfl) rfl (pv_mv (.n rfl) rfl rfl (fun _ => rfl)))) ?_
                    refine qm_q (i := 27) (l := [.o 25, .o 26, .o 22]) rfl rfl rfl rfl (by kernel_rfl) rfl (fun He => PV.rq (pv_ung (.s rfl rfl rfl) rfl (pv_idx Try.underlying83 (.ofA ta_37) hrd (fun hg => ⟨rfl, (mapget hmj)⟩) (.n rfl) rfl rfl rfl (fun _ => ⟨rfl, rfl⟩)))) ?_
                    refine qm_q (i := 28) (l := [.o 27, .o 22]) rfl rfl rfl rfl (by kernel_rfl) rfl (fun He => PV.rq (pv_ung (.s rfl rfl rfl) rfl (pv_faat fa_37_2 (fun hg => Rd.sh hrd (mapget hmj)) (.n rfl) rfl rfl (fun _ => rfl)))) ?_
                    refine qm_q (i := 29) (l := [.o 28, .o 22]) rfl rfl rfl rfl (by kernel_rfl) rfl (fun He => RV.rq (rv_ung (.s rfl rfl rfl) rfl (rv_ldat (j := 2) tc_3 (Rd.ent hrd (by repeat (first | exact Ent.rfl | exact Ent.one Ent.h | exact Ent.one (SelS.ent) | exact Ent.nil | exact Ent.left | refine Ent.dropR ?_ | refine Ent.tr Ent.skip ?_))) (fun hg => (mapget hmj)) (.n rfl) rfl rfl (fun _ => rfl) rfl (fun _ => rfl)))) ?_
                    refine qm_calln (i := 24) [.o 23, .o 22] (by kernel_rfl) (by kernel_rfl) rfl rfl rfl rfl (by kernel_rfl) (by kernel_rfl) ⟨_, .s rfl rfl rfl, rfl⟩ cf_46 rfl (.c rfl .n) (plan_ShopsN _ [sl wv 35 2 ((wantsB s m.deal).map rW)] wv (wantsB s m.deal) hrw (by omega)) fun zv => ?_
                    refine qm_cat ?_
                    refine qm_rd zv fun hrz => ?_
                    refine qm_keep ?_
                    refine qm_q (i := 30) (l := [.o 24, .o 29, .o 22]) rfl rfl rfl rfl (by kernel_rfl) rfl (fun He => rq_ung (.s rfl rfl rfl) rfl (rq_call cf_20 (.n rfl) rfl (.c rfl (fun _ => rfl) (.c rfl (fun _ => rfl) .n)) (fun hg => ref_In _ _ zv (shopsL (wantsB s m.deal)) m.shop hrz.own (by have : (shopsL (wantsB s m.deal)).length ≤ 3 := List.length_filter_le _ _; omega)))) ?_
                    refine qm_q (i := 31) (l := [.o 30, .o 22]) rfl rfl rfl rfl (by kernel_rfl) rfl (fun He => PV.rq (pv_ung (.s rfl rfl rfl) rfl (pv_not (.n rfl) rfl rfl (fun _ => rfl)))) ?_
                    refine qm_q (i := 32) (l := [.o 22, .o 31]) rfl rfl rfl rfl (by kernel_rfl) rfl (fun He => PV.rq (pv_or (.n rfl) rfl rfl rfl (fun _ => ⟨rfl, fun hc => by first | rfl | (rw [hc]; rfl) | simp_all⟩))) ?_
                    refine qm_n (by kernel_rfl) (by kernel_rfl) (by kernel_rfl) (by kernel_rfl) (.c 2 rfl (.c 3 rfl (.c 6 rfl (.c 7 rfl (.c 144 rfl .n))))) ?_
                    refine r_cond _ rfl (fun h12 => ?_) (fun h12 => ?_)
                    · exfalso; simp [hmsh] at h12
                    · skip
                      refine r_skip ?_
                      refine r_end ?_
                      refine r_seq ?_
                      refine r_region ?_
                      refine p_as rfl rfl ?_
                      refine o_keep (.c 2 rfl (.c 3 rfl (.c 6 rfl (.c 7 rfl (.c 11 rfl .n))))) ?_
                      refine r_block ?_
                      refine r_loop_1 (fun (q : Nat) => [(11, true, .int .i64 (q : Int))]) (.c 2 rfl (.c 3 rfl (.c 6 rfl (.c 7 rfl .n)))) (fun (q : Nat) => sl dv 37 6 ((dueB s).map rM) :: brokP bk s :: bookP b20 77 [] s :: H) (fun (q : Nat) => q ≤ j) (fun (q : Nat) => j - q) (0) ?_ (.c 11 rfl .n) ?_ (fun q hI => ?_)
                      · exact Nat.zero_le _
                      · first | exact Ent.rfl | (repeat (first | exact Ent.rfl | refine Ent.c (SelB.ent) ?_ | refine Ent.c (SelS.ent) ?_ | refine Ent.cN ?_ | refine Ent.c (SelX.ent) ?_ | refine Ent.dropR ?_))
                      · skip
                        refine r_seq ?_
                        refine r_seq ?_
                        refine r_region ?_
                        refine p_mv rfl rfl ?_
                        refine p_mv rfl rfl ?_
                        refine p_lss rfl rfl rfl ?_
                        refine o_keep (.c 2 rfl (.c 3 rfl (.c 6 rfl (.c 7 rfl (.c 11 rfl (.c 147 rfl .n)))))) ?_
                        refine r_cond _ rfl (fun h13 => ?_) (fun h13 => ?_)
                        · skip
                          have hql : q < j := by have := of_decide_eq_true h13; omega
                          obtain ⟨n, hmq⟩ := getlt (l := dueB s) (i := q) (by omega)
                          have hnm := nodup_at hnd hmq hmj hql
                          refine r_skip ?_
                          refine r_seq ?_
                          refine r_block ?_
                          refine r_seq ?_
                          refine r_plan _ [] mo (.c 2 rfl (.c 3 rfl (.c 6 rfl (.c 7 rfl (.c 11 rfl .n))))) Ent.rfl ?_
                          refine qm_q (i := 0) (l := [.k 6]) rfl rfl rfl rfl (by kernel_rfl) rfl (fun He => PV.rq (pv_mv (.n rfl) rfl rfl (fun _ => rfl))) ?_
                          refine qm_q (i := 1) (l := [.k 11]) rfl rfl rfl rfl (by kernel_rfl) rfl (fun He => PV.rq (pv_mv (.n rfl) rfl rfl (fun _ => rfl))) ?_
                          refine qm_q (i := 2) (l := [.o 0, .o 1]) rfl rfl rfl rfl (by kernel_rfl) rfl (fun He => PV.rq (pv_idx Try.underlying83 (.ofA ta_37) hrd (fun hg => ⟨rfl, (mapget hmq)⟩) (.n rfl) rfl rfl rfl (fun _ => ⟨rfl, rfl⟩))) ?_
                          refine qm_q (i := 3) (l := [.o 2]) rfl rfl rfl rfl (by kernel_rfl) rfl (fun He => RV.rq (rv_ldats (j := 0) ta_37 (Rd.ent hrd (by repeat (first | exact Ent.rfl | exact Ent.one Ent.h | exact Ent.one (SelS.ent) | exact Ent.nil | exact Ent.left | refine Ent.dropR ?_ | refine Ent.tr Ent.skip ?_))) (fun hg => (mapget hmq)) (.n rfl) rfl rfl (fun _ => rfl) rfl (.s (.s (.s (.s (.s (.s .z)))))))) ?_
                          refine qm_q (i := 4) (l := [.k 6]) rfl rfl rfl rfl (by kernel_rfl) rfl (fun He => PV.rq (pv_mv (.n rfl) rfl rfl (fun _ => rfl))) ?_
                          refine qm_q (i := 5) (l := [.k 7]) rfl rfl rfl rfl (by kernel_rfl) rfl (fun He => PV.rq (pv_mv (.n rfl) rfl rfl (fun _ => rfl))) ?_
                          refine qm_q (i := 6) (l := [.o 4, .o 5]) rfl rfl rfl rfl (by kernel_rfl) rfl (fun He => PV.rq (pv_idx Try.underlying83 (.ofA ta_37) hrd (fun hg => ⟨rfl, (mapget hmj)⟩) (.n rfl) rfl rfl rfl (fun _ => ⟨rfl, rfl⟩))) ?_
                          refine qm_q (i := 7) (l := [.o 6]) rfl rfl rfl rfl (by kernel_rfl) rfl (fun He => RV.rq (rv_ldats (j := 0) ta_37 (Rd.ent hrd (by repeat (first | exact Ent.rfl | exact Ent.one Ent.h | exact Ent.one (SelS.ent) | exact Ent.nil | exact Ent.left | refine Ent.dropR ?_ | refine Ent.tr Ent.skip ?_))) (fun hg => (mapget hmj)) (.n rfl) rfl rfl (fun _ => rfl) rfl (.s (.s (.s (.s (.s (.s .z)))))))) ?_
                          refine qm_q (i := 8) (l := [.o 3, .o 7]) rfl rfl rfl rfl (by kernel_rfl) rfl (fun He => PV.rq (pv_aeq (eq_MailB) (.n rfl) rfl rfl rfl (fun _ => ⟨rfl, rfl⟩))) ?_
                          refine qm_n (by kernel_rfl) (by kernel_rfl) (by kernel_rfl) (by kernel_rfl) (.c 2 rfl (.c 3 rfl (.c 6 rfl (.c 7 rfl (.c 11 rfl (.c 158 rfl .n)))))) ?_
                          refine r_cond _ rfl (fun h14 => ?_) (fun h14 => ?_)
                          · exfalso; simp at h14; exact hnm h14
                          · skip
                            refine r_skip ?_
                            refine r_end ?_
                            refine r_region ?_
                            refine p_mv rfl rfl ?_
                            refine p_add rfl rfl (by omega) rfl ?_
                            refine p_as rfl rfl ?_
                            refine o_keep (.c 2 rfl (.c 3 rfl (.c 6 rfl (.c 7 rfl (.c 11 rfl .n))))) ?_
                            refine r_back_1 (q + 1) ?_ ?_ (Keep.app (.c 11 rfl .n) (.c 2 rfl (.c 3 rfl (.c 6 rfl (.c 7 rfl .n))))) ?_
                            · omega
                            · omega
                            · first | exact Ent.rfl | (repeat (first | exact Ent.rfl | refine Ent.c (SelB.ent) ?_ | refine Ent.c (SelS.ent) ?_ | refine Ent.cN ?_ | refine Ent.c (SelX.ent) ?_ | refine Ent.dropR ?_))
                        · skip
                          refine r_exit rfl ?_
                          refine r_end ?_
                          refine r_region ?_
                          refine p_mv rfl rfl ?_
                          refine p_add rfl rfl (by omega) rfl ?_
                          refine p_as rfl rfl ?_
                          refine o_keep (.c 2 rfl (.c 3 rfl (.c 6 rfl (.c 7 rfl .n)))) ?_
                          refine r_back_1 (j + 1) ?_ ?_ (Keep.app (.c 7 rfl .n) (.c 2 rfl (.c 3 rfl (.c 6 rfl .n)))) ?_
                          · omega
                          · omega
                          · first | exact Ent.rfl | (repeat (first | exact Ent.rfl | refine Ent.c (SelB.ent) ?_ | refine Ent.c (SelS.ent) ?_ | refine Ent.cN ?_ | refine Ent.c (SelX.ent) ?_ | refine Ent.dropR ?_))
                  · exfalso; have := of_decide_eq_false h11; omega
                · skip
                  have h1 : ¬ stateB s m.deal = 1 := of_decide_eq_false h10
                  refine r_region ?_
                  refine p_eql rfl rfl rfl ?_
                  refine p_as rfl rfl ?_
                  refine o_keep (.c 2 rfl (.c 3 rfl (.c 6 rfl (.c 7 rfl (.c 8 rfl (.c 109 rfl .n)))))) ?_
                  refine r_cond _ rfl (fun h15 => ?_) (fun h15 => ?_)
                  · skip
                    refine r_seq ?_
                    refine r_plan _ [] mo (.c 2 rfl (.c 3 rfl (.c 6 rfl (.c 7 rfl (.c 8 rfl .n))))) Ent.rfl ?_
                    refine qm_q (i := 0) (l := [.k 6]) rfl rfl rfl rfl (by kernel_rfl) rfl (fun He => PV.rq (pv_mv (.n rfl) rfl rfl (fun _ => rfl))) ?_
                    refine qm_q (i := 1) (l := [.k 7]) rfl rfl rfl rfl (by kernel_rfl) rfl (fun He => PV.rq (pv_mv (.n rfl) rfl rfl (fun _ => rfl))) ?_
                    refine qm_q (i := 2) (l := [.o 0, .o 1]) rfl rfl rfl rfl (by kernel_rfl) rfl (fun He => PV.rq (pv_idx Try.underlying83 (.ofA ta_37) hrd (fun hg => ⟨rfl, (mapget hmj)⟩) (.n rfl) rfl rfl rfl (fun _ => ⟨rfl, rfl⟩))) ?_
                    refine qm_q (i := 3) (l := [.o 2]) rfl rfl rfl rfl (by kernel_rfl) rfl (fun He => PV.rq (pv_faat fa_37_0 (fun hg => Rd.sh hrd (mapget hmj)) (.n rfl) rfl rfl (fun _ => rfl))) ?_
                    refine qm_q (i := 4) (l := [.o 3]) rfl rfl rfl rfl (by kernel_rfl) rfl (fun He => RV.rq (rv_ldat (j := 0) tc_3 (Rd.ent hrd (by repeat (first | exact Ent.rfl | exact Ent.one Ent.h | exact Ent.one (SelS.ent) | exact Ent.nil | exact Ent.left | refine Ent.dropR ?_ | refine Ent.tr Ent.skip ?_))) (fun hg => (mapget hmj)) (.n rfl) rfl rfl (fun _ => rfl) rfl (fun _ => rfl))) ?_
                    refine qm_q (i := 5) (l := [.o 4]) rfl rfl rfl rfl (by kernel_rfl) rfl (fun He => PV.rq (pv_to (pv_neq (.n rfl) rfl rfl rfl (fun _ => ⟨rfl, rfl⟩)) (show _ = Value.bool false from bool_eq (by simp [hk3])))) ?_
                    refine qm_q (i := 6) (l := [.o 5]) rfl rfl rfl rfl (by kernel_rfl) rfl (fun He => PV.rq (pv_mv (.n rfl) rfl rfl (fun _ => rfl))) ?_
                    refine qm_q (i := 7) (l := [.k 6, .o 6]) rfl rfl rfl rfl (by kernel_rfl) rfl (fun He => PV.rq (pv_ung (.s rfl rfl rfl) rfl (pv_mv (.n rfl) rfl rfl (fun _ => rfl)))) ?_
                    refine qm_q (i := 8) (l := [.k 7, .o 6]) rfl rfl rfl rfl (by kernel_rfl) rfl (fun He => PV.rq (pv_ung (.s rfl rfl rfl) rfl (pv_mv (.n rfl) rfl rfl (fun _ => rfl)))) ?_
                    refine qm_q (i := 9) (l := [.o 7, .o 8, .o 6]) rfl rfl rfl rfl (by kernel_rfl) rfl (fun He => PV.rq (pv_ung (.s rfl rfl rfl) rfl (pv_idx Try.underlying83 (.ofA ta_37) hrd (fun hg => ⟨rfl, (mapget hmj)⟩) (.n rfl) rfl rfl rfl (fun _ => ⟨rfl, rfl⟩)))) ?_
                    refine qm_q (i := 10) (l := [.o 9, .o 6]) rfl rfl rfl rfl (by kernel_rfl) rfl (fun He => PV.rq (pv_ung (.s rfl rfl rfl) rfl (pv_faat fa_37_4 (fun hg => Rd.sh hrd (mapget hmj)) (.n rfl) rfl rfl (fun _ => rfl)))) ?_
                    refine qm_q (i := 11) (l := [.o 10, .o 6]) rfl rfl rfl rfl (by kernel_rfl) rfl (fun He => RV.rq (rv_ung (.s rfl rfl rfl) rfl (rv_ldat (j := 5) tc_4 (Rd.ent hrd (by repeat (first | exact Ent.rfl | exact Ent.one Ent.h | exact Ent.one (SelS.ent) | exact Ent.nil | exact Ent.left | refine Ent.dropR ?_ | refine Ent.tr Ent.skip ?_))) (fun hg => (mapget hmj)) (.n rfl) rfl rfl (fun _ => rfl) rfl (fun _ => rfl)))) ?_
                    refine qm_q (i := 12) (l := [.k 3, .o 6]) rfl rfl rfl rfl (by kernel_rfl) rfl (fun He => PV.rq (pv_ung (.s rfl rfl rfl) rfl (pv_mv (.n rfl) rfl rfl (fun _ => rfl)))) ?_
                    refine qm_q (i := 13) (l := [.k 6, .o 6]) rfl rfl rfl rfl (by kernel_rfl) rfl (fun He => PV.rq (pv_ung (.s rfl rfl rfl) rfl (pv_mv (.n rfl) rfl rfl (fun _ => rfl)))) ?_
                    refine qm_q (i := 14) (l := [.k 7, .o 6]) rfl rfl rfl rfl (by kernel_rfl) rfl (fun He => PV.rq (pv_ung (.s rfl rfl rfl) rfl (pv_mv (.n rfl) rfl rfl (fun _ => rfl)))) ?_
                    refine qm_q (i := 15) (l := [.o 13, .o 14, .o 6]) rfl rfl rfl rfl (by kernel_rfl) rfl (fun He => PV.rq (pv_ung (.s rfl rfl rfl) rfl (pv_idx Try.underlying83 (.ofA ta_37) hrd (fun hg => ⟨rfl, (mapget hmj)⟩) (.n rfl) rfl rfl rfl (fun _ => ⟨rfl, rfl⟩)))) ?_
                    refine qm_q (i := 16) (l := [.o 15, .o 6]) rfl rfl rfl rfl (by kernel_rfl) rfl (fun He => PV.rq (pv_ung (.s rfl rfl rfl) rfl (pv_faat fa_37_1 (fun hg => Rd.sh hrd (mapget hmj)) (.n rfl) rfl rfl (fun _ => rfl)))) ?_
                    refine qm_q (i := 17) (l := [.o 16, .o 6]) rfl rfl rfl rfl (by kernel_rfl) rfl (fun He => RV.rq (rv_ung (.s rfl rfl rfl) rfl (rv_ldat (j := 1) tc_3 (Rd.ent hrd (by repeat (first | exact Ent.rfl | exact Ent.one Ent.h | exact Ent.one (SelS.ent) | exact Ent.nil | exact Ent.left | refine Ent.dropR ?_ | refine Ent.tr Ent.skip ?_))) (fun hg => (mapget hmj)) (.n rfl) rfl rfl (fun _ => rfl) rfl (fun _ => rfl)))) ?_
                    refine qm_q (i := 18) (l := [.o 12, .o 17, .o 6]) rfl rfl rfl rfl (by kernel_rfl) rfl (fun He => rq_ung (.s rfl rfl rfl) rfl (rq_call cf_21 (.n rfl) rfl (.c rfl (fun _ => rfl) (.c rfl (fun _ => rfl) .n)) (fun hg => (broker_State _ bk s hB m.deal).q))) ?_
                    refine qm_q (i := 19) (l := [.o 18, .o 6]) rfl rfl rfl rfl (by kernel_rfl) rfl (fun He => PV.rq (pv_ung (.s rfl rfl rfl) rfl (pv_eql (.n rfl) rfl rfl rfl (fun _ => ⟨rfl, rfl⟩)))) ?_
                    refine qm_q (i := 20) (l := [.o 11, .o 19, .o 6]) rfl rfl rfl rfl (by kernel_rfl) rfl (fun He => PV.rq (pv_ung (.s rfl rfl rfl) rfl (pv_to (pv_bne Try.underlying4 (.n rfl) rfl rfl rfl (fun _ => ⟨rfl, rfl⟩)) (show _ = Value.bool false from bool_eq (by simp [hyes]))))) ?_
                    refine qm_q (i := 21) (l := [.o 6, .o 20]) rfl rfl rfl rfl (by kernel_rfl) rfl (fun He => PV.rq (pv_or (.n rfl) rfl rfl rfl (fun _ => ⟨rfl, fun hc => by first | rfl | (rw [hc]; rfl) | simp_all⟩))) ?_
                    refine qm_q (i := 22) (l := [.o 21]) rfl rfl rfl rfl (by kernel_rfl) rfl (fun He => PV.rq (pv_mv (.n rfl) rfl rfl (fun _ => rfl))) ?_
                    refine qm_q (i := 23) (l := [.k 8, .o 22]) rfl rfl rfl rfl (by kernel_rfl) rfl (fun He => PV.rq (pv_ung (.s rfl rfl rfl) rfl (pv_mv (.n rfl) rfl rfl (fun _ => rfl)))) ?_
                    refine qm_q (i := 25) (l := [.k 6, .o 22]) rfl rfl rfl rfl (by kernel_rfl) rfl (fun He => PV.rq (pv_ung (.s rfl rfl rfl) rfl (pv_mv (.n rfl) rfl rfl (fun _ => rfl)))) ?_
                    refine qm_q (i := 26) (l := [.k 7, .o 22]) rfl rfl rfl rfl (by kernel_rfl) rfl (fun He => PV.rq (pv_ung (.s rfl rfl rfl) rfl (pv_mv (.n rfl) rfl rfl (fun _ => rfl)))) ?_
                    refine qm_q (i := 27) (l := [.o 25, .o 26, .o 22]) rfl rfl rfl rfl (by kernel_rfl) rfl (fun He => PV.rq (pv_ung (.s rfl rfl rfl) rfl (pv_idx Try.underlying83 (.ofA ta_37) hrd (fun hg => ⟨rfl, (mapget hmj)⟩) (.n rfl) rfl rfl rfl (fun _ => ⟨rfl, rfl⟩)))) ?_
                    refine qm_q (i := 28) (l := [.o 27, .o 22]) rfl rfl rfl rfl (by kernel_rfl) rfl (fun He => PV.rq (pv_ung (.s rfl rfl rfl) rfl (pv_faat fa_37_2 (fun hg => Rd.sh hrd (mapget hmj)) (.n rfl) rfl rfl (fun _ => rfl)))) ?_
                    refine qm_q (i := 29) (l := [.o 28, .o 22]) rfl rfl rfl rfl (by kernel_rfl) rfl (fun He => RV.rq (rv_ung (.s rfl rfl rfl) rfl (rv_ldat (j := 2) tc_3 (Rd.ent hrd (by repeat (first | exact Ent.rfl | exact Ent.one Ent.h | exact Ent.one (SelS.ent) | exact Ent.nil | exact Ent.left | refine Ent.dropR ?_ | refine Ent.tr Ent.skip ?_))) (fun hg => (mapget hmj)) (.n rfl) rfl rfl (fun _ => rfl) rfl (fun _ => rfl)))) ?_
                    refine qm_calln (i := 24) [.o 23, .o 22] (by kernel_rfl) (by kernel_rfl) rfl rfl rfl rfl (by kernel_rfl) (by kernel_rfl) ⟨_, .s rfl rfl rfl, rfl⟩ cf_46 rfl (.c rfl .n) (plan_ShopsN _ [sl wv 35 2 ((wantsB s m.deal).map rW)] wv (wantsB s m.deal) hrw (by omega)) fun zv => ?_
                    refine qm_cat ?_
                    refine qm_rd zv fun hrz => ?_
                    refine qm_keep ?_
                    refine qm_q (i := 30) (l := [.o 24, .o 29, .o 22]) rfl rfl rfl rfl (by kernel_rfl) rfl (fun He => rq_ung (.s rfl rfl rfl) rfl (rq_call cf_20 (.n rfl) rfl (.c rfl (fun _ => rfl) (.c rfl (fun _ => rfl) .n)) (fun hg => ref_In _ _ zv (shopsL (wantsB s m.deal)) m.shop hrz.own (by have : (shopsL (wantsB s m.deal)).length ≤ 3 := List.length_filter_le _ _; omega)))) ?_
                    refine qm_q (i := 31) (l := [.o 30, .o 22]) rfl rfl rfl rfl (by kernel_rfl) rfl (fun He => PV.rq (pv_ung (.s rfl rfl rfl) rfl (pv_not (.n rfl) rfl rfl (fun _ => rfl)))) ?_
                    refine qm_q (i := 32) (l := [.o 22, .o 31]) rfl rfl rfl rfl (by kernel_rfl) rfl (fun He => PV.rq (pv_or (.n rfl) rfl rfl rfl (fun _ => ⟨rfl, fun hc => by first | rfl | (rw [hc]; rfl) | simp_all⟩))) ?_
                    refine qm_n (by kernel_rfl) (by kernel_rfl) (by kernel_rfl) (by kernel_rfl) (.c 2 rfl (.c 3 rfl (.c 6 rfl (.c 7 rfl (.c 144 rfl .n))))) ?_
                    refine r_cond _ rfl (fun h16 => ?_) (fun h16 => ?_)
                    · exfalso; simp [hmsh] at h16
                    · skip
                      refine r_skip ?_
                      refine r_end ?_
                      refine r_seq ?_
                      refine r_region ?_
                      refine p_as rfl rfl ?_
                      refine o_keep (.c 2 rfl (.c 3 rfl (.c 6 rfl (.c 7 rfl (.c 11 rfl .n))))) ?_
                      refine r_block ?_
                      refine r_loop_1 (fun (q : Nat) => [(11, true, .int .i64 (q : Int))]) (.c 2 rfl (.c 3 rfl (.c 6 rfl (.c 7 rfl .n)))) (fun (q : Nat) => sl dv 37 6 ((dueB s).map rM) :: brokP bk s :: bookP b20 77 [] s :: H) (fun (q : Nat) => q ≤ j) (fun (q : Nat) => j - q) (0) ?_ (.c 11 rfl .n) ?_ (fun q hI => ?_)
                      · exact Nat.zero_le _
                      · first | exact Ent.rfl | (repeat (first | exact Ent.rfl | refine Ent.c (SelB.ent) ?_ | refine Ent.c (SelS.ent) ?_ | refine Ent.cN ?_ | refine Ent.c (SelX.ent) ?_ | refine Ent.dropR ?_))
                      · skip
                        refine r_seq ?_
                        refine r_seq ?_
                        refine r_region ?_
                        refine p_mv rfl rfl ?_
                        refine p_mv rfl rfl ?_
                        refine p_lss rfl rfl rfl ?_
                        refine o_keep (.c 2 rfl (.c 3 rfl (.c 6 rfl (.c 7 rfl (.c 11 rfl (.c 147 rfl .n)))))) ?_
                        refine r_cond _ rfl (fun h17 => ?_) (fun h17 => ?_)
                        · skip
                          have hql : q < j := by have := of_decide_eq_true h17; omega
                          obtain ⟨n, hmq⟩ := getlt (l := dueB s) (i := q) (by omega)
                          have hnm := nodup_at hnd hmq hmj hql
                          refine r_skip ?_
                          refine r_seq ?_
                          refine r_block ?_
                          refine r_seq ?_
                          refine r_plan _ [] mo (.c 2 rfl (.c 3 rfl (.c 6 rfl (.c 7 rfl (.c 11 rfl .n))))) Ent.rfl ?_
                          refine qm_q (i := 0) (l := [.k 6]) rfl rfl rfl rfl (by kernel_rfl) rfl (fun He => PV.rq (pv_mv (.n rfl) rfl rfl (fun _ => rfl))) ?_
                          refine qm_q (i := 1) (l := [.k 11]) rfl rfl rfl rfl (by kernel_rfl) rfl (fun He => PV.rq (pv_mv (.n rfl) rfl rfl (fun _ => rfl))) ?_
                          refine qm_q (i := 2) (l := [.o 0, .o 1]) rfl rfl rfl rfl (by kernel_rfl) rfl (fun He => PV.rq (pv_idx Try.underlying83 (.ofA ta_37) hrd (fun hg => ⟨rfl, (mapget hmq)⟩) (.n rfl) rfl rfl rfl (fun _ => ⟨rfl, rfl⟩))) ?_
                          refine qm_q (i := 3) (l := [.o 2]) rfl rfl rfl rfl (by kernel_rfl) rfl (fun He => RV.rq (rv_ldats (j := 0) ta_37 (Rd.ent hrd (by repeat (first | exact Ent.rfl | exact Ent.one Ent.h | exact Ent.one (SelS.ent) | exact Ent.nil | exact Ent.left | refine Ent.dropR ?_ | refine Ent.tr Ent.skip ?_))) (fun hg => (mapget hmq)) (.n rfl) rfl rfl (fun _ => rfl) rfl (.s (.s (.s (.s (.s (.s .z)))))))) ?_
                          refine qm_q (i := 4) (l := [.k 6]) rfl rfl rfl rfl (by kernel_rfl) rfl (fun He => PV.rq (pv_mv (.n rfl) rfl rfl (fun _ => rfl))) ?_
                          refine qm_q (i := 5) (l := [.k 7]) rfl rfl rfl rfl (by kernel_rfl) rfl (fun He => PV.rq (pv_mv (.n rfl) rfl rfl (fun _ => rfl))) ?_
                          refine qm_q (i := 6) (l := [.o 4, .o 5]) rfl rfl rfl rfl (by kernel_rfl) rfl (fun He => PV.rq (pv_idx Try.underlying83 (.ofA ta_37) hrd (fun hg => ⟨rfl, (mapget hmj)⟩) (.n rfl) rfl rfl rfl (fun _ => ⟨rfl, rfl⟩))) ?_
                          refine qm_q (i := 7) (l := [.o 6]) rfl rfl rfl rfl (by kernel_rfl) rfl (fun He => RV.rq (rv_ldats (j := 0) ta_37 (Rd.ent hrd (by repeat (first | exact Ent.rfl | exact Ent.one Ent.h | exact Ent.one (SelS.ent) | exact Ent.nil | exact Ent.left | refine Ent.dropR ?_ | refine Ent.tr Ent.skip ?_))) (fun hg => (mapget hmj)) (.n rfl) rfl rfl (fun _ => rfl) rfl (.s (.s (.s (.s (.s (.s .z)))))))) ?_
                          refine qm_q (i := 8) (l := [.o 3, .o 7]) rfl rfl rfl rfl (by kernel_rfl) rfl (fun He => PV.rq (pv_aeq (eq_MailB) (.n rfl) rfl rfl rfl (fun _ => ⟨rfl, rfl⟩))) ?_
                          refine qm_n (by kernel_rfl) (by kernel_rfl) (by kernel_rfl) (by kernel_rfl) (.c 2 rfl (.c 3 rfl (.c 6 rfl (.c 7 rfl (.c 11 rfl (.c 158 rfl .n)))))) ?_
                          refine r_cond _ rfl (fun h18 => ?_) (fun h18 => ?_)
                          · exfalso; simp at h18; exact hnm h18
                          · skip
                            refine r_skip ?_
                            refine r_end ?_
                            refine r_region ?_
                            refine p_mv rfl rfl ?_
                            refine p_add rfl rfl (by omega) rfl ?_
                            refine p_as rfl rfl ?_
                            refine o_keep (.c 2 rfl (.c 3 rfl (.c 6 rfl (.c 7 rfl (.c 11 rfl .n))))) ?_
                            refine r_back_1 (q + 1) ?_ ?_ (Keep.app (.c 11 rfl .n) (.c 2 rfl (.c 3 rfl (.c 6 rfl (.c 7 rfl .n))))) ?_
                            · omega
                            · omega
                            · first | exact Ent.rfl | (repeat (first | exact Ent.rfl | refine Ent.c (SelB.ent) ?_ | refine Ent.c (SelS.ent) ?_ | refine Ent.cN ?_ | refine Ent.c (SelX.ent) ?_ | refine Ent.dropR ?_))
                        · skip
                          refine r_exit rfl ?_
                          refine r_end ?_
                          refine r_region ?_
                          refine p_mv rfl rfl ?_
                          refine p_add rfl rfl (by omega) rfl ?_
                          refine p_as rfl rfl ?_
                          refine o_keep (.c 2 rfl (.c 3 rfl (.c 6 rfl (.c 7 rfl .n)))) ?_
                          refine r_back_1 (j + 1) ?_ ?_ (Keep.app (.c 7 rfl .n) (.c 2 rfl (.c 3 rfl (.c 6 rfl .n)))) ?_
                          · omega
                          · omega
                          · first | exact Ent.rfl | (repeat (first | exact Ent.rfl | refine Ent.c (SelB.ent) ?_ | refine Ent.c (SelS.ent) ?_ | refine Ent.cN ?_ | refine Ent.c (SelX.ent) ?_ | refine Ent.dropR ?_))
                  · exfalso; have := of_decide_eq_false h15; omega
            · skip
              refine r_exit rfl ?_
              refine r_seq ?_
              refine r_region ?_
              refine p_mv rfl rfl ?_
              refine p_callc cf_47 (.c rfl .n) rfl (broker_Crash _ bk s hB) ?_
              refine o_keep (.c 2 rfl (.c 3 rfl .n)) ?_
              refine r_seq ?_
              refine r_region ?_
              refine p_as rfl rfl ?_
              refine o_keep (.c 2 rfl (.c 3 rfl (.c 12 rfl .n))) ?_
              refine r_seq ?_
              refine r_seq ?_
              refine r_region ?_
              refine p_as rfl rfl ?_
              refine o_keep (.c 2 rfl (.c 3 rfl (.c 12 rfl (.c 13 rfl .n)))) ?_
              refine r_block ?_
              refine r_loop_2 (fun (k : Nat) (a : Nat) => [(13, true, .int .i64 (k : Int)), (12, true, .int .i64 (a : Int))]) (.c 2 rfl (.c 3 rfl .n)) (fun (k : Nat) (a : Nat) => brokP bk (crashB s) :: H) (fun (k : Nat) (a : Nat) => k ≤ s.l.length ∧ a = shopsN (s.l.take k) ∧ a ≤ 3 * k) (fun (k : Nat) (a : Nat) => s.l.length - k) (0) (0) ?_ (.c 13 rfl (.c 12 rfl .n)) ?_ (fun k a hI => ?_)
              · exact ⟨Nat.zero_le _, rfl, Nat.le_refl _⟩
              · first | exact Ent.rfl | (repeat (first | exact Ent.rfl | refine Ent.c (SelB.ent) ?_ | refine Ent.c (SelS.ent) ?_ | refine Ent.cN ?_ | refine Ent.c (SelX.ent) ?_ | refine Ent.dropR ?_))
              · skip
                obtain ⟨hk0, ha, ha3⟩ := hI
                have hC := hB.crash
                refine r_seq ?_
                refine r_seq ?_
                refine r_region ?_
                refine p_mv rfl rfl ?_
                refine p_mv rfl rfl ?_
                refine p_callv cf_17 (.c rfl .n) rfl ((broker_Len _ bk (crashB s) hC).q) ?_
                refine p_lss rfl rfl rfl ?_
                refine o_keep (.c 2 rfl (.c 3 rfl (.c 12 rfl (.c 13 rfl (.c 164 rfl .n))))) ?_
                refine r_cond _ rfl (fun h19 => ?_) (fun h19 => ?_)
                · skip
                  have hkl : k < s.l.length := by have := of_decide_eq_true h19; have e : (crashB s).l.length = s.l.length := crash_lenD; omega
                  obtain ⟨d, hdk⟩ := getlt hkl
                  have hwd := crash_wantsD hdk
                  have hst := shopsN_take hdk
                  have h3 : (shopsL d.wants).length ≤ 3 := List.length_filter_le _ _
                  refine r_skip ?_
                  refine r_seq ?_
                  refine r_block ?_
                  refine r_seq ?_
                  refine r_seq ?_
                  refine r_region ?_
                  refine p_mv rfl rfl ?_
                  refine p_mv rfl rfl ?_
                  refine p_callv cf_21 (.c rfl (.c rfl .n)) rfl ((broker_State _ bk (crashB s) hC k).q) ?_
                  refine p_eql rfl rfl rfl ?_
                  refine o_keep (.c 2 rfl (.c 3 rfl (.c 12 rfl (.c 13 rfl (.c 170 rfl .n))))) ?_
                  refine r_cond _ rfl (fun h20 => ?_) (fun h20 => ?_)
                  · exfalso; exact crash_stD k hkl (of_decide_eq_true h20)
                  · skip
                    refine r_skip ?_
                    refine r_region ?_
                    refine p_mv rfl rfl ?_
                    refine p_mv rfl rfl ?_
                    refine p_mv rfl rfl ?_
                    refine p_calle cf_45 (.c rfl (.c rfl .n)) rfl (broker_Wants _ bk (crashB s) hC k (wants_bb hC)) fun wv => ?_
                    refine o_cat ?_
                    refine o_rd wv fun hrw => ?_
                    rw [hwd] at hrw ⊢
                    have hwl4 : d.wants.length ≤ 4 := (hB.d d (List.mem_of_getElem? hdk)).le.1
                    refine p_calle cf_46 (.c rfl .n) rfl (plan_Shops _ [sl wv 35 2 (d.wants.map rW)] wv d.wants hrw (by omega)) fun zv => ?_
                    refine o_cat ?_
                    refine o_rd zv fun hrz => ?_
                    refine l_op (x_p (pv_lens (Rd.len hrz) ⟨_, Try.underlying23⟩ (.n rfl) rfl rfl rfl rfl (fun _ => rfl)) rfl rfl ?_)
                    refine p_add rfl rfl (by omega) rfl ?_
                    refine p_as rfl rfl ?_
                    refine o_keep (.c 2 rfl (.c 3 rfl (.c 12 rfl (.c 13 rfl .n)))) ?_
                    refine r_end ?_
                    refine r_region ?_
                    refine p_mv rfl rfl ?_
                    refine p_add rfl rfl (by omega) rfl ?_
                    refine p_as rfl rfl ?_
                    refine o_keep (.c 2 rfl (.c 3 rfl (.c 12 rfl (.c 13 rfl .n)))) ?_
                    refine r_back_2 (k + 1) (a + (shopsL d.wants).length) ?_ ?_ (Keep.app (.c 13 rfl (.c 12 rfl .n)) (.c 2 rfl (.c 3 rfl .n))) ?_
                    · exact ⟨by omega, by rw [hst, ← ha], by omega⟩
                    · omega
                    · first | exact Ent.rfl | (repeat (first | exact Ent.rfl | refine Ent.c (SelB.ent) ?_ | refine Ent.c (SelS.ent) ?_ | refine Ent.cN ?_ | refine Ent.c (SelX.ent) ?_ | refine Ent.dropR ?_))
                · skip
                  have hkl : s.l.length ≤ k := by have := of_decide_eq_false h19; have e : (crashB s).l.length = s.l.length := crash_lenD; omega
                  rw [List.take_of_length_le hkl] at ha
                  refine r_exit rfl ?_
                  refine r_seq ?_
                  refine r_region ?_
                  refine p_mv rfl rfl ?_
                  refine p_calle cf_41 (.c rfl .n) rfl (broker_Due _ bk (crashB s) hC) fun ev => ?_
                  refine o_cat ?_
                  refine o_rd ev fun hre => ?_
                  refine l_op (x_p (pv_lens (Rd.len hre) ⟨_, Try.underlying83⟩ (.n rfl) rfl rfl rfl rfl (fun _ => rfl)) rfl rfl ?_)
                  refine p_mv rfl rfl ?_
                  refine p_eql rfl rfl rfl ?_
                  refine p_as rfl rfl ?_
                  refine o_keep (.c 2 rfl .n) ?_
                  refine r_retv hF rfl (.c (.t rfl) .n) ?_ ?_
                  · first | exact Ent.rfl | (repeat (first | exact Ent.rfl | refine Ent.c (SelB.ent) ?_ | refine Ent.c (SelS.ent) ?_ | refine Ent.cN ?_ | refine Ent.c (SelX.ent) ?_ | refine Ent.dropR ?_))
                  · first | rfl | exact bool_eq (by simp [hB.crash_due, ha])

end Go.Proofs.Ytmakdilmibjpbab
