/- The walks of BrokDoes: written by a program of ours (gen.py) over the engine. -/
import Derived.Test.YtmakdilmibjpbabPlain
import Derived.Test.YtmakdilmibjpbabFacts
import Derived.Test.YtmakdilmibjpbabBookW4
import Derived.Test.YtmakdilmibjpbabBrokLaws
import Derived.Test.YtmakdilmibjpbabAnn
namespace Go.Proofs.Ytmakdilmibjpbab
open Go Go.RowKit
set_option linter.unusedVariables false
set_option linter.unusedSimpArgs false
set_option maxRecDepth 20000

theorem law_BrokerDoes (M : Amb) (H : List HP) (xs : List BkStep) (sv : Value) (hs : Rd M [] sv 10 (xs.map rBk)) (hx : ∀ x ∈ xs, Rd M [] x.wv 2 (x.wants.map rW)) : FnV Try.prog M H 9 [sv] (.bool true) := by
  refine fn_intro Try.func9 rfl Try.ntmps9 rfl fun F hF => ?_
  refine r_seq ?_
  refine r_region ?_
  refine p_as rfl rfl ?_
  refine o_keep (.c 0 rfl (.c 2 rfl .n)) ?_
  refine r_seq ?_
  refine r_seq ?_
  refine r_region ?_
  refine p_callv cf_14 (.n) rfl (law_brokerBegun _ _) ?_
  refine p_not rfl rfl ?_
  refine o_keep (.c 0 rfl (.c 2 rfl (.c 9 rfl .n))) ?_
  refine r_cond _ rfl (fun h1 => ?_) (fun h1 => ?_)
  · simp at h1
  · skip
    refine r_skip ?_
    refine r_seq ?_
    refine r_seq ?_
    refine r_region ?_
    refine p_mv rfl rfl ?_
    refine p_callv cf_37 (.c rfl .n) rfl ((law_greatB _ xs sv hs hx).q) ?_
    refine o_keep (.c 0 rfl (.c 2 rfl (.c 11 rfl .n))) ?_
    refine r_cond _ rfl (fun h2 => ?_) (fun h2 => ?_)
    · skip
      refine r_seq ?_
      refine r_region ?_
      refine p_as rfl rfl ?_
      refine o_keep (.c 0 rfl (.c 2 rfl .n)) ?_
      refine r_retv hF rfl (.c (.t rfl) .n) ?_ ?_
      · first | exact Ent.rfl | (repeat (first | exact Ent.rfl | refine Ent.c (SelB.ent) ?_ | refine Ent.c (SelS.ent) ?_ | refine Ent.cN ?_ | refine Ent.c (SelX.ent) ?_ | refine Ent.dropR ?_))
      · rfl
    · skip
      have hgr := great_no h2
      refine r_skip ?_
      refine r_seq ?_
      refine r_region ?_
      refine p_calle cf_15 (.n) rfl (broker_New _) fun bk => ?_
      refine o_cat ?_
      refine p_build zr_77 pl_77 (.n) rfl ?_
      refine p_box rfl rfl rfl fun b14 => ?_
      refine p_as rfl rfl ?_
      refine p_as rfl rfl ?_
      refine o_keep (.c 0 rfl (.c 2 rfl (.c 3 rfl (.c 4 rfl .n)))) ?_
      refine r_ent (Ent.tr (show Ent _ (manyP bdealP [] brk0.l :: _) from many_nil) (Ent.tr (Ent.slN (E := 3) (sz := 1)) (Ent.slN (E := 86) (sz := 4)))) ?_
      refine r_ent (bookP_close (b := b14) (T := 77) (rest := []) (s := brk0) (.slice Option.none 0 0) (.slice Option.none 0 0) [] rfl rfl rfl rfl) ?_
      refine r_seq ?_
      refine r_seq ?_
      refine r_region ?_
      refine p_as rfl rfl ?_
      refine o_keep (.c 0 rfl (.c 2 rfl (.c 3 rfl (.c 4 rfl (.c 5 rfl .n))))) ?_
      refine r_block ?_
      refine r_loop_2 (fun (i : Nat) (s : BrokS) => [(5, true, .int .i64 (i : Int))]) (.c 0 rfl (.c 2 rfl (.c 3 rfl (.c 4 rfl .n)))) (fun (i : Nat) (s : BrokS) => brokP bk s :: bookP b14 77 [] s :: H) (fun (i : Nat) (s : BrokS) => i ≤ xs.length ∧ BInv s) (fun (i : Nat) (s : BrokS) => xs.length - i) (0) (brk0) ?_ (.c 5 rfl .n) ?_ (fun i s hI => ?_)
      · exact ⟨Nat.zero_le _, BInv.new⟩
      · first | exact Ent.rfl | (repeat (first | exact Ent.rfl | refine Ent.c (SelB.ent) ?_ | refine Ent.c (SelS.ent) ?_ | refine Ent.cN ?_ | refine Ent.c (SelX.ent) ?_ | refine Ent.dropR ?_))
      · skip
        obtain ⟨hil, hI⟩ := hI
        refine r_seq ?_
        refine r_seq ?_
        refine r_region ?_
        refine p_mv rfl rfl ?_
        refine p_mv rfl rfl ?_
        refine l_op (x_p (pv_lens hs.len ⟨_, Try.underlying72⟩ (.n rfl) rfl rfl rfl rfl (fun _ => rfl)) rfl rfl ?_)
        refine p_lss rfl rfl rfl ?_
        refine o_keep (.c 0 rfl (.c 2 rfl (.c 3 rfl (.c 4 rfl (.c 5 rfl (.c 18 rfl .n)))))) ?_
        refine r_cond _ rfl (fun h3 => ?_) (fun h3 => ?_)
        · skip
          obtain ⟨x, hxi⟩ := getlt (l := xs) (i := i) (by have := of_decide_eq_true h3; omega)
          have hil2 := (List.getElem?_eq_some_iff.1 hxi).1
          have hxm := List.mem_of_getElem? hxi
          have hxr := hx x hxm
          have hxw := hgr.2 x hxm
          obtain ⟨s1, hs1⟩ : ∃ s1, stepBk s x = s1 := ⟨_, rfl⟩
          have hI1 : BInv s1 := hs1 ▸ hI.stp x
          have hor1 := hI1.ord_le
          have hl1 := hI1.len
          have hdu1 := due_le hI1
          refine r_skip ?_
          refine r_seq ?_
          refine r_block ?_
          refine r_seq ?_
          refine r_seq ?_
          refine r_plan (_) ([brokP bk s, bookP b14 77 [] s]) mo (.c 0 rfl (.c 2 rfl (.c 3 rfl (.c 4 rfl (.c 5 rfl .n))))) ((Ent.c SelX.ent (Ent.c SelX.ent Ent.rfl))) ?_
          refine qm_q (i := 0) (l := [.k 3]) rfl rfl rfl rfl (by kernel_rfl) rfl (fun He => PV.rq (pv_mv (.n rfl) rfl rfl (fun _ => rfl))) ?_
          refine qm_q (i := 1) (l := [.k 4]) rfl rfl rfl rfl (by kernel_rfl) rfl (fun He => PV.rq (pv_mv (.n rfl) rfl rfl (fun _ => rfl))) ?_
          refine qm_q (i := 2) (l := [.k 0]) rfl rfl rfl rfl (by kernel_rfl) rfl (fun He => PV.rq (pv_mv (.n rfl) rfl rfl (fun _ => rfl))) ?_
          refine qm_q (i := 3) (l := [.k 5]) rfl rfl rfl rfl (by kernel_rfl) rfl (fun He => PV.rq (pv_mv (.n rfl) rfl rfl (fun _ => rfl))) ?_
          refine qm_q (i := 4) (l := [.o 2, .o 3]) rfl rfl rfl rfl (by kernel_rfl) rfl (fun He => PV.rq (pv_idx Try.underlying72 (.ofA ta_80) hs (fun hg => ⟨rfl, (mapget hxi)⟩) (.n rfl) rfl rfl rfl (fun _ => ⟨rfl, rfl⟩))) ?_
          refine qm_q (i := 5) (l := [.o 4]) rfl rfl rfl rfl (by kernel_rfl) rfl (fun He => RV.rq (rv_ldats (j := 0) ta_80 (Rd.ent hs (by repeat (first | exact Ent.rfl | exact Ent.one Ent.h | exact Ent.one (SelS.ent) | exact Ent.nil | exact Ent.left | refine Ent.dropR ?_ | refine Ent.tr Ent.skip ?_))) (fun hg => (mapget hxi)) (.n rfl) rfl rfl (fun _ => rfl) rfl (.s (.s (.s (.s (.s (.s (.s (.s (.s (.s .z)))))))))))) ?_
          refine qm_callc (i := 6) [.o 0, .o 1, .o 5] (by kernel_rfl) (by kernel_rfl) rfl rfl rfl rfl (by kernel_rfl) (by kernel_rfl) ⟨_, .n rfl, rfl⟩ cf_38 rfl (.c rfl (.c rfl (.c rfl .n))) (law_bstepE _ bk b14 s hI x hs1 hxr (by omega)) ?_
          refine qm_keep ?_
          refine qm_book fun lv ov ts hts => ?_
          refine qm_cat ?_
          refine qm_rd lv fun hrd => ?_
          refine qm_rd ov fun hro => ?_
          refine qm_keep ?_
          refine qm_keep ?_
          refine qm_keep ?_
          refine qm_keep ?_
          refine qm_q (i := 7) (l := [.o 6]) rfl rfl rfl rfl (by kernel_rfl) rfl (fun He => PV.rq (pv_not (.n rfl) rfl rfl (fun _ => rfl))) ?_
          refine qm_q (i := 8) (l := [.o 7]) rfl rfl rfl rfl (by kernel_rfl) rfl (fun He => PV.rq (pv_mv (.n rfl) rfl rfl (fun _ => rfl))) ?_
          refine qm_q (i := 9) (l := [.k 3, .o 8]) rfl rfl rfl rfl (by kernel_rfl) rfl (fun He => PV.rq (pv_ung (.s rfl rfl rfl) rfl (pv_mv (.n rfl) rfl rfl (fun _ => rfl)))) ?_
          refine qm_q (i := 10) (l := [.o 9, .o 8]) rfl rfl rfl rfl (by kernel_rfl) rfl (fun He => rq_ung (.s rfl rfl rfl) rfl (rq_call cf_17 (.n rfl) rfl (.c rfl (fun _ => rfl) .n) (fun hg => (broker_Len _ bk s1 hI1).q))) ?_
          refine qm_q (i := 11) (l := [.k 4, .o 8]) rfl rfl rfl rfl (by kernel_rfl) rfl (fun He => PV.rq (pv_ung (.s rfl rfl rfl) rfl (pv_mv (.n rfl) rfl rfl (fun _ => rfl)))) ?_
          refine qm_q (i := 12) (l := [.o 11, .o 8]) rfl rfl rfl rfl (by kernel_rfl) rfl (fun He => PV.rq (pv_ung (.s rfl rfl rfl) rfl (pv_nilp (.n rfl) rfl rfl (fun _ => rfl)))) ?_
          refine qm_q (i := 13) (l := [.o 12, .o 8]) rfl rfl rfl rfl (by kernel_rfl) rfl (fun He => PV.rq (pv_ung (.s rfl rfl rfl) rfl (pv_fa fa_77_0 (.n rfl) rfl rfl (fun _ => rfl)))) ?_
          refine qm_q (i := 14) (l := [.o 13, .o 8]) rfl rfl rfl rfl (by kernel_rfl) rfl (fun He => RV.rq (rv_ung (.s rfl rfl rfl) rfl (q_ldc tc_75 (.n rfl) rfl rfl (fun _ => rfl) (by rfl)))) ?_
          refine qm_q (i := 15) (l := [.o 14, .o 8]) rfl rfl rfl rfl (by kernel_rfl) rfl (fun He => PV.rq (pv_ung (.s rfl rfl rfl) rfl (pv_lens (Rd.lenz hrd hts) ⟨_, Try.underlying75⟩ (.n rfl) rfl rfl rfl rfl (fun _ => rfl)))) ?_
          refine qm_q (i := 16) (l := [.o 10, .o 15, .o 8]) rfl rfl rfl rfl (by kernel_rfl) rfl (fun He => PV.rq (pv_ung (.s rfl rfl rfl) rfl (pv_to (pv_neq (.n rfl) rfl rfl rfl (fun _ => ⟨rfl, rfl⟩)) (show _ = Value.bool false by simp)))) ?_
          refine qm_q (i := 17) (l := [.o 8, .o 16]) rfl rfl rfl rfl (by kernel_rfl) rfl (fun He => PV.rq (pv_or (.n rfl) rfl rfl rfl (fun _ => ⟨rfl, fun hc => by first | rfl | (rw [hc]; rfl) | simp_all⟩))) ?_
          refine qm_q (i := 18) (l := [.o 17]) rfl rfl rfl rfl (by kernel_rfl) rfl (fun He => PV.rq (pv_mv (.n rfl) rfl rfl (fun _ => rfl))) ?_
          refine qm_q (i := 19) (l := [.k 3, .o 18]) rfl rfl rfl rfl (by kernel_rfl) rfl (fun He => PV.rq (pv_ung (.s rfl rfl rfl) rfl (pv_mv (.n rfl) rfl rfl (fun _ => rfl)))) ?_
          refine qm_q (i := 21) (l := [.k 4, .o 18]) rfl rfl rfl rfl (by kernel_rfl) rfl (fun He => PV.rq (pv_ung (.s rfl rfl rfl) rfl (pv_mv (.n rfl) rfl rfl (fun _ => rfl)))) ?_
          refine qm_q (i := 22) (l := [.o 21, .o 18]) rfl rfl rfl rfl (by kernel_rfl) rfl (fun He => PV.rq (pv_ung (.s rfl rfl rfl) rfl (pv_nilp (.n rfl) rfl rfl (fun _ => rfl)))) ?_
          refine qm_q (i := 23) (l := [.o 22, .o 18]) rfl rfl rfl rfl (by kernel_rfl) rfl (fun He => PV.rq (pv_ung (.s rfl rfl rfl) rfl (pv_fa fa_77_1 (.n rfl) rfl rfl (fun _ => rfl)))) ?_
          refine qm_q (i := 24) (l := [.o 23, .o 18]) rfl rfl rfl rfl (by kernel_rfl) rfl (fun He => RV.rq (rv_ung (.s rfl rfl rfl) rfl (q_ldc tc_23 (.n rfl) rfl rfl (fun _ => rfl) (by rfl)))) ?_
          refine qm_calln (i := 20) [.o 19, .o 18] (by kernel_rfl) (by kernel_rfl) rfl rfl rfl rfl (by kernel_rfl) (by kernel_rfl) ⟨_, .s rfl rfl rfl, rfl⟩ cf_22 rfl (.c rfl .n) (broker_DoneN _ bk s1 hI1 (by omega)) fun o2 => ?_
          refine qm_cat ?_
          refine qm_rd o2 fun hro2 => ?_
          refine qm_keep ?_
          refine qm_q (i := 25) (l := [.o 20, .o 24, .o 18]) rfl rfl rfl rfl (by kernel_rfl) rfl (fun He => rq_ung (.s rfl rfl rfl) rfl (rq_call cf_39 (.n rfl) rfl (.c rfl (fun _ => rfl) (.c rfl (fun _ => rfl) .n)) (fun hg => fnv_tru (ref_SameInts _ _ o2 ov s1.order s1.order hro2.own hro.own (by omega))))) ?_
          refine qm_q (i := 26) (l := [.o 25, .o 18]) rfl rfl rfl rfl (by kernel_rfl) rfl (fun He => PV.rq (pv_ung (.s rfl rfl rfl) rfl (pv_not (.n rfl) rfl rfl (fun _ => rfl)))) ?_
          refine qm_q (i := 27) (l := [.o 18, .o 26]) rfl rfl rfl rfl (by kernel_rfl) rfl (fun He => PV.rq (pv_or (.n rfl) rfl rfl rfl (fun _ => ⟨rfl, fun hc => by first | rfl | (rw [hc]; rfl) | simp_all⟩))) ?_
          refine qm_q (i := 28) (l := [.o 27]) rfl rfl rfl rfl (by kernel_rfl) rfl (fun He => PV.rq (pv_mv (.n rfl) rfl rfl (fun _ => rfl))) ?_
          refine qm_q (i := 29) (l := [.k 3, .o 28]) rfl rfl rfl rfl (by kernel_rfl) rfl (fun He => PV.rq (pv_ung (.s rfl rfl rfl) rfl (pv_mv (.n rfl) rfl rfl (fun _ => rfl)))) ?_
          refine qm_q (i := 31) (l := [.k 4, .o 28]) rfl rfl rfl rfl (by kernel_rfl) rfl (fun He => PV.rq (pv_ung (.s rfl rfl rfl) rfl (pv_mv (.n rfl) rfl rfl (fun _ => rfl)))) ?_
          refine qm_calln (i := 30) [.o 29, .o 28] (by kernel_rfl) (by kernel_rfl) rfl rfl rfl rfl (by kernel_rfl) (by kernel_rfl) ⟨_, .s rfl rfl rfl, rfl⟩ cf_41 rfl (.c rfl .n) (broker_DueN _ bk s1 hI1) fun d1 => ?_
          refine qm_cat ?_
          refine qm_rd d1 fun hrd1 => ?_
          refine qm_keep ?_
          refine qm_calln (i := 32) [.o 31, .o 28] (by kernel_rfl) (by kernel_rfl) rfl rfl rfl rfl (by kernel_rfl) (by kernel_rfl) ⟨_, .s rfl rfl rfl, rfl⟩ cf_42 rfl (.c rfl .n) (book_DueN _ b14 s1 hI1 lv ov ts hts) fun d2 => ?_
          refine qm_cat ?_
          refine qm_rd d2 fun hrd2 => ?_
          refine qm_keep ?_
          refine qm_q (i := 33) (l := [.o 30, .o 32, .o 28]) rfl rfl rfl rfl (by kernel_rfl) rfl (fun He => rq_ung (.s rfl rfl rfl) rfl (rq_call cf_40 (.n rfl) rfl (.c rfl (fun _ => rfl) (.c rfl (fun _ => rfl) .n)) (fun hg => fnv_tru (ref_SameMailB _ _ d1 d2 (dueB s1) (dueB s1) hrd1.own hrd2.own (by omega))))) ?_
          refine qm_q (i := 34) (l := [.o 33, .o 28]) rfl rfl rfl rfl (by kernel_rfl) rfl (fun He => PV.rq (pv_ung (.s rfl rfl rfl) rfl (pv_not (.n rfl) rfl rfl (fun _ => rfl)))) ?_
          refine qm_q (i := 35) (l := [.o 28, .o 34]) rfl rfl rfl rfl (by kernel_rfl) rfl (fun He => PV.rq (pv_or (.n rfl) rfl rfl rfl (fun _ => ⟨rfl, fun hc => by first | rfl | (rw [hc]; rfl) | simp_all⟩))) ?_
          refine qm_n (by kernel_rfl) (by kernel_rfl) (by kernel_rfl) (by kernel_rfl) (.c 0 rfl (.c 2 rfl (.c 3 rfl (.c 4 rfl (.c 5 rfl (.c 56 rfl .n)))))) ?_
          refine r_cond _ rfl (fun h4 => ?_) (fun h4 => ?_)
          · simp at h4
          · skip
            refine r_skip ?_
            refine r_seq ?_
            refine r_region ?_
            refine p_as rfl rfl ?_
            refine o_keep (.c 0 rfl (.c 2 rfl (.c 3 rfl (.c 4 rfl (.c 5 rfl (.c 6 rfl .n)))))) ?_
            refine r_block ?_
            refine r_loop_1 (fun (n : Int) => [(6, true, .int .i64 n)]) (.c 0 rfl (.c 2 rfl (.c 3 rfl (.c 4 rfl (.c 5 rfl .n))))) (fun (n : Int) => brokP bk s1 :: blk b14 [lv, ov] 77 :: sl lv 86 4 (List.zipWith rowD ts s1.l) :: sl ov 3 1 (s1.order.map rI) :: manyP bdealP ts s1.l :: H) (fun (n : Int) => -1 ≤ n ∧ n ≤ (s1.l.length : Int) + 1) (fun (n : Int) => ((s1.l.length : Int) + 1 - n).toNat) (-1) ?_ (.c 6 rfl .n) ?_ (fun n hI => ?_)
            · exact ⟨by omega, by omega⟩
            · first | exact Ent.rfl | (repeat (first | exact Ent.rfl | refine Ent.c (SelB.ent) ?_ | refine Ent.c (SelS.ent) ?_ | refine Ent.cN ?_ | refine Ent.c (SelX.ent) ?_ | refine Ent.dropR ?_))
            · skip
              obtain ⟨hn0, hn1⟩ := hI
              refine r_seq ?_
              refine r_seq ?_
              refine r_region ?_
              refine p_mv rfl rfl ?_
              refine p_mv rfl rfl ?_
              refine p_nil rfl rfl ?_
              refine p_fa fa_77_0 rfl rfl ?_
              refine p_ldc tc_75 rfl (by rfl) rfl ?_
              refine l_op (x_p (pv_lens (Rd.lenz hrd hts) ⟨_, Try.underlying75⟩ (.n rfl) rfl rfl rfl rfl (fun _ => rfl)) rfl rfl ?_)
              refine p_leq rfl rfl rfl ?_
              refine o_keep (.c 0 rfl (.c 2 rfl (.c 3 rfl (.c 4 rfl (.c 5 rfl (.c 6 rfl (.c 63 rfl .n))))))) ?_
              refine r_cond _ rfl (fun h5 => ?_) (fun h5 => ?_)
              · skip
                have hnl : n ≤ (s1.l.length : Int) := of_decide_eq_true h5
                refine r_skip ?_
                refine r_seq ?_
                refine r_block ?_
                refine r_seq ?_
                by_cases hn : 0 ≤ n ∧ n < (s1.l.length : Int)
                · skip
                  obtain ⟨k, hnk⟩ : ∃ k : Nat, n = (k : Int) := ⟨n.toNat, by omega⟩
                  obtain ⟨d, hd⟩ := getlt (l := s1.l) (i := k) (by omega)
                  obtain ⟨t, ht⟩ := getlt (l := ts) (i := k) (by omega)
                  have hwb : wantsB s1 n = d.wants := by rw [hnk]; exact wantsB_at hd
                  refine r_region ?_
                  refine p_as rfl rfl ?_
                  refine o_keep (.c 0 rfl (.c 2 rfl (.c 3 rfl (.c 4 rfl (.c 5 rfl (.c 6 rfl (.c 7 rfl .n))))))) ?_
                  refine r_seq ?_
                  refine r_seq ?_
                  refine r_region ?_
                  refine p_mv rfl rfl ?_
                  refine p_geq rfl rfl rfl ?_
                  refine p_mv rfl rfl ?_
                  refine l_op (x_p (pv_mv (.s rfl rfl rfl) rfl rfl (by first | exact fun _ => rfl | exact id | exact fun h => (Bool.and_eq_true_iff.1 h).1 | simp_all)) rfl rfl ?_)
                  refine l_op (x_p (pv_mv (.s rfl rfl rfl) rfl rfl (by first | exact fun _ => rfl | exact id | exact fun h => (Bool.and_eq_true_iff.1 h).1 | simp_all)) rfl rfl ?_)
                  refine l_op (x_p (pv_nilp (.s rfl rfl rfl) rfl rfl (by first | exact fun _ => rfl | exact id | exact fun h => (Bool.and_eq_true_iff.1 h).1 | simp_all)) rfl rfl ?_)
                  refine l_op (x_p (pv_fa fa_77_0 (.s rfl rfl rfl) rfl rfl (by first | exact fun _ => rfl | exact id | exact fun h => (Bool.and_eq_true_iff.1 h).1 | simp_all)) rfl rfl ?_)
                  refine l_op (x_r (q_ldc tc_75 (.s rfl rfl rfl) rfl rfl (by first | exact fun _ => rfl | exact id | exact fun h => (Bool.and_eq_true_iff.1 h).1 | simp_all) (by rfl)) rfl rfl ?_)
                  refine l_op (x_p (pv_lens (Rd.lenz hrd hts) ⟨_, Try.underlying75⟩ (.s rfl rfl rfl) rfl rfl rfl rfl (by first | exact fun _ => rfl | exact id | exact fun h => (Bool.and_eq_true_iff.1 h).1 | simp_all)) rfl rfl ?_)
                  refine l_op (x_p (pv_lss (.s rfl rfl rfl) rfl rfl rfl (by refine fun h => ⟨?_, ?_⟩ <;> first | rfl | exact h | exact (Bool.and_eq_true_iff.1 h).1 | simp_all)) rfl rfl ?_)
                  refine l_op (x_p (pv_and (.n rfl) rfl rfl rfl (fun _ => ⟨rfl, fun hc => by first | rfl | (rw [hc]; rfl) | simp_all⟩)) rfl rfl ?_)
                  refine o_keep (.c 0 rfl (.c 2 rfl (.c 3 rfl (.c 4 rfl (.c 5 rfl (.c 6 rfl (.c 7 rfl (.c 76 rfl .n)))))))) ?_
                  refine r_cond _ rfl (fun h6 => ?_) (fun h6 => ?_)
                  · skip
                    refine r_region ?_
                    refine p_mv rfl rfl ?_
                    refine p_nil rfl rfl ?_
                    refine p_fa fa_77_0 rfl rfl ?_
                    refine p_ldc tc_75 rfl (by rfl) rfl ?_
                    refine p_mv rfl rfl ?_
                    refine p_idx Try.underlying75 (.ofA ta_86) hrd hnk (zip_get ht hd) rfl rfl rfl ?_
                    refine p_faat fa_86_0 (Rd.sh hrd (zip_get ht hd)) rfl rfl ?_
                    refine p_ldat 0 tc_22 (Rd.ent hrd (by repeat (first | exact Ent.rfl | exact Ent.one Ent.h | exact Ent.one (SelS.ent) | exact Ent.nil | exact Ent.left | refine Ent.dropR ?_ | refine Ent.tr Ent.skip ?_))) (zip_get ht hd) rfl rfl rfl rfl ?_
                    refine p_as rfl rfl ?_
                    refine o_keep (.c 0 rfl (.c 2 rfl (.c 3 rfl (.c 4 rfl (.c 5 rfl (.c 6 rfl (.c 7 rfl .n))))))) ?_
                    refine r_seq ?_
                    refine r_region ?_
                    refine p_mv rfl rfl ?_
                    refine p_mv rfl rfl ?_
                    refine p_callv cf_21 (.c rfl (.c rfl .n)) rfl ((broker_State _ bk s1 hI1 n).q) ?_
                    refine p_mv rfl rfl ?_
                    refine p_mv rfl rfl ?_
                    refine p_callv cf_43 (.c rfl (.c rfl .n)) rfl ((book_State_o _ b14 s1 hI1 lv ov ts hts n).q) ?_
                    refine o_bdeal k ht hd fun hy => ?_
                    refine o_cat ?_
                    refine o_rd t.wv fun hrw => ?_
                    refine p_neq rfl rfl rfl ?_
                    refine p_mv rfl rfl ?_
                    refine o_split (t := 92) rfl (fun g7 => ?_) (fun g7 => ?_)
                    · simp at g7
                    · skip
                      refine o_g (.s rfl rfl rfl) rfl ?_
                      refine p_mv rfl rfl ?_
                      refine o_g (.s rfl rfl rfl) rfl ?_
                      refine p_mv rfl rfl ?_
                      refine o_g (.s rfl rfl rfl) rfl ?_
                      refine p_calle cf_45 (.c rfl (.c rfl .n)) rfl (broker_Wants _ bk s1 hI1 n (wants_bb hI1)) fun z => ?_
                      refine o_cat ?_
                      refine o_rd z fun hz => ?_
                      refine o_g (.s rfl rfl rfl) rfl ?_
                      refine p_mv rfl rfl ?_
                      refine o_g (.s rfl rfl rfl) rfl ?_
                      refine p_callv cf_44 (.c rfl (.c rfl .n)) rfl (ref_SameWants _ _ z t.wv (wantsB s1 n) d.wants hz.own hrw.own (by have := wantsB_leB hI1 n; omega)) ?_
                      refine o_g (.s rfl rfl rfl) rfl ?_
                      refine p_not rfl rfl ?_
                      refine l_op (x_p (pv_or (.n rfl) rfl rfl rfl (fun _ => ⟨rfl, fun hc => by first | rfl | (rw [hc]; rfl) | simp_all⟩)) rfl rfl ?_)
                      refine o_keep (.c 0 rfl (.c 2 rfl (.c 3 rfl (.c 4 rfl (.c 5 rfl (.c 6 rfl (.c 99 rfl .n))))))) ?_
                      refine r_cond _ rfl (fun h8 => ?_) (fun h8 => ?_)
                      · exfalso; simp [hwb] at h8
                      · skip
                        refine r_skip ?_
                        refine r_end ?_
                        refine r_region ?_
                        refine p_mv rfl rfl ?_
                        refine p_add rfl rfl (by omega) rfl ?_
                        refine p_as rfl rfl ?_
                        refine o_keep (.c 0 rfl (.c 2 rfl (.c 3 rfl (.c 4 rfl (.c 5 rfl (.c 6 rfl .n)))))) ?_
                        refine r_back_1 (n + 1) ?_ ?_ (Keep.app (.c 6 rfl .n) (.c 0 rfl (.c 2 rfl (.c 3 rfl (.c 4 rfl (.c 5 rfl .n)))))) ?_
                        · exact ⟨by omega, by omega⟩
                        · omega
                        · refine Ent.c (SelX.ent) ?_; refine Ent.tr (bdealP_close (d := d) t hy rfl rfl rfl) ?_; refine Ent.tr (Ent.mono (SelX.ent (X := restP bdealP ts s1.l k))) ?_; refine Ent.tr (many_back ht hd) ?_; first | exact Ent.rfl | (repeat (first | exact Ent.rfl | refine Ent.c (SelB.ent) ?_ | refine Ent.c (SelS.ent) ?_ | refine Ent.cN ?_ | refine Ent.c (SelX.ent) ?_ | refine Ent.dropR ?_))
                  · exfalso; simp at h6; omega
                · skip
                  have hwb : wantsB s1 n = [] := wantsB_out (by omega)
                  refine r_region ?_
                  refine p_as rfl rfl ?_
                  refine o_keep (.c 0 rfl (.c 2 rfl (.c 3 rfl (.c 4 rfl (.c 5 rfl (.c 6 rfl (.c 7 rfl .n))))))) ?_
                  refine r_seq ?_
                  refine r_seq ?_
                  refine r_region ?_
                  refine p_mv rfl rfl ?_
                  refine p_geq rfl rfl rfl ?_
                  refine p_mv rfl rfl ?_
                  refine l_op (x_p (pv_mv (.s rfl rfl rfl) rfl rfl (by first | exact fun _ => rfl | exact id | exact fun h => (Bool.and_eq_true_iff.1 h).1 | simp_all)) rfl rfl ?_)
                  refine l_op (x_p (pv_mv (.s rfl rfl rfl) rfl rfl (by first | exact fun _ => rfl | exact id | exact fun h => (Bool.and_eq_true_iff.1 h).1 | simp_all)) rfl rfl ?_)
                  refine l_op (x_p (pv_nilp (.s rfl rfl rfl) rfl rfl (by first | exact fun _ => rfl | exact id | exact fun h => (Bool.and_eq_true_iff.1 h).1 | simp_all)) rfl rfl ?_)
                  refine l_op (x_p (pv_fa fa_77_0 (.s rfl rfl rfl) rfl rfl (by first | exact fun _ => rfl | exact id | exact fun h => (Bool.and_eq_true_iff.1 h).1 | simp_all)) rfl rfl ?_)
                  refine l_op (x_r (q_ldc tc_75 (.s rfl rfl rfl) rfl rfl (by first | exact fun _ => rfl | exact id | exact fun h => (Bool.and_eq_true_iff.1 h).1 | simp_all) (by rfl)) rfl rfl ?_)
                  refine l_op (x_p (pv_lens (Rd.lenz hrd hts) ⟨_, Try.underlying75⟩ (.s rfl rfl rfl) rfl rfl rfl rfl (by first | exact fun _ => rfl | exact id | exact fun h => (Bool.and_eq_true_iff.1 h).1 | simp_all)) rfl rfl ?_)
                  refine l_op (x_p (pv_lss (.s rfl rfl rfl) rfl rfl rfl (by refine fun h => ⟨?_, ?_⟩ <;> first | rfl | exact h | exact (Bool.and_eq_true_iff.1 h).1 | simp_all)) rfl rfl ?_)
                  refine l_op (x_p (pv_and (.n rfl) rfl rfl rfl (fun _ => ⟨rfl, fun hc => by first | rfl | (rw [hc]; rfl) | simp_all⟩)) rfl rfl ?_)
                  refine o_keep (.c 0 rfl (.c 2 rfl (.c 3 rfl (.c 4 rfl (.c 5 rfl (.c 6 rfl (.c 7 rfl (.c 76 rfl .n)))))))) ?_
                  refine r_cond _ rfl (fun h9 => ?_) (fun h9 => ?_)
                  · exfalso; simp at h9; omega
                  · skip
                    refine r_skip ?_
                    refine r_seq ?_
                    refine r_region ?_
                    refine p_mv rfl rfl ?_
                    refine p_mv rfl rfl ?_
                    refine p_callv cf_21 (.c rfl (.c rfl .n)) rfl ((broker_State _ bk s1 hI1 n).q) ?_
                    refine p_mv rfl rfl ?_
                    refine p_mv rfl rfl ?_
                    refine p_callv cf_43 (.c rfl (.c rfl .n)) rfl ((book_State_o _ b14 s1 hI1 lv ov ts hts n).q) ?_
                    refine p_neq rfl rfl rfl ?_
                    refine p_mv rfl rfl ?_
                    refine o_split (t := 92) rfl (fun g10 => ?_) (fun g10 => ?_)
                    · simp at g10
                    · skip
                      refine o_g (.s rfl rfl rfl) rfl ?_
                      refine p_mv rfl rfl ?_
                      refine o_g (.s rfl rfl rfl) rfl ?_
                      refine p_mv rfl rfl ?_
                      refine o_g (.s rfl rfl rfl) rfl ?_
                      refine p_calle cf_45 (.c rfl (.c rfl .n)) rfl (broker_Wants _ bk s1 hI1 n (wants_bb hI1)) fun z => ?_
                      refine o_cat ?_
                      refine o_rd z fun hz => ?_
                      refine o_g (.s rfl rfl rfl) rfl ?_
                      refine p_mv rfl rfl ?_
                      refine o_g (.s rfl rfl rfl) rfl ?_
                      refine p_callv cf_44 (.c rfl (.c rfl .n)) rfl (ref_SameWants _ _ z (.slice Option.none 0 0) (wantsB s1 n) [] hz.own rd_nil (by have := wantsB_leB hI1 n; omega)) ?_
                      refine o_g (.s rfl rfl rfl) rfl ?_
                      refine p_not rfl rfl ?_
                      refine l_op (x_p (pv_or (.n rfl) rfl rfl rfl (fun _ => ⟨rfl, fun hc => by first | rfl | (rw [hc]; rfl) | simp_all⟩)) rfl rfl ?_)
                      refine o_keep (.c 0 rfl (.c 2 rfl (.c 3 rfl (.c 4 rfl (.c 5 rfl (.c 6 rfl (.c 99 rfl .n))))))) ?_
                      refine r_cond _ rfl (fun h11 => ?_) (fun h11 => ?_)
                      · exfalso; simp [hwb] at h11
                      · skip
                        refine r_skip ?_
                        refine r_end ?_
                        refine r_region ?_
                        refine p_mv rfl rfl ?_
                        refine p_add rfl rfl (by omega) rfl ?_
                        refine p_as rfl rfl ?_
                        refine o_keep (.c 0 rfl (.c 2 rfl (.c 3 rfl (.c 4 rfl (.c 5 rfl (.c 6 rfl .n)))))) ?_
                        refine r_back_1 (n + 1) ?_ ?_ (Keep.app (.c 6 rfl .n) (.c 0 rfl (.c 2 rfl (.c 3 rfl (.c 4 rfl (.c 5 rfl .n)))))) ?_
                        · exact ⟨by omega, by omega⟩
                        · omega
                        · first | exact Ent.rfl | (repeat (first | exact Ent.rfl | refine Ent.c (SelB.ent) ?_ | refine Ent.c (SelS.ent) ?_ | refine Ent.cN ?_ | refine Ent.c (SelX.ent) ?_ | refine Ent.dropR ?_))
              · skip
                refine r_ent (bookP_close (b := b14) (s := s1) lv ov ts hts rfl rfl rfl) ?_
                refine r_exit rfl ?_
                refine r_end ?_
                refine r_region ?_
                refine p_mv rfl rfl ?_
                refine p_add rfl rfl (by omega) rfl ?_
                refine p_as rfl rfl ?_
                refine o_keep (.c 0 rfl (.c 2 rfl (.c 3 rfl (.c 4 rfl (.c 5 rfl .n))))) ?_
                refine r_back_2 (i + 1) (s1) ?_ ?_ (Keep.app (.c 5 rfl .n) (.c 0 rfl (.c 2 rfl (.c 3 rfl (.c 4 rfl .n))))) ?_
                · exact ⟨by omega, hI1⟩
                · omega
                · first | exact Ent.rfl | (repeat (first | exact Ent.rfl | refine Ent.c (SelB.ent) ?_ | refine Ent.c (SelS.ent) ?_ | refine Ent.cN ?_ | refine Ent.c (SelX.ent) ?_ | refine Ent.dropR ?_))
        · skip
          refine r_exit rfl ?_
          refine r_seq ?_
          refine r_region ?_
          refine p_as rfl rfl ?_
          refine o_keep (.c 2 rfl .n) ?_
          refine r_retv hF rfl (.c (.t rfl) .n) ?_ ?_
          · first | exact Ent.rfl | (repeat (first | exact Ent.rfl | refine Ent.c (SelB.ent) ?_ | refine Ent.c (SelS.ent) ?_ | refine Ent.cN ?_ | refine Ent.c (SelX.ent) ?_ | refine Ent.dropR ?_))
          · rfl

end Go.Proofs.Ytmakdilmibjpbab
