/- The walks of BrokYes: written by a program of ours (gen.py) over the engine. -/
import Derived.Test.YtmakdilmibjpbabPlain
import Derived.Test.YtmakdilmibjpbabFacts
import Derived.Test.YtmakdilmibjpbabBrokLaws
namespace Go.Proofs.Ytmakdilmibjpbab
open Go Go.RowKit
set_option linter.unusedVariables false
set_option linter.unusedSimpArgs false
set_option maxRecDepth 20000

theorem law_BrokerYes (M : Amb) (H : List HP) (wv : Value) (ws : List Want) (hw : Rd M [] wv 2 (ws.map rW)) (sv : Value) (ss : List Int) (hss : Rd M [] sv 1 (ss.map rI)) (yv : Value) (ys : List Bool) (hys : Rd M [] yv 1 (ys.map rB)) : FnV Try.prog M H 3 [wv, sv, yv] (.bool true) := by
  refine fn_intro Try.func3 rfl Try.ntmps3 rfl fun F hF => ?_
  refine r_seq ?_
  refine r_region ?_
  refine p_as rfl rfl ?_
  refine o_keep (.c 0 rfl (.c 1 rfl (.c 2 rfl (.c 6 rfl .n)))) ?_
  refine r_seq ?_
  refine r_seq ?_
  refine r_region ?_
  refine p_callv cf_14 (.n) rfl (law_brokerBegun _ _) ?_
  refine p_not rfl rfl ?_
  refine o_keep (.c 0 rfl (.c 1 rfl (.c 2 rfl (.c 6 rfl (.c 15 rfl .n))))) ?_
  refine r_cond _ rfl (fun h1 => ?_) (fun h1 => ?_)
  · simp at h1
  · skip
    refine r_skip ?_
    refine r_seq ?_
    refine r_seq ?_
    refine r_region ?_
    refine p_mv rfl rfl ?_
    refine l_op (x_p (pv_lens hw.len ⟨_, Try.underlying22⟩ (.n rfl) rfl rfl rfl rfl (fun _ => rfl)) rfl rfl ?_)
    refine p_gtr rfl rfl rfl ?_
    refine p_mv rfl rfl ?_
    refine l_op (x_p (pv_mv (.s rfl rfl rfl) rfl rfl (by first | exact fun _ => rfl | exact id | exact fun h => (Bool.and_eq_true_iff.1 h).1 | simp_all)) rfl rfl ?_)
    refine l_op (x_p (pv_lens hss.len ⟨_, Try.underlying23⟩ (.s rfl rfl rfl) rfl rfl rfl rfl (by first | exact fun _ => rfl | exact id | exact fun h => (Bool.and_eq_true_iff.1 h).1 | simp_all)) rfl rfl ?_)
    refine l_op (x_p (pv_gtr (.s rfl rfl rfl) rfl rfl rfl (by refine fun h => ⟨?_, ?_⟩ <;> first | rfl | exact h | exact (Bool.and_eq_true_iff.1 h).1 | simp_all)) rfl rfl ?_)
    refine l_op (x_p (pv_or (.n rfl) rfl rfl rfl (fun _ => ⟨rfl, fun hc => by first | rfl | (rw [hc]; rfl) | simp_all⟩)) rfl rfl ?_)
    refine p_mv rfl rfl ?_
    refine l_op (x_p (pv_mv (.s rfl rfl rfl) rfl rfl (by first | exact fun _ => rfl | exact id | exact fun h => (Bool.and_eq_true_iff.1 h).1 | simp_all)) rfl rfl ?_)
    refine l_op (x_p (pv_lens hys.len ⟨_, Try.underlying24⟩ (.s rfl rfl rfl) rfl rfl rfl rfl (by first | exact fun _ => rfl | exact id | exact fun h => (Bool.and_eq_true_iff.1 h).1 | simp_all)) rfl rfl ?_)
    refine l_op (x_p (pv_gtr (.s rfl rfl rfl) rfl rfl rfl (by refine fun h => ⟨?_, ?_⟩ <;> first | rfl | exact h | exact (Bool.and_eq_true_iff.1 h).1 | simp_all)) rfl rfl ?_)
    refine l_op (x_p (pv_or (.n rfl) rfl rfl rfl (fun _ => ⟨rfl, fun hc => by first | rfl | (rw [hc]; rfl) | simp_all⟩)) rfl rfl ?_)
    refine o_keep (.c 0 rfl (.c 1 rfl (.c 2 rfl (.c 6 rfl (.c 28 rfl .n))))) ?_
    refine r_cond _ rfl (fun h2 => ?_) (fun h2 => ?_)
    · skip
      refine r_seq ?_
      refine r_region ?_
      refine p_as rfl rfl ?_
      refine o_keep (.c 0 rfl (.c 1 rfl (.c 2 rfl (.c 6 rfl .n)))) ?_
      refine r_retv hF rfl (.c (.t rfl) .n) ?_ ?_
      · first | exact Ent.rfl | (repeat (first | exact Ent.rfl | refine Ent.c (SelB.ent) ?_ | refine Ent.c (SelS.ent) ?_ | refine Ent.cN ?_ | refine Ent.c (SelX.ent) ?_ | refine Ent.dropR ?_))
      · rfl
    · skip
      have hL : ws.length ≤ 50 ∧ ss.length ≤ 100 ∧ ys.length ≤ 100 := by simp at h2; omega
      refine r_skip ?_
      refine r_seq ?_
      refine r_region ?_
      refine p_calle cf_15 (.n) rfl (broker_New _) fun b29 => ?_
      refine o_cat ?_
      refine p_as rfl rfl ?_
      refine o_keep (.c 0 rfl (.c 1 rfl (.c 2 rfl (.c 6 rfl (.c 7 rfl .n))))) ?_
      refine r_seq ?_
      refine r_sel (brokP b29 brk0) ?_
      refine r_region ?_
      refine p_mv rfl rfl ?_
      refine p_mv rfl rfl ?_
      refine p_call cf_16 (.c rfl (.c rfl .n)) rfl (broker_Begin _ b29 brk0 BInv.new H wv ws hw.all (by omega)) ?_
      rintro _ _ ⟨rfl, rfl⟩
      refine p_mv rfl rfl ?_
      refine p_ext rfl rfl rfl ?_
      refine p_ext rfl rfl rfl ?_
      refine p_as rfl rfl ?_
      refine p_as rfl rfl ?_
      refine o_keep (.c 0 rfl (.c 1 rfl (.c 2 rfl (.c 6 rfl (.c 7 rfl (.c 8 rfl (.c 9 rfl .n))))))) ?_
      refine r_seq ?_
      refine r_seq ?_
      refine r_ent (show Ent _ (brokP b29 (beginB brk0 ws).1 :: H) from Ent.rfl) ?_
      refine r_region ?_
      refine p_mv rfl rfl ?_
      refine p_neq rfl rfl rfl ?_
      refine o_keep (.c 0 rfl (.c 1 rfl (.c 2 rfl (.c 6 rfl (.c 7 rfl (.c 8 rfl (.c 37 rfl .n))))))) ?_
      refine r_cond _ rfl (fun h3 => ?_) (fun h3 => ?_)
      · skip
        have hc : (checkL ws).code ≠ 0 := by intro e; obtain ⟨_, e2⟩ := YInv.begun e; have e3 : (beginB brk0 ws).2 = (0, 0) := e2; rw [e3] at h3; simp at h3
        have hb0 : (beginB brk0 ws).1 = brk0 := by unfold beginB; rw [if_pos hc]
        refine r_seq ?_
        refine r_region ?_
        refine p_mv rfl rfl ?_
        refine p_callv cf_17 (.c rfl .n) rfl ((broker_Len _ b29 (beginB brk0 ws).1 (BInv.new.begin _)).q) ?_
        refine p_eql rfl rfl rfl ?_
        refine p_as rfl rfl ?_
        refine o_keep (.c 0 rfl (.c 1 rfl (.c 2 rfl (.c 6 rfl (.c 7 rfl (.c 8 rfl .n)))))) ?_
        refine r_retv hF rfl (.c (.t rfl) .n) ?_ ?_
        · first | exact Ent.rfl | (repeat (first | exact Ent.rfl | refine Ent.c (SelB.ent) ?_ | refine Ent.c (SelS.ent) ?_ | refine Ent.cN ?_ | refine Ent.c (SelX.ent) ?_ | refine Ent.dropR ?_))
        · exact bool_eq (by rw [hb0]; rfl)
      · skip
        have hc : (checkL ws).code = 0 := by refine Classical.byContradiction fun hc => ?_; have e : (beginB brk0 ws).2.2 = (checkL ws).code := (by unfold beginB; rw [if_pos hc]); rw [e] at h3; simp at h3; exact hc h3
        obtain ⟨hY0, hz⟩ := YInv.begun hc
        have hz1 : (beginB brk0 ws).2.1 = 0 := by rw [show beginB brk0 ws = beginB ⟨[], []⟩ ws from rfl, hz]
        rw [hz1]
        have hwl := (checkL_ok ws).1 hc
        have hnd := hwl.2.2.2
        refine r_skip ?_
        refine r_seq ?_
        refine r_region ?_
        refine p_as rfl rfl ?_
        refine o_keep (.c 0 rfl (.c 1 rfl (.c 2 rfl (.c 6 rfl (.c 7 rfl (.c 8 rfl (.c 10 rfl .n))))))) ?_
        refine r_seq ?_
        refine r_region ?_
        refine p_as rfl rfl ?_
        refine o_keep (.c 0 rfl (.c 1 rfl (.c 2 rfl (.c 6 rfl (.c 7 rfl (.c 8 rfl (.c 10 rfl (.c 11 rfl .n)))))))) ?_
        refine r_seq ?_
        refine r_seq ?_
        refine r_region ?_
        refine p_as rfl rfl ?_
        refine o_keep (.c 0 rfl (.c 1 rfl (.c 2 rfl (.c 6 rfl (.c 7 rfl (.c 8 rfl (.c 10 rfl (.c 11 rfl (.c 12 rfl .n))))))))) ?_
        refine r_block ?_
        refine r_loop_5 (fun (i : Nat) (s : BrokS) (st : Int) (hv : Value) (hs : List Int) => [(12, true, .int .i64 (i : Int)), (10, true, .int .i64 st), (11, true, hv)]) (.c 0 rfl (.c 1 rfl (.c 2 rfl (.c 6 rfl (.c 7 rfl (.c 8 rfl .n)))))) (fun (i : Nat) (s : BrokS) (st : Int) (hv : Value) (hs : List Int) => sl hv 3 1 (hs.map rI) :: brokP b29 s :: H) (fun (i : Nat) (s : BrokS) (st : Int) (hv : Value) (hs : List Int) => i ≤ ss.length ∧ hs.length ≤ i ∧ BInv s ∧ YInv ws s st hs) (fun (i : Nat) (s : BrokS) (st : Int) (hv : Value) (hs : List Int) => ss.length - i) (0) ((beginB brk0 ws).1) (0) (.slice Option.none 0 0) ([]) ?_ (.c 12 rfl (.c 10 rfl (.c 11 rfl .n))) ?_ (fun i s st hv hs hI => ?_)
        · exact ⟨Nat.zero_le _, Nat.le_refl _, BInv.new.begin _, hY0⟩
        · first | exact Ent.rfl | (repeat (first | exact Ent.rfl | refine Ent.c (SelB.ent) ?_ | refine Ent.c (SelS.ent) ?_ | refine Ent.cN ?_ | refine Ent.c (SelX.ent) ?_ | refine Ent.dropR ?_))
        · skip
          obtain ⟨hi, hhl, hB, hY⟩ := hI
          refine r_seq ?_
          refine r_seq ?_
          refine r_region ?_
          refine p_mv rfl rfl ?_
          refine p_mv rfl rfl ?_
          refine l_op (x_p (pv_lens hss.len ⟨_, Try.underlying23⟩ (.n rfl) rfl rfl rfl rfl (fun _ => rfl)) rfl rfl ?_)
          refine p_lss rfl rfl rfl ?_
          refine p_mv rfl rfl ?_
          refine l_op (x_p (pv_mv (.s rfl rfl rfl) rfl rfl (by first | exact fun _ => rfl | exact id | exact fun h => (Bool.and_eq_true_iff.1 h).1 | simp_all)) rfl rfl ?_)
          refine l_op (x_p (pv_mv (.s rfl rfl rfl) rfl rfl (by first | exact fun _ => rfl | exact id | exact fun h => (Bool.and_eq_true_iff.1 h).1 | simp_all)) rfl rfl ?_)
          refine l_op (x_p (pv_lens hys.len ⟨_, Try.underlying24⟩ (.s rfl rfl rfl) rfl rfl rfl rfl (by first | exact fun _ => rfl | exact id | exact fun h => (Bool.and_eq_true_iff.1 h).1 | simp_all)) rfl rfl ?_)
          refine l_op (x_p (pv_lss (.s rfl rfl rfl) rfl rfl rfl (by refine fun h => ⟨?_, ?_⟩ <;> first | rfl | exact h | exact (Bool.and_eq_true_iff.1 h).1 | simp_all)) rfl rfl ?_)
          refine l_op (x_p (pv_and (.n rfl) rfl rfl rfl (fun _ => ⟨rfl, fun hc => by first | rfl | (rw [hc]; rfl) | simp_all⟩)) rfl rfl ?_)
          refine o_keep (.c 0 rfl (.c 1 rfl (.c 2 rfl (.c 6 rfl (.c 7 rfl (.c 8 rfl (.c 10 rfl (.c 11 rfl (.c 12 rfl (.c 50 rfl .n)))))))))) ?_
          refine r_cond _ rfl (fun h4 => ?_) (fun h4 => ?_)
          · skip
            have hil : i < ss.length ∧ i < ys.length := by simp at h4; omega
            obtain ⟨n, hn⟩ := getlt (l := ss) (i := i) (by omega)
            obtain ⟨y, hy⟩ := getlt (l := ys) (i := i) (by omega)
            refine r_skip ?_
            refine r_seq ?_
            refine r_block ?_
            refine r_seq ?_
            refine r_region ?_
            refine p_mv rfl rfl ?_
            refine p_mv rfl rfl ?_
            refine p_idx Try.underlying23 (.ofC tc_3) hss rfl (mapget hn) rfl rfl rfl ?_
            refine p_ldat 0 tc_3 (Rd.ent hss (by repeat (first | exact Ent.rfl | exact Ent.one Ent.h | exact Ent.one (SelS.ent) | exact Ent.nil | exact Ent.left | refine Ent.dropR ?_ | refine Ent.tr Ent.skip ?_))) (mapget hn) rfl rfl rfl rfl ?_
            refine l_op (x_p (pv_conv Try.underlying3 Try.underlying31 (.n rfl) rfl rfl (fun _ => rfl)) rfl rfl ?_)
            refine p_mv rfl rfl ?_
            refine l_op (x_p (pv_lens hw.len ⟨_, Try.underlying22⟩ (.n rfl) rfl rfl rfl rfl (fun _ => rfl)) rfl rfl ?_)
            refine l_op (x_p (pv_conv Try.underlying3 Try.underlying31 (.n rfl) rfl rfl (fun _ => rfl)) rfl rfl ?_)
            refine l_op (x_p (pv_rem (fun _ => by first | omega | exact u64_ne (by omega) (by omega)) (.n rfl) rfl rfl rfl (fun _ => ⟨rfl, rfl⟩)) rfl rfl ?_)
            refine l_op (x_p (pv_conv Try.underlying31 Try.underlying3 (.n rfl) rfl rfl (fun _ => rfl)) rfl rfl ?_)
            refine p_as rfl rfl ?_
            refine o_keep (.c 0 rfl (.c 1 rfl (.c 2 rfl (.c 6 rfl (.c 7 rfl (.c 8 rfl (.c 10 rfl (.c 11 rfl (.c 12 rfl (.c 13 rfl .n)))))))))) ?_
            rw [rnd_eq (by omega) (by omega)]
            have hkl := rnd_lt (n := n) (L := ws.length) (by omega)
            generalize rnd n ws.length = k at hkl ⊢
            obtain ⟨w, hwk⟩ := getlt hkl
            refine r_seq ?_
            refine r_plan (_) ([brokP b29 s]) mo (.c 0 rfl (.c 1 rfl (.c 2 rfl (.c 6 rfl (.c 7 rfl (.c 8 rfl (.c 10 rfl (.c 11 rfl (.c 12 rfl (.c 13 rfl .n)))))))))) (SelX.ent) ?_
            refine qm_q (i := 0) (l := [.k 7]) rfl rfl rfl rfl (by kernel_rfl) rfl (fun He => PV.rq (pv_mv (.n rfl) rfl rfl (fun _ => rfl))) ?_
            refine qm_q (i := 1) (l := [.k 8]) rfl rfl rfl rfl (by kernel_rfl) rfl (fun He => PV.rq (pv_mv (.n rfl) rfl rfl (fun _ => rfl))) ?_
            refine qm_q (i := 2) (l := [.k 0]) rfl rfl rfl rfl (by kernel_rfl) rfl (fun He => PV.rq (pv_mv (.n rfl) rfl rfl (fun _ => rfl))) ?_
            refine qm_q (i := 3) (l := [.k 13]) rfl rfl rfl rfl (by kernel_rfl) rfl (fun He => PV.rq (pv_mv (.n rfl) rfl rfl (fun _ => rfl))) ?_
            refine qm_q (i := 4) (l := [.o 2, .o 3]) rfl rfl rfl rfl (by kernel_rfl) rfl (fun He => PV.rq (pv_idx Try.underlying22 (.ofA ta_35) hw (fun hg => ⟨rfl, (mapget hwk)⟩) (.n rfl) rfl rfl rfl (fun _ => ⟨rfl, rfl⟩))) ?_
            refine qm_q (i := 5) (l := [.o 4]) rfl rfl rfl rfl (by kernel_rfl) rfl (fun He => PV.rq (pv_faat fa_35_0 (fun hg => Rd.sh hw (mapget hwk)) (.n rfl) rfl rfl (fun _ => rfl))) ?_
            refine qm_q (i := 6) (l := [.o 5]) rfl rfl rfl rfl (by kernel_rfl) rfl (fun He => RV.rq (rv_ldat (j := 0) tc_3 (Rd.ent hw (by repeat (first | exact Ent.rfl | exact Ent.one Ent.h | exact Ent.one (SelS.ent) | exact Ent.nil | exact Ent.left | refine Ent.dropR ?_ | refine Ent.tr Ent.skip ?_))) (fun hg => (mapget hwk)) (.n rfl) rfl rfl (fun _ => rfl) rfl (fun _ => rfl))) ?_
            refine qm_q (i := 7) (l := [.o 6]) rfl rfl rfl rfl (by kernel_rfl) rfl (fun He => rq_call cf_19 (.n rfl) rfl (.c rfl (fun _ => rfl) .n) (fun hg => plan_Shop _ _ _)) ?_
            refine qm_q (i := 8) (l := [.k 0]) rfl rfl rfl rfl (by kernel_rfl) rfl (fun He => PV.rq (pv_mv (.n rfl) rfl rfl (fun _ => rfl))) ?_
            refine qm_q (i := 9) (l := [.k 13]) rfl rfl rfl rfl (by kernel_rfl) rfl (fun He => PV.rq (pv_mv (.n rfl) rfl rfl (fun _ => rfl))) ?_
            refine qm_q (i := 10) (l := [.o 8, .o 9]) rfl rfl rfl rfl (by kernel_rfl) rfl (fun He => PV.rq (pv_idx Try.underlying22 (.ofA ta_35) hw (fun hg => ⟨rfl, (mapget hwk)⟩) (.n rfl) rfl rfl rfl (fun _ => ⟨rfl, rfl⟩))) ?_
            refine qm_q (i := 11) (l := [.o 10]) rfl rfl rfl rfl (by kernel_rfl) rfl (fun He => RV.rq (rv_ldats (j := 0) ta_35 (Rd.ent hw (by repeat (first | exact Ent.rfl | exact Ent.one Ent.h | exact Ent.one (SelS.ent) | exact Ent.nil | exact Ent.left | refine Ent.dropR ?_ | refine Ent.tr Ent.skip ?_))) (fun hg => (mapget hwk)) (.n rfl) rfl rfl (fun _ => rfl) rfl (.s (.s .z)))) ?_
            refine qm_q (i := 12) (l := [.k 2]) rfl rfl rfl rfl (by kernel_rfl) rfl (fun He => PV.rq (pv_mv (.n rfl) rfl rfl (fun _ => rfl))) ?_
            refine qm_q (i := 13) (l := [.k 12]) rfl rfl rfl rfl (by kernel_rfl) rfl (fun He => PV.rq (pv_mv (.n rfl) rfl rfl (fun _ => rfl))) ?_
            refine qm_q (i := 14) (l := [.o 12, .o 13]) rfl rfl rfl rfl (by kernel_rfl) rfl (fun He => PV.rq (pv_idx Try.underlying24 (.ofC tc_4) hys (fun hg => ⟨rfl, (mapget hy)⟩) (.n rfl) rfl rfl rfl (fun _ => ⟨rfl, rfl⟩))) ?_
            refine qm_q (i := 15) (l := [.o 14]) rfl rfl rfl rfl (by kernel_rfl) rfl (fun He => RV.rq (rv_ldat (j := 0) tc_4 (Rd.ent hys (by repeat (first | exact Ent.rfl | exact Ent.one Ent.h | exact Ent.one (SelS.ent) | exact Ent.nil | exact Ent.left | refine Ent.dropR ?_ | refine Ent.tr Ent.skip ?_))) (fun hg => (mapget hy)) (.n rfl) rfl rfl (fun _ => rfl) rfl (fun _ => rfl))) ?_
            refine qm_q (i := 16) (l := [.o 1, .o 7, .o 11, .o 15]) rfl rfl rfl rfl (by kernel_rfl) rfl (fun He => PV.rq (pv_build zr_37 pl_37 (.n rfl) rfl (.c rfl (fun _ => rfl) rfl rfl rfl (by repeat constructor) (.c rfl (fun _ => rfl) rfl rfl rfl (by repeat constructor) (.c rfl (fun _ => rfl) rfl rfl rfl (by repeat constructor) (.c rfl (fun _ => rfl) rfl rfl rfl (by repeat constructor) (.c rfl (fun _ => rfl) rfl rfl rfl (by repeat constructor) .n))))))) ?_
            refine qb_callc (i := 17) [.o 0, .o 16] (by kernel_rfl) (by kernel_rfl) rfl rfl rfl rfl (by kernel_rfl) (by kernel_rfl) (by kernel_rfl) ⟨_, .n rfl, rfl⟩ cf_18 rfl (.c rfl (.c rfl .n)) (broker_Hear _ b29 s hB ⟨2, 0, shopOf w.ctr, w.ctr, w.dl, y⟩) ?_
            refine qm_n (by kernel_rfl) (by kernel_rfl) (by kernel_rfl) (by kernel_rfl) (.c 0 rfl (.c 1 rfl (.c 2 rfl (.c 6 rfl (.c 7 rfl (.c 8 rfl (.c 10 rfl (.c 11 rfl (.c 12 rfl (.c 13 rfl .n)))))))))) ?_
            refine r_seq ?_
            refine r_seq ?_
            refine r_region ?_
            refine p_mv rfl rfl ?_
            refine p_eql rfl rfl rfl ?_
            refine o_keep (.c 0 rfl (.c 1 rfl (.c 2 rfl (.c 6 rfl (.c 7 rfl (.c 8 rfl (.c 10 rfl (.c 11 rfl (.c 12 rfl (.c 13 rfl (.c 82 rfl .n))))))))))) ?_
            have hB2 := hB.hear ⟨2, 0, shopOf w.ctr, w.ctr, w.dl, y⟩
            have hY2 := hY.say hnd hwk y
            generalize hs2e : hearB s ⟨2, 0, shopOf w.ctr, w.ctr, w.dl, y⟩ = s2 at hB2 hY2 ⊢
            refine r_cut_3 (fun (st1 : Int) (hv1 : Value) (hs1 : List Int) => [(10, true, .int .i64 st1), (11, true, hv1)]) (.c 0 rfl (.c 1 rfl (.c 2 rfl (.c 6 rfl (.c 7 rfl (.c 8 rfl (.c 12 rfl .n))))))) (fun (st1 : Int) (hv1 : Value) (hs1 : List Int) => sl hv1 3 1 (hs1.map rI) :: brokP b29 s2 :: H) (fun (st1 : Int) (hv1 : Value) (hs1 : List Int) => hs1.length ≤ i + 1 ∧ YInv ws s2 st1 hs1) ?_ (fun st1 hv1 hs1 hI => ?_)
            · skip
              refine r_cond _ rfl (fun h5 => ?_) (fun h5 => ?_)
              · skip
                have h0 : st = 0 := of_decide_eq_true h5
                rw [if_pos h0, if_pos h0] at hY2
                refine r_seq ?_
                refine r_region ?_
                refine p_mv rfl rfl ?_
                refine p_mv rfl rfl ?_
                refine p_idx Try.underlying24 (.ofC tc_4) hys rfl (mapget hy) rfl rfl rfl ?_
                refine p_ldat 0 tc_4 (Rd.ent hys (by repeat (first | exact Ent.rfl | exact Ent.one Ent.h | exact Ent.one (SelS.ent) | exact Ent.nil | exact Ent.left | refine Ent.dropR ?_ | refine Ent.tr Ent.skip ?_))) (mapget hy) rfl rfl rfl rfl ?_
                refine p_not rfl rfl ?_
                refine o_keep (.c 0 rfl (.c 1 rfl (.c 2 rfl (.c 6 rfl (.c 7 rfl (.c 8 rfl (.c 10 rfl (.c 11 rfl (.c 12 rfl (.c 13 rfl (.c 87 rfl .n))))))))))) ?_
                refine r_cond _ rfl (fun h6 => ?_) (fun h6 => ?_)
                · skip
                  have hf : y = false := by simpa using h6
                  rw [if_pos hf, if_pos hf] at hY2
                  refine r_region ?_
                  refine p_as rfl rfl ?_
                  refine o_keep (.c 0 rfl (.c 1 rfl (.c 2 rfl (.c 6 rfl (.c 7 rfl (.c 8 rfl (.c 10 rfl (.c 11 rfl (.c 12 rfl .n))))))))) ?_
                  refine r_join_3 (2) (hv) (hs) ?_ (Keep.app (.c 10 rfl (.c 11 rfl .n)) (.c 0 rfl (.c 1 rfl (.c 2 rfl (.c 6 rfl (.c 7 rfl (.c 8 rfl (.c 12 rfl .n)))))))) ?_
                  · exact ⟨by omega, hY2⟩
                  · first | exact Ent.rfl | (repeat (first | exact Ent.rfl | refine Ent.c (SelB.ent) ?_ | refine Ent.c (SelS.ent) ?_ | refine Ent.cN ?_ | refine Ent.c (SelX.ent) ?_ | refine Ent.dropR ?_))
                · skip
                  have hf : ¬ y = false := by simpa using h6
                  rw [if_neg hf, if_neg hf] at hY2
                  refine r_seq ?_
                  refine r_seq ?_
                  refine r_rd hv fun hrh => ?_
                  refine r_region ?_
                  refine p_mv rfl rfl ?_
                  refine p_mv rfl rfl ?_
                  refine p_callv cf_20 (.c rfl (.c rfl .n)) rfl (ref_In _ _ hv hs (k : Int) hrh.own (by omega)) ?_
                  refine p_not rfl rfl ?_
                  refine o_keep (.c 0 rfl (.c 1 rfl (.c 2 rfl (.c 6 rfl (.c 7 rfl (.c 8 rfl (.c 10 rfl (.c 11 rfl (.c 12 rfl (.c 13 rfl (.c 91 rfl .n))))))))))) ?_
                  refine r_cut_1 (fun (hv2 : Value) => [(11, true, hv2)]) (.c 0 rfl (.c 1 rfl (.c 2 rfl (.c 6 rfl (.c 7 rfl (.c 8 rfl (.c 10 rfl (.c 12 rfl .n)))))))) (fun (hv2 : Value) => sl hv2 3 1 ((yesHs hs k).map rI) :: brokP b29 s2 :: H) (fun (hv2 : Value) => True) ?_ (fun hv2 hI => ?_)
                  · skip
                    refine r_cond _ rfl (fun h7 => ?_) (fun h7 => ?_)
                    · skip
                      have hin : (k : Int) ∉ hs := by simpa using h7
                      have hyh : yesHs hs k = hs ++ [(k : Int)] := by unfold yesHs; rw [if_neg hin]
                      refine r_region ?_
                      refine p_mv rfl rfl ?_
                      refine p_mv rfl rfl ?_
                      refine p_bslice1 Try.underlying23 (.ofC tc_3) zr_3 rfl rfl rfl rfl rfl rfl rfl fun b94 => ?_
                      refine p_append Try.underlying23 el_3 rfl rfl rfl rfl rfl (Rd.blit rfl rfl) (by simp; omega) fun v95 => ?_
                      refine o_rd v95 fun hr95 => ?_
                      refine p_as rfl rfl ?_
                      refine o_keep (.c 0 rfl (.c 1 rfl (.c 2 rfl (.c 6 rfl (.c 7 rfl (.c 8 rfl (.c 10 rfl (.c 11 rfl (.c 12 rfl .n))))))))) ?_
                      refine r_join_1 (_) ?_ (Keep.app (.c 11 rfl .n) (.c 0 rfl (.c 1 rfl (.c 2 rfl (.c 6 rfl (.c 7 rfl (.c 8 rfl (.c 10 rfl (.c 12 rfl .n))))))))) ?_
                      · trivial
                      · rw [hyh, List.map_append]; first | exact Ent.rfl | (repeat (first | exact Ent.rfl | refine Ent.c (SelB.ent) ?_ | refine Ent.c (SelS.ent) ?_ | refine Ent.cN ?_ | refine Ent.c (SelX.ent) ?_ | refine Ent.dropR ?_))
                    · skip
                      have hin : (k : Int) ∈ hs := by simpa using h7
                      have hyh : yesHs hs k = hs := by unfold yesHs; rw [if_pos hin]
                      refine r_skip ?_
                      refine r_join_1 (hv) ?_ (Keep.app (.c 11 rfl .n) (.c 0 rfl (.c 1 rfl (.c 2 rfl (.c 6 rfl (.c 7 rfl (.c 8 rfl (.c 10 rfl (.c 12 rfl .n))))))))) ?_
                      · trivial
                      · rw [hyh]; first | exact Ent.rfl | (repeat (first | exact Ent.rfl | refine Ent.c (SelB.ent) ?_ | refine Ent.c (SelS.ent) ?_ | refine Ent.cN ?_ | refine Ent.c (SelX.ent) ?_ | refine Ent.dropR ?_))
                  refine r_seq ?_
                  refine r_rd hv2 fun hrh2 => ?_
                  have hyl : (yesHs hs k).length ≤ hs.length + 1 := by unfold yesHs; split <;> simp
                  refine r_region ?_
                  refine p_mv rfl rfl ?_
                  refine l_op (x_p (pv_lens (Rd.len hrh2) ⟨_, Try.underlying23⟩ (.n rfl) rfl rfl rfl rfl (fun _ => rfl)) rfl rfl ?_)
                  refine p_mv rfl rfl ?_
                  refine l_op (x_p (pv_lens hw.len ⟨_, Try.underlying22⟩ (.n rfl) rfl rfl rfl rfl (fun _ => rfl)) rfl rfl ?_)
                  refine p_eql rfl rfl rfl ?_
                  refine o_keep (.c 0 rfl (.c 1 rfl (.c 2 rfl (.c 6 rfl (.c 7 rfl (.c 8 rfl (.c 10 rfl (.c 11 rfl (.c 12 rfl (.c 100 rfl .n)))))))))) ?_
                  refine r_cond _ rfl (fun h8 => ?_) (fun h8 => ?_)
                  · skip
                    have hfull := of_decide_eq_true h8
                    refine r_region ?_
                    refine p_as rfl rfl ?_
                    refine o_keep (.c 0 rfl (.c 1 rfl (.c 2 rfl (.c 6 rfl (.c 7 rfl (.c 8 rfl (.c 10 rfl (.c 11 rfl (.c 12 rfl .n))))))))) ?_
                    refine r_join_3 (1) (hv2) (yesHs hs k) ?_ (Keep.app (.c 10 rfl (.c 11 rfl .n)) (.c 0 rfl (.c 1 rfl (.c 2 rfl (.c 6 rfl (.c 7 rfl (.c 8 rfl (.c 12 rfl .n)))))))) ?_
                    · rw [if_pos (by omega)] at hY2; exact ⟨by omega, hY2⟩
                    · first | exact Ent.rfl | (repeat (first | exact Ent.rfl | refine Ent.c (SelB.ent) ?_ | refine Ent.c (SelS.ent) ?_ | refine Ent.cN ?_ | refine Ent.c (SelX.ent) ?_ | refine Ent.dropR ?_))
                  · skip
                    have hfull := of_decide_eq_false h8
                    refine r_skip ?_
                    refine r_join_3 (st) (hv2) (yesHs hs k) ?_ (Keep.app (.c 10 rfl (.c 11 rfl .n)) (.c 0 rfl (.c 1 rfl (.c 2 rfl (.c 6 rfl (.c 7 rfl (.c 8 rfl (.c 12 rfl .n)))))))) ?_
                    · rw [if_neg (by omega)] at hY2; rw [h0]; exact ⟨by omega, hY2⟩
                    · first | exact Ent.rfl | (repeat (first | exact Ent.rfl | refine Ent.c (SelB.ent) ?_ | refine Ent.c (SelS.ent) ?_ | refine Ent.cN ?_ | refine Ent.c (SelX.ent) ?_ | refine Ent.dropR ?_))
              · skip
                have h0 : ¬ st = 0 := of_decide_eq_false h5
                rw [if_neg h0, if_neg h0] at hY2
                refine r_skip ?_
                refine r_join_3 (st) (hv) (hs) ?_ (Keep.app (.c 10 rfl (.c 11 rfl .n)) (.c 0 rfl (.c 1 rfl (.c 2 rfl (.c 6 rfl (.c 7 rfl (.c 8 rfl (.c 12 rfl .n)))))))) ?_
                · exact ⟨by omega, hY2⟩
                · first | exact Ent.rfl | (repeat (first | exact Ent.rfl | refine Ent.c (SelB.ent) ?_ | refine Ent.c (SelS.ent) ?_ | refine Ent.cN ?_ | refine Ent.c (SelX.ent) ?_ | refine Ent.dropR ?_))
            clear hY2
            obtain ⟨hh1, hY2⟩ := hI
            refine r_seq ?_
            obtain ⟨hq1, hq2, hq3, hq4⟩ := hY2.state
            refine r_region ?_
            refine p_mv rfl rfl ?_
            refine p_mv rfl rfl ?_
            refine p_callv cf_21 (.c rfl (.c rfl .n)) rfl ((broker_State _ b29 s2 hB2 0).q) ?_
            refine p_mv rfl rfl ?_
            refine l_op (x_p (pv_to (pv_neq (.n rfl) rfl rfl rfl (fun _ => ⟨rfl, rfl⟩)) (show _ = Value.bool false from bool_eq (by rw [hq1]; simp))) rfl rfl ?_)
            refine p_mv rfl rfl ?_
            refine o_split (t := 106) rfl (fun g9 => ?_) (fun g9 => ?_)
            · simp at g9
            · skip
              refine o_g (.s rfl rfl rfl) rfl ?_
              refine p_mv rfl rfl ?_
              refine o_g (.s rfl rfl rfl) rfl ?_
              refine p_calle cf_22 (.c rfl .n) rfl (broker_Done _ b29 s2 hB2 (by omega)) fun ov => ?_
              refine o_cat ?_
              refine o_rd ov fun hro => ?_
              refine o_g (.s rfl rfl rfl) rfl ?_
              refine l_op (x_p (pv_lens (Rd.len hro) ⟨_, Try.underlying23⟩ (.n rfl) rfl rfl rfl rfl (fun _ => rfl)) rfl rfl ?_)
              refine o_g (.s rfl rfl rfl) rfl ?_
              refine p_eql rfl rfl rfl ?_
              refine o_g (.s rfl rfl rfl) rfl ?_
              refine p_mv rfl rfl ?_
              refine o_g (.s rfl rfl rfl) rfl ?_
              refine p_eql rfl rfl rfl ?_
              refine o_g (.s rfl rfl rfl) rfl ?_
              refine l_op (x_p (pv_bne Try.underlying4 (.n rfl) rfl rfl rfl (fun _ => ⟨rfl, rfl⟩)) rfl rfl ?_)
              refine l_op (x_p (pv_or (.n rfl) rfl rfl rfl (fun _ => ⟨rfl, fun hc => by first | rfl | (rw [hc]; rfl) | simp_all⟩)) rfl rfl ?_)
              refine o_keep (.c 0 rfl (.c 1 rfl (.c 2 rfl (.c 6 rfl (.c 7 rfl (.c 8 rfl (.c 10 rfl (.c 11 rfl (.c 12 rfl (.c 114 rfl .n)))))))))) ?_
              refine r_cond _ rfl (fun h10 => ?_) (fun h10 => ?_)
              · exfalso; simp only [Bool.false_or, Bool.not_eq_true', beq_eq_false_iff_ne, ne_eq] at h10; exact h10 (by rw [Bool.eq_iff_iff, decide_eq_true_eq, decide_eq_true_eq]; constructor <;> (intro h; omega))
              · skip
                refine r_skip ?_
                refine r_end ?_
                refine r_region ?_
                refine p_mv rfl rfl ?_
                refine p_add rfl rfl (by first | omega | exact u64_ne (by omega) (by omega)) rfl ?_
                refine p_as rfl rfl ?_
                refine o_keep (.c 0 rfl (.c 1 rfl (.c 2 rfl (.c 6 rfl (.c 7 rfl (.c 8 rfl (.c 10 rfl (.c 11 rfl (.c 12 rfl .n))))))))) ?_
                refine r_back_5 (i + 1) (s2) (st1) (hv1) (hs1) ?_ ?_ (Keep.app (.c 12 rfl (.c 10 rfl (.c 11 rfl .n))) (.c 0 rfl (.c 1 rfl (.c 2 rfl (.c 6 rfl (.c 7 rfl (.c 8 rfl .n))))))) ?_
                · exact ⟨by omega, by omega, hB2, hY2⟩
                · omega
                · first | exact Ent.rfl | (repeat (first | exact Ent.rfl | refine Ent.c (SelB.ent) ?_ | refine Ent.c (SelS.ent) ?_ | refine Ent.cN ?_ | refine Ent.c (SelX.ent) ?_ | refine Ent.dropR ?_))
          · skip
            refine r_exit rfl ?_
            refine r_seq ?_
            refine r_region ?_
            refine p_as rfl rfl ?_
            refine o_keep (.c 6 rfl .n) ?_
            refine r_retv hF rfl (.c (.t rfl) .n) ?_ ?_
            · first | exact Ent.rfl | (repeat (first | exact Ent.rfl | refine Ent.c (SelB.ent) ?_ | refine Ent.c (SelS.ent) ?_ | refine Ent.cN ?_ | refine Ent.c (SelX.ent) ?_ | refine Ent.dropR ?_))
            · rfl

end Go.Proofs.Ytmakdilmibjpbab
