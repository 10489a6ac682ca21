/- The walks of BookW4: written by a program of ours (gen.py) over the engine. -/
import Derived.Test.YtmakdilmibjpbabPlain
import Derived.Test.YtmakdilmibjpbabFacts
import Derived.Test.YtmakdilmibjpbabBookW3
namespace Go.Proofs.Ytmakdilmibjpbab
open Go Go.RowKit
set_option linter.unusedVariables false
set_option linter.unusedSimpArgs false
set_option maxRecDepth 20000

def bigK (x : BkStep) : Bool := decide (50 < x.wants.length)
def greatK (xs : List BkStep) : Bool := (xs.take 200).any bigK || decide (150 < xs.length)
theorem any_step {α : Type} {p : α → Bool} {l : List α} {i : Nat} {x : α} (h : l[i]? = some x) : (l.take (i + 1)).any p = ((l.take i).any p || p x) := by
  rw [take_S h, List.any_append]; simp
theorem any_le {α : Type} {p : α → Bool} {l : List α} {i n : Nat} (h : (l.take i).any p = true) (hi : i ≤ n) : (l.take n).any p = true := by
  obtain ⟨x, hx, hp⟩ := List.any_eq_true.1 h
  exact List.any_eq_true.2 ⟨x, (List.take_subset_take_left l hi) hx, hp⟩
theorem great_no {xs : List BkStep} (h : greatK xs = false) : xs.length ≤ 150 ∧ ∀ x ∈ xs, x.wants.length ≤ 50 := by
  unfold greatK at h
  simp only [Bool.or_eq_false_iff, decide_eq_false_iff_not] at h
  refine ⟨by omega, fun x hx => ?_⟩
  rw [List.take_of_length_le (by omega)] at h
  have := List.any_eq_false.1 h.1 x hx
  simp [bigK] at this
  omega

theorem law_greatB (M : Amb) (xs : List BkStep) (sv : Value) (hs : Rd M [] sv 10 (xs.map rBk)) (hx : ∀ x ∈ xs, Rd M [] x.wv 2 (x.wants.map rW)) : FnC Try.prog M 37 [sv] (.bool (greatK xs)) [] [] := by
  refine fnc_intro Try.func37 rfl Try.ntmps37 rfl fun R F hF => ?_
  refine r_cat ?_
  refine r_seq ?_
  refine r_region ?_
  refine p_as rfl rfl ?_
  refine o_keep (.c 0 rfl (.c 2 rfl .n)) ?_
  refine r_seq ?_
  refine r_seq ?_
  refine r_region ?_
  refine p_as rfl rfl ?_
  refine o_keep (.c 0 rfl (.c 2 rfl (.c 3 rfl .n))) ?_
  refine r_block ?_
  refine r_loop_1 (fun (i : Nat) => [(3, true, .int .i64 (i : Int))]) (.c 0 rfl (.c 2 rfl .n)) (fun (i : Nat) => R) (fun (i : Nat) => i ≤ xs.length ∧ i ≤ 200 ∧ (xs.take i).any bigK = false) (fun (i : Nat) => 200 - i) (0) ?_ (.c 3 rfl .n) ?_ (fun i hI => ?_)
  · exact ⟨Nat.zero_le _, Nat.zero_le _, by simp⟩
  · first | exact Ent.rfl | (repeat (first | exact Ent.rfl | refine Ent.c (SelB.ent) ?_ | refine Ent.c (SelS.ent) ?_ | refine Ent.cN ?_ | refine Ent.c (SelX.ent) ?_ | refine Ent.dropR ?_))
  · skip
    obtain ⟨hi0, hi3, hA⟩ := hI
    refine r_seq ?_
    refine r_seq ?_
    refine r_region ?_
    refine p_mv rfl rfl ?_
    refine p_mv rfl rfl ?_
    refine l_op (x_p (pv_lens hs.len ⟨_, Try.underlying72⟩ (.n rfl) rfl rfl rfl rfl (fun _ => rfl)) rfl rfl ?_)
    refine p_lss rfl rfl rfl ?_
    refine p_mv rfl rfl ?_
    refine l_op (x_p (pv_mv (.s rfl rfl rfl) rfl rfl (by first | exact fun _ => rfl | exact id | exact fun h => (Bool.and_eq_true_iff.1 h).1 | simp_all)) rfl rfl ?_)
    refine l_op (x_p (pv_lss (.s rfl rfl rfl) rfl rfl rfl (by refine fun h => ⟨?_, ?_⟩ <;> first | rfl | exact h | exact (Bool.and_eq_true_iff.1 h).1 | simp_all)) rfl rfl ?_)
    refine l_op (x_p (pv_and (.n rfl) rfl rfl rfl (fun _ => ⟨rfl, fun hc => by first | rfl | (rw [hc]; rfl) | simp_all⟩)) rfl rfl ?_)
    refine o_keep (.c 0 rfl (.c 2 rfl (.c 3 rfl (.c 11 rfl .n)))) ?_
    refine r_cond _ rfl (fun h1 => ?_) (fun h1 => ?_)
    · skip
      have hil : i < xs.length ∧ i < 200 := by simp at h1; omega
      obtain ⟨x, hxi⟩ := getlt (l := xs) (i := i) hil.1
      have hxr := hx x (List.mem_of_getElem? hxi)
      refine r_skip ?_
      refine r_seq ?_
      refine r_block ?_
      refine r_seq ?_
      refine r_region ?_
      refine p_mv rfl rfl ?_
      refine p_mv rfl rfl ?_
      refine p_idx Try.underlying72 (.ofA ta_80) hs rfl (mapget hxi) rfl rfl rfl ?_
      refine p_faat fa_80_2 (Rd.sh hs (mapget hxi)) rfl rfl ?_
      refine p_ldat 2 tc_22 (Rd.ent hs (by repeat (first | exact Ent.rfl | exact Ent.one Ent.h | exact Ent.one (SelS.ent) | exact Ent.nil | exact Ent.left | refine Ent.dropR ?_ | refine Ent.tr Ent.skip ?_))) (mapget hxi) rfl rfl rfl rfl ?_
      refine l_op (x_p (pv_lens hxr.len ⟨_, Try.underlying22⟩ (.n rfl) rfl rfl rfl rfl (fun _ => rfl)) rfl rfl ?_)
      refine p_gtr rfl rfl rfl ?_
      refine o_keep (.c 0 rfl (.c 2 rfl (.c 3 rfl (.c 20 rfl .n)))) ?_
      refine r_cond _ rfl (fun h2 => ?_) (fun h2 => ?_)
      · skip
        have hbig : bigK x = true := by have := of_decide_eq_true h2; unfold bigK; exact decide_eq_true (by omega)
        have hg : greatK xs = true := by unfold greatK; rw [any_le (i := i + 1) (by rw [any_step hxi, hbig, Bool.or_true]) (by omega)]; rfl
        refine r_seq ?_
        refine r_region ?_
        refine p_as rfl rfl ?_
        refine o_keep (.c 0 rfl (.c 2 rfl (.c 3 rfl .n))) ?_
        refine r_retv hF rfl (.c (.t rfl) .n) ?_ ?_
        · refine Ent.catI ?_; first | exact Ent.rfl | (repeat (first | exact Ent.rfl | refine Ent.c (SelB.ent) ?_ | refine Ent.c (SelS.ent) ?_ | refine Ent.cN ?_ | refine Ent.c (SelX.ent) ?_ | refine Ent.dropR ?_))
        · rw [hg]; rfl
      · skip
        have hbig : bigK x = false := by have := of_decide_eq_false h2; unfold bigK; exact decide_eq_false (by omega)
        refine r_skip ?_
        refine r_end ?_
        refine r_region ?_
        refine p_mv rfl rfl ?_
        refine p_add rfl rfl (by omega) rfl ?_
        refine p_as rfl rfl ?_
        refine o_keep (.c 0 rfl (.c 2 rfl (.c 3 rfl .n))) ?_
        refine r_back_1 (i + 1) ?_ ?_ (Keep.app (.c 3 rfl .n) (.c 0 rfl (.c 2 rfl .n))) ?_
        · exact ⟨by omega, by omega, by rw [any_step hxi, hA, hbig]; rfl⟩
        · omega
        · first | exact Ent.rfl | (repeat (first | exact Ent.rfl | refine Ent.c (SelB.ent) ?_ | refine Ent.c (SelS.ent) ?_ | refine Ent.cN ?_ | refine Ent.c (SelX.ent) ?_ | refine Ent.dropR ?_))
    · skip
      have hil : xs.length ≤ i ∨ 200 ≤ i := by simp at h1; omega
      have hfull : (xs.take 200).any bigK = false := by rcases hil with q | q; (rw [← hA, List.take_of_length_le (by omega), List.take_of_length_le q]); (have e : i = 200 := by omega); (rw [← hA, e])
      refine r_exit rfl ?_
      refine r_seq ?_
      refine r_region ?_
      refine p_mv rfl rfl ?_
      refine l_op (x_p (pv_lens hs.len ⟨_, Try.underlying72⟩ (.n rfl) rfl rfl rfl rfl (fun _ => rfl)) rfl rfl ?_)
      refine p_gtr rfl rfl rfl ?_
      refine p_as rfl rfl ?_
      refine o_keep (.c 2 rfl .n) ?_
      refine r_retv hF rfl (.c (.t rfl) .n) ?_ ?_
      · refine Ent.catI ?_; first | exact Ent.rfl | (repeat (first | exact Ent.rfl | refine Ent.c (SelB.ent) ?_ | refine Ent.c (SelS.ent) ?_ | refine Ent.cN ?_ | refine Ent.c (SelX.ent) ?_ | refine Ent.dropR ?_))
      · exact bool_eq (by unfold greatK; rw [hfull]; simp; omega)

theorem law_bstep (M : Amb) (b c : Nat) (s : BrokS) (hI : BInv s) (x : BkStep) (hv : Rd M [] x.wv 2 (x.wants.map rW)) (hb : x.wants.length ≤ 1000) : FnC Try.prog M 38 [ptr b, ptr c, .agg (rBk x).toArray] (.bool true) [brokP b s, bookP c 77 [] s] [brokP b (stepBk s x), bookP c 77 [] (stepBk s x)] := by
  have hor := hI.ord_le
  have hl8 := hI.len
  have hdl := dueL_le (l := s.l) (n := 0) hI.d
  change (dueB s).length ≤ _ at hdl
  obtain ⟨xd, xn, xv, xw, xm, xy⟩ := x
  dsimp only at hv hb
  refine fnc_intro Try.func38 rfl Try.ntmps38 rfl fun R F hF => ?_
  refine r_cat ?_
  refine r_seq ?_
  refine r_region ?_
  refine p_box rfl rfl rfl fun b5 => ?_
  refine p_as rfl rfl ?_
  refine o_keep (.c 0 rfl (.c 1 rfl (.c 5 rfl (.c 6 rfl .n)))) ?_
  refine r_seq ?_
  refine r_seq ?_
  refine r_region ?_
  refine p_fa fa_80_0 rfl rfl ?_
  refine p_ldc tc_3 rfl (by rfl) rfl ?_
  refine o_keep (.c 0 rfl (.c 1 rfl (.c 5 rfl (.c 6 rfl (.c 14 rfl .n))))) ?_
  refine r_block ?_
  refine r_seq ?_
  refine r_region ?_
  refine p_eql rfl rfl rfl ?_
  refine p_as rfl rfl ?_
  refine o_keep (.c 0 rfl (.c 1 rfl (.c 5 rfl (.c 6 rfl (.c 14 rfl (.c 15 rfl .n)))))) ?_
  refine r_cond _ rfl (fun h1 => ?_) (fun h1 => ?_)
  · skip
    have q0 : xd = 0 := of_decide_eq_true h1
    have hs : stepBk s ⟨xd, xn, xv, xw, xm, xy⟩ = (beginB s xw).1 := by unfold stepBk; rw [if_pos q0]
    refine r_seq ?_
    refine r_region ?_
    refine p_mv rfl rfl ?_
    refine p_fa fa_80_2 rfl rfl ?_
    refine p_ldc tc_22 rfl (by rfl) rfl ?_
    refine p_callc cf_16 (.c rfl (.c rfl .n)) rfl (broker_BeginC _ b s hI xv xw hv hb) ?_
    refine p_mv rfl rfl ?_
    refine p_ext rfl rfl rfl ?_
    refine p_ext rfl rfl rfl ?_
    refine p_as rfl rfl ?_
    refine p_as rfl rfl ?_
    refine o_keep (.c 1 rfl (.c 5 rfl (.c 6 rfl (.c 7 rfl (.c 8 rfl .n))))) ?_
    refine r_seq ?_
    refine r_region ?_
    refine p_mv rfl rfl ?_
    refine p_fa fa_80_2 rfl rfl ?_
    refine p_ldc tc_22 rfl (by rfl) rfl ?_
    refine p_callc cf_72 (.c rfl (.c rfl .n)) rfl (book_Begin _ c s hI xv xw hv hb) ?_
    refine p_mv rfl rfl ?_
    refine p_ext rfl rfl rfl ?_
    refine p_ext rfl rfl rfl ?_
    refine p_as rfl rfl ?_
    refine p_as rfl rfl ?_
    refine o_keep (.c 6 rfl (.c 7 rfl (.c 8 rfl (.c 9 rfl (.c 10 rfl .n))))) ?_
    refine r_seq ?_
    refine r_region ?_
    refine p_mv rfl rfl ?_
    refine p_mv rfl rfl ?_
    refine p_eql rfl rfl rfl ?_
    refine p_mv rfl rfl ?_
    refine l_op (x_p (pv_mv (.s rfl rfl rfl) rfl rfl (by first | exact fun _ => rfl | exact id | exact fun h => (Bool.and_eq_true_iff.1 h).1 | simp_all)) rfl rfl ?_)
    refine l_op (x_p (pv_mv (.s rfl rfl rfl) rfl rfl (by first | exact fun _ => rfl | exact id | exact fun h => (Bool.and_eq_true_iff.1 h).1 | simp_all)) rfl rfl ?_)
    refine l_op (x_p (pv_eql (.s rfl rfl rfl) rfl rfl rfl (by refine fun h => ⟨?_, ?_⟩ <;> first | rfl | exact h | exact (Bool.and_eq_true_iff.1 h).1 | simp_all)) rfl rfl ?_)
    refine l_op (x_p (pv_and (.n rfl) rfl rfl rfl (fun _ => ⟨rfl, fun hc => by first | rfl | (rw [hc]; rfl) | simp_all⟩)) rfl rfl ?_)
    refine p_as rfl rfl ?_
    refine o_keep (.c 6 rfl .n) ?_
    refine r_retv hF rfl (.c (.t rfl) .n) ?_ ?_
    · refine Ent.catI ?_; rw [hs]; refine Ent.c (SelX.ent) ?_; refine Ent.c (SelX.ent) ?_; first | exact Ent.rfl | (repeat (first | exact Ent.rfl | refine Ent.c (SelB.ent) ?_ | refine Ent.c (SelS.ent) ?_ | refine Ent.cN ?_ | refine Ent.c (SelX.ent) ?_ | refine Ent.dropR ?_))
    · first | rfl | exact bool_eq (by simp)
  · skip
    have q0 : ¬ xd = 0 := of_decide_eq_false h1
    refine r_seq ?_
    refine r_region ?_
    refine p_eql rfl rfl rfl ?_
    refine p_as rfl rfl ?_
    refine o_keep (.c 0 rfl (.c 1 rfl (.c 5 rfl (.c 6 rfl (.c 14 rfl (.c 39 rfl .n)))))) ?_
    refine r_cond _ rfl (fun h2 => ?_) (fun h2 => ?_)
    · skip
      have q1 : xd = 1 := of_decide_eq_true h2
      have hs : stepBk s ⟨xd, xn, xv, xw, xm, xy⟩ = (quitB s xn).1 := by unfold stepBk; rw [if_neg q0, if_pos q1]
      refine r_seq ?_
      refine r_plan (_) ([brokP b s, bookP c 77 [] s]) mo (.c 0 rfl (.c 1 rfl (.c 5 rfl .n))) ((Ent.c SelX.ent (Ent.c SelX.ent Ent.rfl))) ?_
      refine qm_q (i := 0) (l := [.k 0]) rfl rfl rfl rfl (by kernel_rfl) rfl (fun He => PV.rq (pv_mv (.n rfl) rfl rfl (fun _ => rfl))) ?_
      refine qm_q (i := 1) (l := [.k 5]) rfl rfl rfl rfl (by kernel_rfl) rfl (fun He => PV.rq (pv_fa fa_80_1 (.n rfl) rfl rfl (fun _ => rfl))) ?_
      refine qm_q (i := 2) (l := [.o 1]) rfl rfl rfl rfl (by kernel_rfl) rfl (fun He => RV.rq (q_ldc tc_3 (.n rfl) rfl rfl (fun _ => rfl) (by rfl))) ?_
      refine qm_q (i := 4) (l := [.k 1]) rfl rfl rfl rfl (by kernel_rfl) rfl (fun He => PV.rq (pv_mv (.n rfl) rfl rfl (fun _ => rfl))) ?_
      refine qm_q (i := 5) (l := [.k 5]) rfl rfl rfl rfl (by kernel_rfl) rfl (fun He => PV.rq (pv_fa fa_80_1 (.n rfl) rfl rfl (fun _ => rfl))) ?_
      refine qm_q (i := 6) (l := [.o 5]) rfl rfl rfl rfl (by kernel_rfl) rfl (fun He => RV.rq (q_ldc tc_3 (.n rfl) rfl rfl (fun _ => rfl) (by rfl))) ?_
      refine qm_callc (i := 3) [.o 0, .o 2] (by kernel_rfl) (by kernel_rfl) rfl rfl rfl rfl (by kernel_rfl) (by kernel_rfl) ⟨_, .n rfl, rfl⟩ cf_58 rfl (.c rfl (.c rfl .n)) (broker_Quit _ b s hI xn (by omega)) ?_
      refine qb_callc (i := 7) [.o 4, .o 6] (by kernel_rfl) (by kernel_rfl) rfl rfl rfl rfl (by kernel_rfl) (by kernel_rfl) (by kernel_rfl) ⟨_, .n rfl, rfl⟩ cf_73 rfl (.c rfl (.c rfl .n)) (book_Quit _ c s hI xn) ?_
      refine qm_q (i := 8) (l := [.o 3, .o 7]) rfl rfl rfl rfl (by kernel_rfl) rfl (fun He => PV.rq (pv_eql (.n rfl) rfl rfl rfl (fun _ => ⟨rfl, rfl⟩))) ?_
      refine qm_q (i := 9) (l := [.o 8]) rfl rfl rfl rfl (by kernel_rfl) rfl (fun He => PV.rq (pv_as (.n rfl) rfl rfl (fun _ => rfl))) ?_
      refine qm_n (by kernel_rfl) (by kernel_rfl) (by kernel_rfl) (by kernel_rfl) (.c 6 rfl .n) ?_
      refine r_retv hF rfl (.c (.t rfl) .n) ?_ ?_
      · refine Ent.catI ?_; rw [hs]; refine Ent.c (SelX.ent) ?_; refine Ent.c (SelX.ent) ?_; first | exact Ent.rfl | (repeat (first | exact Ent.rfl | refine Ent.c (SelB.ent) ?_ | refine Ent.c (SelS.ent) ?_ | refine Ent.cN ?_ | refine Ent.c (SelX.ent) ?_ | refine Ent.dropR ?_))
      · first | rfl | exact bool_eq (by simp)
    · skip
      have q1 : ¬ xd = 1 := of_decide_eq_false h2
      refine r_seq ?_
      refine r_region ?_
      refine p_eql rfl rfl rfl ?_
      refine p_as rfl rfl ?_
      refine o_keep (.c 0 rfl (.c 1 rfl (.c 5 rfl (.c 6 rfl (.c 14 rfl (.c 50 rfl .n)))))) ?_
      refine r_cond _ rfl (fun h3 => ?_) (fun h3 => ?_)
      · skip
        have q2 : xd = 2 := of_decide_eq_true h3
        have hs : stepBk s ⟨xd, xn, xv, xw, xm, xy⟩ = hearB s xm := by unfold stepBk; rw [if_neg q0, if_neg q1, if_pos q2]
        refine r_seq ?_
        refine r_region ?_
        refine p_mv rfl rfl ?_
        refine p_fa fa_80_3 rfl rfl ?_
        refine p_lda ta_37 rfl (by exact (.s (.s (.s (.s (.s (.s .z))))))) rfl ?_
        refine p_callc cf_18 (.c rfl (.c rfl .n)) rfl (broker_Hear _ b s hI xm) ?_
        refine o_keep (.c 1 rfl (.c 5 rfl (.c 6 rfl .n))) ?_
        refine r_region ?_
        refine p_mv rfl rfl ?_
        refine p_fa fa_80_3 rfl rfl ?_
        refine p_lda ta_37 rfl (by exact (.s (.s (.s (.s (.s (.s .z))))))) rfl ?_
        refine p_callc cf_74 (.c rfl (.c rfl .n)) rfl (book_Hear _ c s hI xm) ?_
        refine o_keep (.c 6 rfl .n) ?_
        refine r_end ?_
        refine r_seq ?_
        refine r_region ?_
        refine p_as rfl rfl ?_
        refine o_keep (.c 6 rfl .n) ?_
        refine r_retv hF rfl (.c (.t rfl) .n) ?_ ?_
        · refine Ent.catI ?_; rw [hs]; refine Ent.c (SelX.ent) ?_; refine Ent.c (SelX.ent) ?_; first | exact Ent.rfl | (repeat (first | exact Ent.rfl | refine Ent.c (SelB.ent) ?_ | refine Ent.c (SelS.ent) ?_ | refine Ent.cN ?_ | refine Ent.c (SelX.ent) ?_ | refine Ent.dropR ?_))
        · first | rfl | exact bool_eq (by simp)
      · skip
        have q2 : ¬ xd = 2 := of_decide_eq_false h3
        refine r_seq ?_
        refine r_region ?_
        refine p_eql rfl rfl rfl ?_
        refine p_as rfl rfl ?_
        refine o_keep (.c 0 rfl (.c 1 rfl (.c 5 rfl (.c 6 rfl (.c 14 rfl (.c 60 rfl .n)))))) ?_
        refine r_cond _ rfl (fun h4 => ?_) (fun h4 => ?_)
        · skip
          have q3 : xd = 3 := of_decide_eq_true h4
          have hs : stepBk s ⟨xd, xn, xv, xw, xm, xy⟩ = crashB s := by unfold stepBk; rw [if_neg q0, if_neg q1, if_neg q2, if_pos q3]
          refine r_seq ?_
          refine r_region ?_
          refine p_mv rfl rfl ?_
          refine p_callc cf_47 (.c rfl .n) rfl (broker_Crash _ b s hI) ?_
          refine o_keep (.c 1 rfl (.c 6 rfl .n)) ?_
          refine r_region ?_
          refine p_mv rfl rfl ?_
          refine p_callc cf_75 (.c rfl .n) rfl (book_Crash _ c s hI) ?_
          refine o_keep (.c 6 rfl .n) ?_
          refine r_end ?_
          refine r_seq ?_
          refine r_region ?_
          refine p_as rfl rfl ?_
          refine o_keep (.c 6 rfl .n) ?_
          refine r_retv hF rfl (.c (.t rfl) .n) ?_ ?_
          · refine Ent.catI ?_; rw [hs]; refine Ent.c (SelX.ent) ?_; refine Ent.c (SelX.ent) ?_; first | exact Ent.rfl | (repeat (first | exact Ent.rfl | refine Ent.c (SelB.ent) ?_ | refine Ent.c (SelS.ent) ?_ | refine Ent.cN ?_ | refine Ent.c (SelX.ent) ?_ | refine Ent.dropR ?_))
          · first | rfl | exact bool_eq (by simp)
        · skip
          have q3 : ¬ xd = 3 := of_decide_eq_false h4
          refine r_seq ?_
          refine r_region ?_
          refine p_eql rfl rfl rfl ?_
          refine p_as rfl rfl ?_
          refine o_keep (.c 0 rfl (.c 1 rfl (.c 5 rfl (.c 6 rfl (.c 66 rfl .n))))) ?_
          refine r_cond _ rfl (fun h5 => ?_) (fun h5 => ?_)
          · skip
            have q4 : xd = 4 := of_decide_eq_true h5
            have hs : stepBk s ⟨xd, xn, xv, xw, xm, xy⟩ = match dueAt s xn with | none => s | some m => hearB s (ansOf m xy) := by unfold stepBk; rw [if_neg q0, if_neg q1, if_neg q2, if_neg q3, if_pos q4]; rfl
            unfold dueAt at hs
            refine r_seq ?_
            refine r_region ?_
            refine p_mv rfl rfl ?_
            refine p_calle cf_42 (.c rfl .n) rfl (book_Due _ c s hI) fun dv => ?_
            refine o_cat ?_
            refine o_rd dv fun hrd => ?_
            refine p_as rfl rfl ?_
            refine o_keep (.c 0 rfl (.c 1 rfl (.c 5 rfl (.c 6 rfl (.c 11 rfl .n))))) ?_
            refine r_seq ?_
            refine r_seq ?_
            refine r_region ?_
            refine p_mv rfl rfl ?_
            refine l_op (x_p (pv_lens (Rd.len hrd) ⟨_, Try.underlying83⟩ (.n rfl) rfl rfl rfl rfl (fun _ => rfl)) rfl rfl ?_)
            refine p_eql rfl rfl rfl ?_
            refine o_keep (.c 0 rfl (.c 1 rfl (.c 5 rfl (.c 6 rfl (.c 11 rfl (.c 72 rfl .n)))))) ?_
            refine r_cond _ rfl (fun h6 => ?_) (fun h6 => ?_)
            · skip
              have h0 : (dueB s).length ≤ 0 := by have := of_decide_eq_true h6; omega
              rw [List.getElem?_eq_none (by omega)] at hs
              dsimp only at hs
              refine r_seq ?_
              refine r_region ?_
              refine p_as rfl rfl ?_
              refine o_keep (.c 0 rfl (.c 1 rfl (.c 5 rfl (.c 6 rfl (.c 11 rfl .n))))) ?_
              refine r_retv hF rfl (.c (.t rfl) .n) ?_ ?_
              · refine Ent.catI ?_; rw [hs]; refine Ent.c (SelX.ent) ?_; refine Ent.c (SelX.ent) ?_; first | exact Ent.rfl | (repeat (first | exact Ent.rfl | refine Ent.c (SelB.ent) ?_ | refine Ent.c (SelS.ent) ?_ | refine Ent.cN ?_ | refine Ent.c (SelX.ent) ?_ | refine Ent.dropR ?_))
              · first | rfl | exact bool_eq (by simp)
            · skip
              have h0 : 0 < (dueB s).length := by have := of_decide_eq_false h6; omega
              obtain ⟨m0, hm0⟩ := getlt (l := dueB s) (i := rnd xn (dueB s).length) (rnd_lt h0)
              rw [hm0] at hs
              dsimp only at hs
              unfold ansOf at hs
              refine r_skip ?_
              refine r_seq ?_
              refine r_region ?_
              refine p_mv rfl rfl ?_
              refine p_fa fa_80_1 rfl rfl ?_
              refine p_ldc tc_3 rfl (by rfl) rfl ?_
              refine l_op (x_p (pv_conv Try.underlying3 Try.underlying31 (.n rfl) rfl rfl (fun _ => rfl)) rfl rfl ?_)
              refine p_mv rfl rfl ?_
              refine l_op (x_p (pv_lens (Rd.len hrd) ⟨_, Try.underlying83⟩ (.n rfl) rfl rfl rfl rfl (fun _ => rfl)) rfl rfl ?_)
              refine l_op (x_p (pv_conv Try.underlying3 Try.underlying31 (.n rfl) rfl rfl (fun _ => rfl)) rfl rfl ?_)
              refine l_op (x_p (pv_rem (fun _ => by first | omega | exact u64_ne (by omega) (by omega)) (.n rfl) rfl rfl rfl (fun _ => ⟨rfl, rfl⟩)) rfl rfl ?_)
              refine l_op (x_p (pv_conv Try.underlying31 Try.underlying3 (.n rfl) rfl rfl (fun _ => rfl)) rfl rfl ?_)
              refine p_idx Try.underlying83 (.ofA ta_37) hrd (rnd_eq (by omega) (by omega)) (mapget hm0) rfl rfl rfl ?_
              refine p_ldats 0 ta_37 (Rd.ent hrd (by repeat (first | exact Ent.rfl | exact Ent.one Ent.h | exact Ent.one (SelS.ent) | exact Ent.nil | exact Ent.left | refine Ent.dropR ?_ | refine Ent.tr Ent.skip ?_))) (mapget hm0) rfl rfl (.s (.s (.s (.s (.s (.s .z)))))) rfl ?_
              refine p_alloc zr_37 rfl fun b12 => ?_
              refine p_store (.ofA ta_37) rfl rfl rfl rfl rfl (by repeat constructor) ?_
              refine o_keep (.c 0 rfl (.c 1 rfl (.c 5 rfl (.c 6 rfl (.c 12 rfl .n))))) ?_
              refine r_seq ?_
              refine r_seq ?_
              by_cases hk : m0.kind = 1
              · skip
                refine r_region ?_
                refine p_fa fa_37_0 rfl rfl ?_
                refine p_ldc tc_3 rfl (by rfl) rfl ?_
                refine p_eql rfl rfl rfl ?_
                refine o_keep (.c 0 rfl (.c 1 rfl (.c 5 rfl (.c 6 rfl (.c 12 rfl (.c 86 rfl .n)))))) ?_
                refine r_cond _ rfl (fun h7 => ?_) (fun h7 => ?_)
                · skip
                  rw [if_pos hk] at hs
                  refine r_plan (_) ([blk b12 (rM m0) 37]) mo (.c 0 rfl (.c 1 rfl (.c 5 rfl (.c 6 rfl (.c 12 rfl .n))))) (SelB.ent) ?_
                  refine qm_q (i := 0) (l := [.k 5]) rfl rfl rfl rfl (by kernel_rfl) rfl (fun He => PV.rq (pv_fa fa_80_4 (.n rfl) rfl rfl (fun _ => rfl))) ?_
                  refine qm_q (i := 1) (l := [.o 0]) rfl rfl rfl rfl (by kernel_rfl) rfl (fun He => RV.rq (q_ldc tc_4 (.n rfl) rfl rfl (fun _ => rfl) (by rfl))) ?_
                  refine qm_q (i := 2) (l := [.k 12]) rfl rfl rfl rfl (by kernel_rfl) rfl (fun He => PV.rq (pv_fa fa_37_0 (.n rfl) rfl rfl (fun _ => rfl))) ?_
                  refine qm_store (.ofC tc_3) (i := 3) [.o 2] (by kernel_rfl) (by kernel_rfl) rfl rfl rfl (by kernel_rfl) (by kernel_rfl) ⟨_, .n rfl, rfl⟩ rfl rfl rfl rfl rfl rfl (by repeat constructor) ?_
                  refine qm_q (i := 4) (l := [.k 12]) rfl rfl rfl rfl (by kernel_rfl) rfl (fun He => PV.rq (pv_fa fa_37_4 (.n rfl) rfl rfl (fun _ => rfl))) ?_
                  refine qb_store (.ofC tc_4) (i := 5) [.o 4, .o 1] (by kernel_rfl) (by kernel_rfl) rfl rfl rfl (by kernel_rfl) (by kernel_rfl) (by kernel_rfl) ⟨_, .n rfl, rfl⟩ rfl rfl rfl rfl rfl rfl (by repeat constructor) ?_
                  refine qm_n (by kernel_rfl) (by kernel_rfl) (by kernel_rfl) (by kernel_rfl) (.c 0 rfl (.c 1 rfl (.c 6 rfl (.c 12 rfl .n)))) ?_
                  refine r_seq ?_
                  refine r_region ?_
                  refine p_mv rfl rfl ?_
                  refine p_lda ta_37 rfl (by exact (.s (.s (.s (.s (.s (.s .z))))))) rfl ?_
                  refine p_callc cf_18 (.c rfl (.c rfl .n)) rfl (broker_Hear _ b s hI ⟨2, m0.deal, m0.shop, m0.ctr, m0.dl, xy⟩) ?_
                  refine o_keep (.c 1 rfl (.c 6 rfl (.c 12 rfl .n))) ?_
                  refine r_region ?_
                  refine p_mv rfl rfl ?_
                  refine p_lda ta_37 rfl (by exact (.s (.s (.s (.s (.s (.s .z))))))) rfl ?_
                  refine p_callc cf_74 (.c rfl (.c rfl .n)) rfl (book_Hear _ c s hI ⟨2, m0.deal, m0.shop, m0.ctr, m0.dl, xy⟩) ?_
                  refine o_keep (.c 6 rfl .n) ?_
                  refine r_end ?_
                  refine r_seq ?_
                  refine r_region ?_
                  refine p_as rfl rfl ?_
                  refine o_keep (.c 6 rfl .n) ?_
                  refine r_retv hF rfl (.c (.t rfl) .n) ?_ ?_
                  · refine Ent.catI ?_; rw [hs]; refine Ent.c (SelX.ent) ?_; refine Ent.c (SelX.ent) ?_; first | exact Ent.rfl | (repeat (first | exact Ent.rfl | refine Ent.c (SelB.ent) ?_ | refine Ent.c (SelS.ent) ?_ | refine Ent.cN ?_ | refine Ent.c (SelX.ent) ?_ | refine Ent.dropR ?_))
                  · first | rfl | exact bool_eq (by simp)
                · exact absurd hk (of_decide_eq_false h7)
              · skip
                refine r_region ?_
                refine p_fa fa_37_0 rfl rfl ?_
                refine p_ldc tc_3 rfl (by rfl) rfl ?_
                refine p_eql rfl rfl rfl ?_
                refine o_keep (.c 0 rfl (.c 1 rfl (.c 5 rfl (.c 6 rfl (.c 12 rfl (.c 86 rfl .n)))))) ?_
                refine r_cond _ rfl (fun h8 => ?_) (fun h8 => ?_)
                · exact absurd (of_decide_eq_true h8) hk
                · skip
                  rw [if_neg hk] at hs
                  refine r_region ?_
                  refine p_fa fa_37_0 rfl rfl ?_
                  refine p_store (.ofC tc_3) rfl rfl rfl rfl rfl (by repeat constructor) ?_
                  refine o_keep (.c 0 rfl (.c 1 rfl (.c 6 rfl (.c 12 rfl .n)))) ?_
                  refine r_seq ?_
                  refine r_region ?_
                  refine p_mv rfl rfl ?_
                  refine p_lda ta_37 rfl (by exact (.s (.s (.s (.s (.s (.s .z))))))) rfl ?_
                  refine p_callc cf_18 (.c rfl (.c rfl .n)) rfl (broker_Hear _ b s hI ⟨4, m0.deal, m0.shop, m0.ctr, m0.dl, m0.yes⟩) ?_
                  refine o_keep (.c 1 rfl (.c 6 rfl (.c 12 rfl .n))) ?_
                  refine r_region ?_
                  refine p_mv rfl rfl ?_
                  refine p_lda ta_37 rfl (by exact (.s (.s (.s (.s (.s (.s .z))))))) rfl ?_
                  refine p_callc cf_74 (.c rfl (.c rfl .n)) rfl (book_Hear _ c s hI ⟨4, m0.deal, m0.shop, m0.ctr, m0.dl, m0.yes⟩) ?_
                  refine o_keep (.c 6 rfl .n) ?_
                  refine r_end ?_
                  refine r_seq ?_
                  refine r_region ?_
                  refine p_as rfl rfl ?_
                  refine o_keep (.c 6 rfl .n) ?_
                  refine r_retv hF rfl (.c (.t rfl) .n) ?_ ?_
                  · refine Ent.catI ?_; rw [hs]; refine Ent.c (SelX.ent) ?_; refine Ent.c (SelX.ent) ?_; first | exact Ent.rfl | (repeat (first | exact Ent.rfl | refine Ent.c (SelB.ent) ?_ | refine Ent.c (SelS.ent) ?_ | refine Ent.cN ?_ | refine Ent.c (SelX.ent) ?_ | refine Ent.dropR ?_))
                  · first | rfl | exact bool_eq (by simp)
          · skip
            have q4 : ¬ xd = 4 := of_decide_eq_false h5
            have hs : stepBk s ⟨xd, xn, xv, xw, xm, xy⟩ = s := by unfold stepBk; rw [if_neg q0, if_neg q1, if_neg q2, if_neg q3, if_neg q4]
            refine r_skip ?_
            refine r_end ?_
            refine r_seq ?_
            refine r_region ?_
            refine p_as rfl rfl ?_
            refine o_keep (.c 6 rfl .n) ?_
            refine r_retv hF rfl (.c (.t rfl) .n) ?_ ?_
            · refine Ent.catI ?_; rw [hs]; refine Ent.c (SelX.ent) ?_; refine Ent.c (SelX.ent) ?_; first | exact Ent.rfl | (repeat (first | exact Ent.rfl | refine Ent.c (SelB.ent) ?_ | refine Ent.c (SelS.ent) ?_ | refine Ent.cN ?_ | refine Ent.c (SelX.ent) ?_ | refine Ent.dropR ?_))
            · first | rfl | exact bool_eq (by simp)

theorem ref_SameMailB (M : Amb) (H : List HP) (v u : Value) (l k : List Mail) (hv : Rd M H v 6 (l.map rM)) (hu : Rd M H u 6 (k.map rM)) (hb : l.length ≤ 1000) : FnV Try.prog M H 40 [v, u] (.bool (decide (l = k))) := by
  refine fn_intro Try.func40 rfl Try.ntmps40 rfl fun F hF => ?_
  refine r_seq ?_
  refine r_region ?_
  refine p_as rfl rfl ?_
  refine o_keep (.c 0 rfl (.c 1 rfl (.c 4 rfl .n))) ?_
  refine r_seq ?_
  refine r_seq ?_
  refine r_region ?_
  refine p_mv rfl rfl ?_
  refine l_op (x_p (pv_lens hv.len ⟨_, Try.underlying83⟩ (.n rfl) rfl rfl rfl rfl (fun _ => rfl)) rfl rfl ?_)
  refine p_mv rfl rfl ?_
  refine l_op (x_p (pv_lens hu.len ⟨_, Try.underlying83⟩ (.n rfl) rfl rfl rfl rfl (fun _ => rfl)) rfl rfl ?_)
  refine p_neq rfl rfl rfl ?_
  refine o_keep (.c 0 rfl (.c 1 rfl (.c 4 rfl (.c 10 rfl .n)))) ?_
  refine r_cond _ rfl (fun h1 => ?_) (fun h1 => ?_)
  · skip
    have hne : l.length ≠ k.length := by simp at h1; omega
    refine r_seq ?_
    refine r_region ?_
    refine p_as rfl rfl ?_
    refine o_keep (.c 0 rfl (.c 1 rfl (.c 4 rfl .n))) ?_
    refine r_retv hF rfl (.c (.t rfl) .n) ?_ ?_
    · first | exact Ent.rfl | (repeat (first | exact Ent.rfl | refine Ent.c (SelB.ent) ?_ | refine Ent.c (SelS.ent) ?_ | refine Ent.cN ?_ | refine Ent.c (SelX.ent) ?_ | refine Ent.dropR ?_))
    · exact bool_eq (by rw [decide_eq_false]; intro e; exact hne (by rw [e]))
  · skip
    have hlen : l.length = k.length := by simp at h1; omega
    refine r_skip ?_
    refine r_seq ?_
    refine r_seq ?_
    refine r_region ?_
    refine p_as rfl rfl ?_
    refine o_keep (.c 0 rfl (.c 1 rfl (.c 4 rfl (.c 5 rfl .n)))) ?_
    refine r_block ?_
    refine r_loop_1 (fun (i : Nat) => [(5, true, .int .i64 (i : Int))]) (.c 0 rfl (.c 1 rfl (.c 4 rfl .n))) (fun (i : Nat) => H) (fun (i : Nat) => i ≤ l.length ∧ l.take i = k.take i) (fun (i : Nat) => l.length - i) (0) ?_ (.c 5 rfl .n) ?_ (fun i hI => ?_)
    · exact ⟨Nat.zero_le _, by simp⟩
    · first | exact Ent.rfl | (repeat (first | exact Ent.rfl | refine Ent.c (SelB.ent) ?_ | refine Ent.c (SelS.ent) ?_ | refine Ent.cN ?_ | refine Ent.c (SelX.ent) ?_ | refine Ent.dropR ?_))
    · skip
      obtain ⟨hil, hI⟩ := hI
      refine r_seq ?_
      refine r_seq ?_
      refine r_region ?_
      refine p_mv rfl rfl ?_
      refine p_mv rfl rfl ?_
      refine l_op (x_p (pv_lens hv.len ⟨_, Try.underlying83⟩ (.n rfl) rfl rfl rfl rfl (fun _ => rfl)) rfl rfl ?_)
      refine p_lss rfl rfl rfl ?_
      refine o_keep (.c 0 rfl (.c 1 rfl (.c 4 rfl (.c 5 rfl (.c 14 rfl .n))))) ?_
      refine r_cond _ rfl (fun h2 => ?_) (fun h2 => ?_)
      · skip
        have hi : i < l.length := by have := of_decide_eq_true h2; omega
        obtain ⟨x, h1⟩ := getlt hi
        obtain ⟨y, h2⟩ := getlt (l := k) (i := i) (by omega)
        refine r_skip ?_
        refine r_seq ?_
        refine r_block ?_
        refine r_seq ?_
        refine r_plan _ [] mo (.c 0 rfl (.c 1 rfl (.c 4 rfl (.c 5 rfl .n)))) Ent.rfl ?_
        refine qm_q (i := 0) (l := [.k 0]) rfl rfl rfl rfl (by kernel_rfl) rfl (fun He => PV.rq (pv_mv (.n rfl) rfl rfl (fun _ => rfl))) ?_
        refine qm_q (i := 1) (l := [.k 5]) rfl rfl rfl rfl (by kernel_rfl) rfl (fun He => PV.rq (pv_mv (.n rfl) rfl rfl (fun _ => rfl))) ?_
        refine qm_q (i := 2) (l := [.o 0, .o 1]) rfl rfl rfl rfl (by kernel_rfl) rfl (fun He => PV.rq (pv_idx Try.underlying83 (.ofA ta_37) hv (fun hg => ⟨rfl, (mapget h1)⟩) (.n rfl) rfl rfl rfl (fun _ => ⟨rfl, rfl⟩))) ?_
        refine qm_q (i := 3) (l := [.o 2]) rfl rfl rfl rfl (by kernel_rfl) rfl (fun He => RV.rq (rv_ldats (j := 0) ta_37 (Rd.ent hv (by repeat (first | exact Ent.rfl | exact Ent.one Ent.h | exact Ent.one (SelS.ent) | exact Ent.nil | exact Ent.left | refine Ent.dropR ?_ | refine Ent.tr Ent.skip ?_))) (fun hg => (mapget h1)) (.n rfl) rfl rfl (fun _ => rfl) rfl (.s (.s (.s (.s (.s (.s .z)))))))) ?_
        refine qm_q (i := 4) (l := [.k 1]) rfl rfl rfl rfl (by kernel_rfl) rfl (fun He => PV.rq (pv_mv (.n rfl) rfl rfl (fun _ => rfl))) ?_
        refine qm_q (i := 5) (l := [.k 5]) rfl rfl rfl rfl (by kernel_rfl) rfl (fun He => PV.rq (pv_mv (.n rfl) rfl rfl (fun _ => rfl))) ?_
        refine qm_q (i := 6) (l := [.o 4, .o 5]) rfl rfl rfl rfl (by kernel_rfl) rfl (fun He => PV.rq (pv_idx Try.underlying83 (.ofA ta_37) hu (fun hg => ⟨rfl, (mapget h2)⟩) (.n rfl) rfl rfl rfl (fun _ => ⟨rfl, rfl⟩))) ?_
        refine qm_q (i := 7) (l := [.o 6]) rfl rfl rfl rfl (by kernel_rfl) rfl (fun He => RV.rq (rv_ldats (j := 0) ta_37 (Rd.ent hu (by repeat (first | exact Ent.rfl | exact Ent.one Ent.h | exact Ent.one (SelS.ent) | exact Ent.nil | exact Ent.left | refine Ent.dropR ?_ | refine Ent.tr Ent.skip ?_))) (fun hg => (mapget h2)) (.n rfl) rfl rfl (fun _ => rfl) rfl (.s (.s (.s (.s (.s (.s .z)))))))) ?_
        refine qm_q (i := 8) (l := [.o 3, .o 7]) rfl rfl rfl rfl (by kernel_rfl) rfl (fun He => PV.rq (pv_ane (eq_Mail) (.n rfl) rfl rfl rfl (fun _ => ⟨rfl, rfl⟩))) ?_
        refine qm_n (by kernel_rfl) (by kernel_rfl) (by kernel_rfl) (by kernel_rfl) (.c 0 rfl (.c 1 rfl (.c 4 rfl (.c 5 rfl (.c 25 rfl .n))))) ?_
        refine r_cond _ rfl (fun h3 => ?_) (fun h3 => ?_)
        · skip
          have hxy : x ≠ y := by simpa using h3
          refine r_seq ?_
          refine r_region ?_
          refine p_as rfl rfl ?_
          refine o_keep (.c 0 rfl (.c 1 rfl (.c 4 rfl (.c 5 rfl .n)))) ?_
          refine r_retv hF rfl (.c (.t rfl) .n) ?_ ?_
          · first | exact Ent.rfl | (repeat (first | exact Ent.rfl | refine Ent.c (SelB.ent) ?_ | refine Ent.c (SelS.ent) ?_ | refine Ent.cN ?_ | refine Ent.c (SelX.ent) ?_ | refine Ent.dropR ?_))
          · exact bool_eq (by rw [decide_eq_false (same_ne h1 h2 hxy)])
        · skip
          obtain rfl : x = y := by simpa using h3
          refine r_skip ?_
          refine r_end ?_
          refine r_region ?_
          refine p_mv rfl rfl ?_
          refine p_add rfl rfl (by omega) rfl ?_
          refine p_as rfl rfl ?_
          refine o_keep (.c 0 rfl (.c 1 rfl (.c 4 rfl (.c 5 rfl .n)))) ?_
          refine r_back_1 (i + 1) ?_ ?_ (Keep.app (.c 5 rfl .n) (.c 0 rfl (.c 1 rfl (.c 4 rfl .n)))) ?_
          · exact ⟨by omega, same_step hI h1 h2⟩
          · omega
          · first | exact Ent.rfl | (repeat (first | exact Ent.rfl | refine Ent.c (SelB.ent) ?_ | refine Ent.c (SelS.ent) ?_ | refine Ent.cN ?_ | refine Ent.c (SelX.ent) ?_ | refine Ent.dropR ?_))
      · skip
        have hi : l.length ≤ i := by have := of_decide_eq_false h2; omega
        refine r_exit rfl ?_
        refine r_seq ?_
        refine r_region ?_
        refine p_as rfl rfl ?_
        refine o_keep (.c 4 rfl .n) ?_
        refine r_retv hF rfl (.c (.t rfl) .n) ?_ ?_
        · first | exact Ent.rfl | (repeat (first | exact Ent.rfl | refine Ent.c (SelB.ent) ?_ | refine Ent.c (SelS.ent) ?_ | refine Ent.cN ?_ | refine Ent.c (SelX.ent) ?_ | refine Ent.dropR ?_))
        · exact bool_eq (by rw [decide_eq_true (same_fin hlen hI hi)])

theorem law_bstepE (M : Amb) (b c : Nat) (s : BrokS) (hI : BInv s) (x : BkStep) {s1 : BrokS} (h : stepBk s x = s1) (hv : Rd M [] x.wv 2 (x.wants.map rW)) (hb : x.wants.length ≤ 1000) : FnC Try.prog M 38 [ptr b, ptr c, .agg (rBk x).toArray] (.bool true) [brokP b s, bookP c 77 [] s] [brokP b s1, bookP c 77 [] s1] := h ▸ law_bstep M b c s hI x hv hb
theorem rd_nil {M : Amb} {H : List HP} {sz : Nat} : Rd M H (.slice Option.none 0 0) sz (([] : List Want).map rW) :=
  ⟨fun _ h => by simp at h, Option.none, 0, rfl, by simp, by decide, fun _ => ⟨rfl, rfl⟩, fun A h => by cases h⟩
theorem wantsB_leB {b : BrokS} (h : BInv b) (n : Int) : (wantsB b n).length ≤ 4 := by
  unfold wantsB
  split
  · simp
  · split
    · simp
    · rename_i d hd; exact (h.d d (List.mem_of_getElem? hd)).le.1
section opening4
variable {P : Program} {F : Exit → Act → World → Prop} {N : Nat} {M : Amb} {K : List KI} {env : Env} {ops : Array Oper} {rest : List Oper} {H R : List HP} {t : DT} {d : Deal}
theorem o_bdeal (i : Nat) {ts : List DT} {ds : List Deal} (h1 : ts[i]? = some t) (h2 : ds[i]? = some d) [u : SelX H (manyP bdealP ts ds) R] (h : YesR t.ys d → Ops P F N M K ops rest env (bdL t d ++ (restP bdealP ts ds i :: R))) : Ops P F N M K ops rest env H := fun a w hf ho => by
  have ho' := ho.ent (Ent.tr u.ent (many_out h1 h2))
  obtain ⟨hb, hs, g, ⟨x, y, ⟨hy, hx⟩, hr, hd, e⟩, hh⟩ := ho'
  subst e
  exact h hy a w hf ⟨hb, hs, _, sep_app' hx hr hd, hh⟩
end opening4
theorem due_le {s : BrokS} (h : BInv s) : (dueB s).length ≤ 32 := by
  have h1 := dueL_le (l := s.l) (n := 0) h.d
  have := h.len
  change (dueB s).length ≤ _ at h1
  omega

end Go.Proofs.Ytmakdilmibjpbab
