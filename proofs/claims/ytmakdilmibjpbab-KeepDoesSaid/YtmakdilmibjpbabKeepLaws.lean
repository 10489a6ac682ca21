/- The walks of KeepLaws: written by a program of ours (gen.py) over the engine. -/
import Derived.Test.YtmakdilmibjpbabPlain
import Derived.Test.YtmakdilmibjpbabFacts
import Derived.Test.YtmakdilmibjpbabKeepW2
import Derived.Test.YtmakdilmibjpbabShopOth
import Derived.Test.YtmakdilmibjpbabAnn
namespace Go.Proofs.Ytmakdilmibjpbab
open Go Go.RowKit
set_option linter.unusedVariables false
set_option linter.unusedSimpArgs false
set_option maxRecDepth 20000

def kb0 : KeepS := ⟨0, [10, 0, 0, 0, 0, 0], ⟨0, ⟨10, 0, 0⟩, ⟨0, 0, 0⟩, [], []⟩, []⟩
def kbr : Rec := ⟨1, 1, 0, -4, false⟩
def kbe : Rec := ⟨2, 1, 0, 0, true⟩
theorem keep_Replay_E (M : Amb) (no : Int) (ws : List Int) (h6 : ws.length = 6) (v : Value) (l : List Rec) (hv : Rd M [sl v 103 5 (l.map rR)] v 5 (l.map rR)) (hb : l.length ≤ 1000) {s : ShopS} (h : replayS no ws l = (some s, ⟨0, 0⟩)) : FnE (α := Nat) Try.prog M 49 [.int .i64 no, .agg (ws.map vI).toArray, v] [sl v 103 5 (l.map rR)] (fun x => .tuple #[ptr x, .agg (rF ⟨0, 0⟩).toArray]) (fun x => [shopP x s, sl v 103 5 (l.map rR)]) := keep_Replay_some M [sl v 103 5 (l.map rR)] no ws h6 v l hv hb h
theorem kbI0 : KInv kb0 := (KInv.new (no := 0) (ws := [10, 0, 0, 0, 0, 0]) (k := kb0) rfl).1
theorem keep_New_b (M : Amb) : FnE (α := Nat) Try.prog M 51 [.int .i64 0, .agg ([10, 0, 0, 0, 0, 0].map vI).toArray] [] (fun x => ptr x) (fun x => [keepP x kb0]) := keep_New_some M 0 [10, 0, 0, 0, 0, 0] rfl rfl

theorem ref_SameRecords (M : Amb) (H : List HP) (v u : Value) (l k : List Rec) (hv : Rd M H v 5 (l.map rR)) (hu : Rd M H u 5 (k.map rR)) (hb : l.length ≤ 1000) : FnV Try.prog M H 56 [v, u] (.bool (decide (l = k))) := by
  refine fn_intro Try.func56 rfl Try.ntmps56 rfl fun F hF => ?_
  refine r_seq ?_
  refine r_region ?_
  refine p_as rfl rfl ?_
  refine o_keep (.c 0 rfl (.c 1 rfl (.c 4 rfl .n))) ?_
  refine r_seq ?_
  refine r_seq ?_
  refine r_region ?_
  refine p_mv rfl rfl ?_
  refine l_op (x_p (pv_lens hv.len ⟨_, Try.underlying90⟩ (.n rfl) rfl rfl rfl rfl (fun _ => rfl)) rfl rfl ?_)
  refine p_mv rfl rfl ?_
  refine l_op (x_p (pv_lens hu.len ⟨_, Try.underlying90⟩ (.n rfl) rfl rfl rfl rfl (fun _ => rfl)) rfl rfl ?_)
  refine p_neq rfl rfl rfl ?_
  refine o_keep (.c 0 rfl (.c 1 rfl (.c 4 rfl (.c 10 rfl .n)))) ?_
  refine r_cond _ rfl (fun h1 => ?_) (fun h1 => ?_)
  · skip
    have hne : l.length ≠ k.length := by simp at h1; omega
    refine r_seq ?_
    refine r_region ?_
    refine p_as rfl rfl ?_
    refine o_keep (.c 0 rfl (.c 1 rfl (.c 4 rfl .n))) ?_
    refine r_retv hF rfl (.c (.t rfl) .n) ?_ ?_
    · first | exact Ent.rfl | (repeat (first | exact Ent.rfl | refine Ent.c (SelB.ent) ?_ | refine Ent.c (SelS.ent) ?_ | refine Ent.cN ?_ | refine Ent.c (SelX.ent) ?_ | refine Ent.dropR ?_))
    · exact bool_eq (by rw [decide_eq_false]; intro e; exact hne (by rw [e]))
  · skip
    have hlen : l.length = k.length := by simp at h1; omega
    refine r_skip ?_
    refine r_seq ?_
    refine r_seq ?_
    refine r_region ?_
    refine p_as rfl rfl ?_
    refine o_keep (.c 0 rfl (.c 1 rfl (.c 4 rfl (.c 5 rfl .n)))) ?_
    refine r_block ?_
    refine r_loop_1 (fun (i : Nat) => [(5, true, .int .i64 (i : Int))]) (.c 0 rfl (.c 1 rfl (.c 4 rfl .n))) (fun (i : Nat) => H) (fun (i : Nat) => i ≤ l.length ∧ l.take i = k.take i) (fun (i : Nat) => l.length - i) (0) ?_ (.c 5 rfl .n) ?_ (fun i hI => ?_)
    · exact ⟨Nat.zero_le _, by simp⟩
    · first | exact Ent.rfl | (repeat (first | exact Ent.rfl | refine Ent.c (SelB.ent) ?_ | refine Ent.c (SelS.ent) ?_ | refine Ent.cN ?_ | refine Ent.c (SelX.ent) ?_ | refine Ent.dropR ?_))
    · skip
      obtain ⟨hil, hI⟩ := hI
      refine r_seq ?_
      refine r_seq ?_
      refine r_region ?_
      refine p_mv rfl rfl ?_
      refine p_mv rfl rfl ?_
      refine l_op (x_p (pv_lens hv.len ⟨_, Try.underlying90⟩ (.n rfl) rfl rfl rfl rfl (fun _ => rfl)) rfl rfl ?_)
      refine p_lss rfl rfl rfl ?_
      refine o_keep (.c 0 rfl (.c 1 rfl (.c 4 rfl (.c 5 rfl (.c 14 rfl .n))))) ?_
      refine r_cond _ rfl (fun h2 => ?_) (fun h2 => ?_)
      · skip
        have hi : i < l.length := by have := of_decide_eq_true h2; omega
        obtain ⟨x, h1⟩ := getlt hi
        obtain ⟨y, h2⟩ := getlt (l := k) (i := i) (by omega)
        refine r_skip ?_
        refine r_seq ?_
        refine r_block ?_
        refine r_seq ?_
        refine r_plan _ [] mo (.c 0 rfl (.c 1 rfl (.c 4 rfl (.c 5 rfl .n)))) Ent.rfl ?_
        refine qm_q (i := 0) (l := [.k 0]) rfl rfl rfl rfl (by kernel_rfl) rfl (fun He => PV.rq (pv_mv (.n rfl) rfl rfl (fun _ => rfl))) ?_
        refine qm_q (i := 1) (l := [.k 5]) rfl rfl rfl rfl (by kernel_rfl) rfl (fun He => PV.rq (pv_mv (.n rfl) rfl rfl (fun _ => rfl))) ?_
        refine qm_q (i := 2) (l := [.o 0, .o 1]) rfl rfl rfl rfl (by kernel_rfl) rfl (fun He => PV.rq (pv_idx Try.underlying90 (.ofA ta_103) hv (fun hg => ⟨rfl, (mapget h1)⟩) (.n rfl) rfl rfl rfl (fun _ => ⟨rfl, rfl⟩))) ?_
        refine qm_q (i := 3) (l := [.o 2]) rfl rfl rfl rfl (by kernel_rfl) rfl (fun He => RV.rq (rv_ldats (j := 0) ta_103 (Rd.ent hv (by repeat (first | exact Ent.rfl | exact Ent.one Ent.h | exact Ent.one (SelS.ent) | exact Ent.nil | exact Ent.left | refine Ent.dropR ?_ | refine Ent.tr Ent.skip ?_))) (fun hg => (mapget h1)) (.n rfl) rfl rfl (fun _ => rfl) rfl (.s (.s (.s (.s (.s .z))))))) ?_
        refine qm_q (i := 4) (l := [.k 1]) rfl rfl rfl rfl (by kernel_rfl) rfl (fun He => PV.rq (pv_mv (.n rfl) rfl rfl (fun _ => rfl))) ?_
        refine qm_q (i := 5) (l := [.k 5]) rfl rfl rfl rfl (by kernel_rfl) rfl (fun He => PV.rq (pv_mv (.n rfl) rfl rfl (fun _ => rfl))) ?_
        refine qm_q (i := 6) (l := [.o 4, .o 5]) rfl rfl rfl rfl (by kernel_rfl) rfl (fun He => PV.rq (pv_idx Try.underlying90 (.ofA ta_103) hu (fun hg => ⟨rfl, (mapget h2)⟩) (.n rfl) rfl rfl rfl (fun _ => ⟨rfl, rfl⟩))) ?_
        refine qm_q (i := 7) (l := [.o 6]) rfl rfl rfl rfl (by kernel_rfl) rfl (fun He => RV.rq (rv_ldats (j := 0) ta_103 (Rd.ent hu (by repeat (first | exact Ent.rfl | exact Ent.one Ent.h | exact Ent.one (SelS.ent) | exact Ent.nil | exact Ent.left | refine Ent.dropR ?_ | refine Ent.tr Ent.skip ?_))) (fun hg => (mapget h2)) (.n rfl) rfl rfl (fun _ => rfl) rfl (.s (.s (.s (.s (.s .z))))))) ?_
        refine qm_q (i := 8) (l := [.o 3, .o 7]) rfl rfl rfl rfl (by kernel_rfl) rfl (fun He => PV.rq (pv_ane (eq_Record) (.n rfl) rfl rfl rfl (fun _ => ⟨rfl, rfl⟩))) ?_
        refine qm_n (by kernel_rfl) (by kernel_rfl) (by kernel_rfl) (by kernel_rfl) (.c 0 rfl (.c 1 rfl (.c 4 rfl (.c 5 rfl (.c 25 rfl .n))))) ?_
        refine r_cond _ rfl (fun h3 => ?_) (fun h3 => ?_)
        · skip
          have hxy : x ≠ y := by simpa using h3
          refine r_seq ?_
          refine r_region ?_
          refine p_as rfl rfl ?_
          refine o_keep (.c 0 rfl (.c 1 rfl (.c 4 rfl (.c 5 rfl .n)))) ?_
          refine r_retv hF rfl (.c (.t rfl) .n) ?_ ?_
          · first | exact Ent.rfl | (repeat (first | exact Ent.rfl | refine Ent.c (SelB.ent) ?_ | refine Ent.c (SelS.ent) ?_ | refine Ent.cN ?_ | refine Ent.c (SelX.ent) ?_ | refine Ent.dropR ?_))
          · exact bool_eq (by rw [decide_eq_false (same_ne h1 h2 hxy)])
        · skip
          obtain rfl : x = y := by simpa using h3
          refine r_skip ?_
          refine r_end ?_
          refine r_region ?_
          refine p_mv rfl rfl ?_
          refine p_add rfl rfl (by omega) rfl ?_
          refine p_as rfl rfl ?_
          refine o_keep (.c 0 rfl (.c 1 rfl (.c 4 rfl (.c 5 rfl .n)))) ?_
          refine r_back_1 (i + 1) ?_ ?_ (Keep.app (.c 5 rfl .n) (.c 0 rfl (.c 1 rfl (.c 4 rfl .n)))) ?_
          · exact ⟨by omega, same_step hI h1 h2⟩
          · omega
          · first | exact Ent.rfl | (repeat (first | exact Ent.rfl | refine Ent.c (SelB.ent) ?_ | refine Ent.c (SelS.ent) ?_ | refine Ent.cN ?_ | refine Ent.c (SelX.ent) ?_ | refine Ent.dropR ?_))
      · skip
        have hi : l.length ≤ i := by have := of_decide_eq_false h2; omega
        refine r_exit rfl ?_
        refine r_seq ?_
        refine r_region ?_
        refine p_as rfl rfl ?_
        refine o_keep (.c 4 rfl .n) ?_
        refine r_retv hF rfl (.c (.t rfl) .n) ?_ ?_
        · first | exact Ent.rfl | (repeat (first | exact Ent.rfl | refine Ent.c (SelB.ent) ?_ | refine Ent.c (SelS.ent) ?_ | refine Ent.cN ?_ | refine Ent.c (SelX.ent) ?_ | refine Ent.dropR ?_))
        · exact bool_eq (by rw [decide_eq_true (same_fin hlen hI hi)])

theorem law_keepBegun (M : Amb) (H : List HP)  : FnV Try.prog M H 48 [] (.bool true) := by
  refine fn_intro Try.func48 rfl Try.ntmps48 rfl fun F hF => ?_
  refine r_seq ?_
  refine r_region ?_
  refine p_as rfl rfl ?_
  refine o_keep (.c 0 rfl .n) ?_
  refine r_seq ?_
  refine r_region ?_
  refine l_op (x_p (pv_buildA zr_42 Try.underlying42 (.ofC tc_3) (.n rfl) rfl (.c rfl (fun _ => rfl) rfl rfl (by repeat constructor) .n)) rfl rfl ?_)
  refine p_calle cf_51 (.c rfl (.c rfl .n)) rfl (keep_New_b _) fun b1 => ?_
  refine o_cat ?_
  refine p_as rfl rfl ?_
  refine o_keep (.c 0 rfl (.c 1 rfl .n)) ?_
  refine r_seq ?_
  refine r_seq ?_
  refine r_region ?_
  refine p_mv rfl rfl ?_
  refine l_op (x_p (pv_peqn Try.underlying97 (.n rfl) rfl rfl rfl (fun _ => ⟨rfl, rfl⟩)) rfl rfl ?_)
  refine o_keep (.c 0 rfl (.c 1 rfl (.c 11 rfl .n))) ?_
  refine r_cond _ rfl (fun h1 => ?_) (fun h1 => ?_)
  · simp at h1
  · skip
    refine r_skip ?_
    refine r_seq ?_
    refine r_region ?_
    refine p_build zr_103 pl_103 (.c rfl (fun _ => rfl) rfl rfl rfl (by repeat constructor) (.c rfl (fun _ => rfl) rfl rfl rfl (by repeat constructor) (.c rfl (fun _ => rfl) rfl rfl rfl (by repeat constructor) .n))) rfl ?_
    refine p_alloc zr_103 rfl fun b2 => ?_
    refine p_store (.ofA ta_103) rfl rfl rfl (by first | rfl | exact rfl) (by first | rfl | exact rfl) (Ins.whole (by first | rfl | (simp only [List.length_map, List.length_cons, List.length_nil]; omega) | (simp [*]; done) | (simp [*]; rfl))) ?_
    refine o_keep (.c 0 rfl (.c 1 rfl (.c 2 rfl .n))) ?_
    refine r_seq ?_
    refine r_plan (_) ([keepP b1 kb0]) mo (.c 0 rfl (.c 1 rfl (.c 2 rfl .n))) (SelX.ent) ?_
    refine qm_q (i := 0) (l := [.k 1]) rfl rfl rfl rfl (by kernel_rfl) rfl (fun He => PV.rq (pv_mv (.n rfl) rfl rfl (fun _ => rfl))) ?_
    refine qm_q (i := 1) (l := [.k 2]) rfl rfl rfl rfl (by kernel_rfl) rfl (fun He => RV.rq (q_lda ta_103 (.n rfl) rfl rfl (fun _ => rfl) (by exact (Tk.all rfl)))) ?_
    refine qm_q (i := 3) (l := [.k 1]) rfl rfl rfl rfl (by kernel_rfl) rfl (fun He => PV.rq (pv_mv (.n rfl) rfl rfl (fun _ => rfl))) ?_
    refine qm_q (i := 4) (l := [.k 2]) rfl rfl rfl rfl (by kernel_rfl) rfl (fun He => RV.rq (q_lda ta_103 (.n rfl) rfl rfl (fun _ => rfl) (by exact (Tk.all rfl)))) ?_
    refine qm_callc (i := 2) [.o 0, .o 1] (by kernel_rfl) (by kernel_rfl) rfl rfl rfl rfl (by kernel_rfl) (by kernel_rfl) ⟨_, .n rfl, rfl⟩ cf_53 rfl (.c rfl (.c rfl .n)) (keep_Do _ b1 kb0 kbI0 kbr) ?_
    refine qb_callc (i := 5) [.o 3, .o 4] (by kernel_rfl) (by kernel_rfl) rfl rfl rfl rfl (by kernel_rfl) (by kernel_rfl) (by kernel_rfl) ⟨_, .n rfl, rfl⟩ cf_53 rfl (.c rfl (.c rfl .n)) (keep_Do _ b1 (doK kb0 kbr).1 (kbI0.step kbr) kbr) ?_
    refine qm_q (i := 6) (l := [.o 2]) rfl rfl rfl rfl (by kernel_rfl) rfl (fun He => PV.rq (pv_as (.n rfl) rfl rfl (fun _ => rfl))) ?_
    refine qm_q (i := 7) (l := [.o 5]) rfl rfl rfl rfl (by kernel_rfl) rfl (fun He => PV.rq (pv_as (.n rfl) rfl rfl (fun _ => rfl))) ?_
    refine qm_n (by kernel_rfl) (by kernel_rfl) (by kernel_rfl) (by kernel_rfl) (.c 0 rfl (.c 1 rfl (.c 3 rfl (.c 4 rfl .n)))) ?_
    refine r_seq ?_
    refine r_region ?_
    refine p_mv rfl rfl ?_
    refine p_build zr_103 pl_103 (.c rfl (fun _ => rfl) rfl rfl rfl (by repeat constructor) (.c rfl (fun _ => rfl) rfl rfl rfl (by repeat constructor) (.c rfl (fun _ => rfl) rfl rfl rfl (by repeat constructor) .n))) rfl ?_
    refine p_callc cf_53 (.c rfl (.c rfl .n)) rfl (keep_Do _ b1 (doK (doK kb0 kbr).1 kbr).1 ((kbI0.step kbr).step kbr) kbe) ?_
    refine p_as rfl rfl ?_
    refine o_keep (.c 0 rfl (.c 1 rfl (.c 3 rfl (.c 4 rfl (.c 5 rfl .n))))) ?_
    refine r_seq ?_
    refine r_region ?_
    refine p_mv rfl rfl ?_
    refine p_callc cf_55 (.c rfl .n) rfl (keep_Crash _ b1 (doK (doK (doK kb0 kbr).1 kbr).1 kbe).1 (((kbI0.step kbr).step kbr).step kbe)) ?_
    refine o_keep (.c 0 rfl (.c 1 rfl (.c 3 rfl (.c 4 rfl (.c 5 rfl .n))))) ?_
    refine r_seq ?_
    refine r_region ?_
    refine l_op (x_p (pv_buildA zr_42 Try.underlying42 (.ofC tc_3) (.n rfl) rfl (.c rfl (fun _ => rfl) rfl rfl (by repeat constructor) .n)) rfl rfl ?_)
    refine p_mv rfl rfl ?_
    refine p_calle cf_57 (.c rfl .n) rfl (keep_Records _ b1 (doK (doK (doK kb0 kbr).1 kbr).1 kbe).1 (((kbI0.step kbr).step kbr).step kbe)) fun rv => ?_
    refine o_cat ?_
    refine o_rd rv fun hr => ?_
    refine p_calle cf_49 (.c rfl (.c rfl (.c rfl .n))) rfl (keep_Replay_E _ 0 [10, 0, 0, 0, 0, 0] rfl rv (doK (doK (doK kb0 kbr).1 kbr).1 kbe).1.l hr (by decide +kernel) (s := (doK (doK (doK kb0 kbr).1 kbr).1 kbe).1.shop) (((kbI0.step kbr).step kbr).step kbe).crash.2) fun x => ?_
    refine o_cat ?_
    refine p_mv rfl rfl ?_
    refine p_ext rfl rfl rfl ?_
    refine p_ext rfl rfl rfl ?_
    refine p_alloc zr_92 rfl fun b7 => ?_
    refine p_as rfl rfl ?_
    refine p_store (.ofA ta_92) rfl rfl rfl (by first | rfl | exact rfl) (by first | rfl | exact rfl) (Ins.whole (by first | rfl | (simp only [List.length_map, List.length_cons, List.length_nil]; omega) | (simp [*]; done) | (simp [*]; rfl))) ?_
    refine o_keep (.c 0 rfl (.c 1 rfl (.c 3 rfl (.c 4 rfl (.c 5 rfl (.c 6 rfl (.c 7 rfl .n))))))) ?_
    refine r_seq ?_
    refine r_sel (keepP b1 (doK (doK (doK kb0 kbr).1 kbr).1 kbe).1) ?_
    refine r_ex2 fun sb lv => ?_
    refine r_cat ?_
    refine r_rd lv fun hrl => ?_
    refine r_plan _ [] mo (.c 1 rfl (.c 3 rfl (.c 4 rfl (.c 5 rfl (.c 6 rfl (.c 7 rfl .n)))))) Ent.rfl ?_
    refine qm_q (i := 0) (l := [.k 3]) rfl rfl rfl rfl (by kernel_rfl) rfl (fun He => PV.rq (pv_mv (.n rfl) rfl rfl (fun _ => rfl))) ?_
    refine qm_q (i := 1) (l := [.o 0]) rfl rfl rfl rfl (by kernel_rfl) rfl (fun He => PV.rq (pv_eql (.n rfl) rfl rfl rfl (fun _ => ⟨rfl, rfl⟩))) ?_
    refine qm_q (i := 2) (l := [.o 1]) rfl rfl rfl rfl (by kernel_rfl) rfl (fun He => PV.rq (pv_mv (.n rfl) rfl rfl (fun _ => rfl))) ?_
    refine qm_q (i := 3) (l := [.k 4, .o 2]) rfl rfl rfl rfl (by kernel_rfl) rfl (fun He => PV.rq (pv_mv (.s rfl rfl rfl) rfl rfl (by first | exact fun _ => rfl | exact id | exact fun h => (Bool.and_eq_true_iff.1 h).1 | simp_all))) ?_
    refine qm_q (i := 4) (l := [.o 3, .o 2]) rfl rfl rfl rfl (by kernel_rfl) rfl (fun He => PV.rq (pv_eql (.s rfl rfl rfl) rfl rfl rfl (by refine fun h => ⟨?_, ?_⟩ <;> first | rfl | exact h | exact (Bool.and_eq_true_iff.1 h).1 | simp_all))) ?_
    refine qm_q (i := 5) (l := [.o 2, .o 4]) rfl rfl rfl rfl (by kernel_rfl) rfl (fun He => PV.rq (pv_and (.n rfl) rfl rfl rfl (fun _ => ⟨rfl, fun hc => by first | rfl | (rw [hc]; rfl) | simp_all⟩))) ?_
    refine qm_q (i := 6) (l := [.o 5]) rfl rfl rfl rfl (by kernel_rfl) rfl (fun He => PV.rq (pv_mv (.n rfl) rfl rfl (fun _ => rfl))) ?_
    refine qm_q (i := 7) (l := [.k 5, .o 6]) rfl rfl rfl rfl (by kernel_rfl) rfl (fun He => PV.rq (pv_mv (.s rfl rfl rfl) rfl rfl (by first | exact fun _ => rfl | exact id | exact fun h => (Bool.and_eq_true_iff.1 h).1 | simp_all))) ?_
    refine qm_q (i := 8) (l := [.o 7, .o 6]) rfl rfl rfl rfl (by kernel_rfl) rfl (fun He => PV.rq (pv_eql (.s rfl rfl rfl) rfl rfl rfl (by refine fun h => ⟨?_, ?_⟩ <;> first | rfl | exact h | exact (Bool.and_eq_true_iff.1 h).1 | simp_all))) ?_
    refine qm_q (i := 9) (l := [.o 6, .o 8]) rfl rfl rfl rfl (by kernel_rfl) rfl (fun He => PV.rq (pv_and (.n rfl) rfl rfl rfl (fun _ => ⟨rfl, fun hc => by first | rfl | (rw [hc]; rfl) | simp_all⟩))) ?_
    refine qm_q (i := 10) (l := [.o 9]) rfl rfl rfl rfl (by kernel_rfl) rfl (fun He => PV.rq (pv_mv (.n rfl) rfl rfl (fun _ => rfl))) ?_
    refine qm_q (i := 11) (l := [.k 1, .o 10]) rfl rfl rfl rfl (by kernel_rfl) rfl (fun He => PV.rq (pv_mv (.s rfl rfl rfl) rfl rfl (by first | exact fun _ => rfl | exact id | exact fun h => (Bool.and_eq_true_iff.1 h).1 | simp_all))) ?_
    refine qm_calln (i := 12) [.o 11, .o 10] (by kernel_rfl) (by kernel_rfl) rfl rfl rfl rfl (by kernel_rfl) (by kernel_rfl) ⟨_, .s rfl rfl rfl, rfl⟩ cf_57 rfl (.c rfl .n) (keep_Records_oN _ b1 (doK (doK (doK kb0 kbr).1 kbr).1 kbe).1 (((kbI0.step kbr).step kbr).step kbe) sb lv) fun qv => ?_
    refine qm_cat ?_
    refine qm_rd qv fun hq => ?_
    refine qm_keep ?_
    refine qm_q (i := 13) (l := [.o 12, .o 10]) rfl rfl rfl rfl (by kernel_rfl) rfl (fun He => PV.rq (pv_lens (Rd.len hq) ⟨_, Try.underlying90⟩ (.s rfl rfl rfl) rfl rfl rfl rfl (by first | exact fun _ => rfl | exact id | exact fun h => (Bool.and_eq_true_iff.1 h).1 | simp_all))) ?_
    refine qm_q (i := 14) (l := [.o 13, .o 10]) rfl rfl rfl rfl (by kernel_rfl) rfl (fun He => PV.rq (pv_eql (.s rfl rfl rfl) rfl rfl rfl (by refine fun h => ⟨?_, ?_⟩ <;> first | rfl | exact h | exact (Bool.and_eq_true_iff.1 h).1 | simp_all))) ?_
    refine qm_q (i := 15) (l := [.o 10, .o 14]) rfl rfl rfl rfl (by kernel_rfl) rfl (fun He => PV.rq (pv_and (.n rfl) rfl rfl rfl (fun _ => ⟨rfl, fun hc => by first | rfl | (rw [hc]; rfl) | simp_all⟩))) ?_
    refine qm_q (i := 16) (l := [.o 15]) rfl rfl rfl rfl (by kernel_rfl) rfl (fun He => PV.rq (pv_mv (.n rfl) rfl rfl (fun _ => rfl))) ?_
    refine qm_q (i := 17) (l := [.k 1, .o 16]) rfl rfl rfl rfl (by kernel_rfl) rfl (fun He => PV.rq (pv_mv (.s rfl rfl rfl) rfl rfl (by first | exact fun _ => rfl | exact id | exact fun h => (Bool.and_eq_true_iff.1 h).1 | simp_all))) ?_
    refine qm_q (i := 18) (l := [.o 17, .o 16]) rfl rfl rfl rfl (by kernel_rfl) rfl (fun He => PV.rq (pv_nilp (.s rfl rfl rfl) rfl rfl (by first | exact fun _ => rfl | exact id | exact fun h => (Bool.and_eq_true_iff.1 h).1 | simp_all))) ?_
    refine qm_q (i := 19) (l := [.o 18, .o 16]) rfl rfl rfl rfl (by kernel_rfl) rfl (fun He => PV.rq (pv_fa fa_105_0 (.s rfl rfl rfl) rfl rfl (by first | exact fun _ => rfl | exact id | exact fun h => (Bool.and_eq_true_iff.1 h).1 | simp_all))) ?_
    refine qm_q (i := 20) (l := [.o 19, .o 16]) rfl rfl rfl rfl (by kernel_rfl) rfl (fun He => RV.rq (q_ldc tc_44 (.s rfl rfl rfl) rfl rfl (by first | exact fun _ => rfl | exact id | exact fun h => (Bool.and_eq_true_iff.1 h).1 | simp_all) (by rfl))) ?_
    refine qm_q (i := 21) (l := [.o 20, .o 16]) rfl rfl rfl rfl (by kernel_rfl) rfl (fun He => rq_call cf_27 (.s rfl rfl rfl) rfl (.c rfl (by first | exact fun _ => rfl | exact id | exact fun h => (Bool.and_eq_true_iff.1 h).1 | simp_all) .n) (fun hg => (shop_Counts _ sb (doK (doK (doK kb0 kbr).1 kbr).1 kbe).1.shop).q)) ?_
    refine qm_q (i := 22) (l := [.o 21, .o 16]) rfl rfl rfl rfl (by kernel_rfl) rfl (fun He => PV.rq (pv_index (i := 0) Try.underlying52 ta_51 (fun hg => ⟨rfl, by decide⟩) (.s rfl rfl rfl) rfl rfl rfl (by refine fun h => ⟨?_, ?_⟩ <;> first | rfl | exact h | exact (Bool.and_eq_true_iff.1 h).1 | simp_all) (fun hg => rfl))) ?_
    refine qm_q (i := 23) (l := [.o 22, .o 16]) rfl rfl rfl rfl (by kernel_rfl) rfl (fun He => PV.rq (pv_field Try.underlying51 rfl tc_3 (.s rfl rfl rfl) rfl rfl rfl (by first | exact fun _ => rfl | exact id | exact fun h => (Bool.and_eq_true_iff.1 h).1 | simp_all))) ?_
    refine qm_q (i := 24) (l := [.o 23, .o 16]) rfl rfl rfl rfl (by kernel_rfl) rfl (fun He => PV.rq (pv_eql (.s rfl rfl rfl) rfl rfl rfl (by refine fun h => ⟨?_, ?_⟩ <;> first | rfl | exact h | exact (Bool.and_eq_true_iff.1 h).1 | simp_all))) ?_
    refine qm_q (i := 25) (l := [.o 16, .o 24]) rfl rfl rfl rfl (by kernel_rfl) rfl (fun He => PV.rq (pv_and (.n rfl) rfl rfl rfl (fun _ => ⟨rfl, fun hc => by first | rfl | (rw [hc]; rfl) | simp_all⟩))) ?_
    refine qm_q (i := 26) (l := [.o 25]) rfl rfl rfl rfl (by kernel_rfl) rfl (fun He => PV.rq (pv_mv (.n rfl) rfl rfl (fun _ => rfl))) ?_
    refine qm_q (i := 27) (l := [.k 6, .o 26]) rfl rfl rfl rfl (by kernel_rfl) rfl (fun He => PV.rq (pv_mv (.s rfl rfl rfl) rfl rfl (by first | exact fun _ => rfl | exact id | exact fun h => (Bool.and_eq_true_iff.1 h).1 | simp_all))) ?_
    refine qm_q (i := 28) (l := [.o 27, .o 26]) rfl rfl rfl rfl (by kernel_rfl) rfl (fun He => PV.rq (pv_pnen Try.underlying44 (.s rfl rfl rfl) rfl rfl rfl (by refine fun h => ⟨?_, ?_⟩ <;> first | rfl | exact h | exact (Bool.and_eq_true_iff.1 h).1 | simp_all))) ?_
    refine qm_q (i := 29) (l := [.o 26, .o 28]) rfl rfl rfl rfl (by kernel_rfl) rfl (fun He => PV.rq (pv_and (.n rfl) rfl rfl rfl (fun _ => ⟨rfl, fun hc => by first | rfl | (rw [hc]; rfl) | simp_all⟩))) ?_
    refine qm_q (i := 30) (l := [.o 29]) rfl rfl rfl rfl (by kernel_rfl) rfl (fun He => PV.rq (pv_mv (.n rfl) rfl rfl (fun _ => rfl))) ?_
    refine qm_q (i := 31) (l := [.k 7, .o 30]) rfl rfl rfl rfl (by kernel_rfl) rfl (fun He => PV.rq (pv_fa fa_92_0 (.s rfl rfl rfl) rfl rfl (by first | exact fun _ => rfl | exact id | exact fun h => (Bool.and_eq_true_iff.1 h).1 | simp_all))) ?_
    refine qm_q (i := 32) (l := [.o 31, .o 30]) rfl rfl rfl rfl (by kernel_rfl) rfl (fun He => RV.rq (q_ldc tc_3 (.s rfl rfl rfl) rfl rfl (by first | exact fun _ => rfl | exact id | exact fun h => (Bool.and_eq_true_iff.1 h).1 | simp_all) (by rfl))) ?_
    refine qm_q (i := 33) (l := [.o 32, .o 30]) rfl rfl rfl rfl (by kernel_rfl) rfl (fun He => PV.rq (pv_eql (.s rfl rfl rfl) rfl rfl rfl (by refine fun h => ⟨?_, ?_⟩ <;> first | rfl | exact h | exact (Bool.and_eq_true_iff.1 h).1 | simp_all))) ?_
    refine qm_q (i := 34) (l := [.o 30, .o 33]) rfl rfl rfl rfl (by kernel_rfl) rfl (fun He => PV.rq (pv_and (.n rfl) rfl rfl rfl (fun _ => ⟨rfl, fun hc => by first | rfl | (rw [hc]; rfl) | simp_all⟩))) ?_
    refine qm_q (i := 35) (l := [.o 34]) rfl rfl rfl rfl (by kernel_rfl) rfl (fun He => PV.rq (pv_mv (.n rfl) rfl rfl (fun _ => rfl))) ?_
    refine qm_q (i := 36) (l := [.k 6, .o 35]) rfl rfl rfl rfl (by kernel_rfl) rfl (fun He => PV.rq (pv_mv (.s rfl rfl rfl) rfl rfl (by first | exact fun _ => rfl | exact id | exact fun h => (Bool.and_eq_true_iff.1 h).1 | simp_all))) ?_
    refine qm_q (i := 37) (l := [.o 36, .o 35]) rfl rfl rfl rfl (by kernel_rfl) rfl (fun He => rq_call cf_27 (.s rfl rfl rfl) rfl (.c rfl (by first | exact fun _ => rfl | exact id | exact fun h => (Bool.and_eq_true_iff.1 h).1 | simp_all) .n) (fun hg => (shop_Counts _ x (doK (doK (doK kb0 kbr).1 kbr).1 kbe).1.shop).q)) ?_
    refine qm_q (i := 38) (l := [.k 1, .o 35]) rfl rfl rfl rfl (by kernel_rfl) rfl (fun He => PV.rq (pv_mv (.s rfl rfl rfl) rfl rfl (by first | exact fun _ => rfl | exact id | exact fun h => (Bool.and_eq_true_iff.1 h).1 | simp_all))) ?_
    refine qm_q (i := 39) (l := [.o 38, .o 35]) rfl rfl rfl rfl (by kernel_rfl) rfl (fun He => PV.rq (pv_nilp (.s rfl rfl rfl) rfl rfl (by first | exact fun _ => rfl | exact id | exact fun h => (Bool.and_eq_true_iff.1 h).1 | simp_all))) ?_
    refine qm_q (i := 40) (l := [.o 39, .o 35]) rfl rfl rfl rfl (by kernel_rfl) rfl (fun He => PV.rq (pv_fa fa_105_0 (.s rfl rfl rfl) rfl rfl (by first | exact fun _ => rfl | exact id | exact fun h => (Bool.and_eq_true_iff.1 h).1 | simp_all))) ?_
    refine qm_q (i := 41) (l := [.o 40, .o 35]) rfl rfl rfl rfl (by kernel_rfl) rfl (fun He => RV.rq (q_ldc tc_44 (.s rfl rfl rfl) rfl rfl (by first | exact fun _ => rfl | exact id | exact fun h => (Bool.and_eq_true_iff.1 h).1 | simp_all) (by rfl))) ?_
    refine qm_q (i := 42) (l := [.o 41, .o 35]) rfl rfl rfl rfl (by kernel_rfl) rfl (fun He => rq_call cf_27 (.s rfl rfl rfl) rfl (.c rfl (by first | exact fun _ => rfl | exact id | exact fun h => (Bool.and_eq_true_iff.1 h).1 | simp_all) .n) (fun hg => (shop_Counts _ sb (doK (doK (doK kb0 kbr).1 kbr).1 kbe).1.shop).q)) ?_
    refine qm_q (i := 43) (l := [.o 37, .o 42, .o 35]) rfl rfl rfl rfl (by kernel_rfl) rfl (fun He => PV.rq (pv_aeq (eq_Cnts) (.s rfl rfl rfl) rfl rfl rfl (by refine fun h => ⟨?_, ?_⟩ <;> first | rfl | exact h | exact (Bool.and_eq_true_iff.1 h).1 | simp_all))) ?_
    refine qm_q (i := 44) (l := [.o 35, .o 43]) rfl rfl rfl rfl (by kernel_rfl) rfl (fun He => PV.rq (pv_and (.n rfl) rfl rfl rfl (fun _ => ⟨rfl, fun hc => by first | rfl | (rw [hc]; rfl) | simp_all⟩))) ?_
    refine qm_q (i := 45) (l := [.o 44]) rfl rfl rfl rfl (by kernel_rfl) rfl (fun He => PV.rq (pv_mv (.n rfl) rfl rfl (fun _ => rfl))) ?_
    refine qm_q (i := 46) (l := [.k 1, .o 45]) rfl rfl rfl rfl (by kernel_rfl) rfl (fun He => PV.rq (pv_mv (.s rfl rfl rfl) rfl rfl (by first | exact fun _ => rfl | exact id | exact fun h => (Bool.and_eq_true_iff.1 h).1 | simp_all))) ?_
    refine qm_q (i := 47) (l := [.o 45]) rfl rfl rfl rfl (by kernel_rfl) rfl (fun He => PV.rq (pv_build zr_103 pl_103 (.s rfl rfl rfl) rfl (.n))) ?_
    refine qm_q (i := 48) (l := [.o 46, .o 47, .o 45]) rfl rfl rfl rfl (by kernel_rfl) rfl (fun He => rq_call cf_53 (.s rfl rfl rfl) rfl (.c rfl (by first | exact fun _ => rfl | exact id | exact fun h => (Bool.and_eq_true_iff.1 h).1 | simp_all) (.c rfl (by first | exact fun _ => rfl | exact id | exact fun h => (Bool.and_eq_true_iff.1 h).1 | simp_all) .n)) (fun hg => keep_Do_no _ _ b1 ⟨0, 0, 0, 0, false⟩ (by decide))) ?_
    refine qm_q (i := 49) (l := [.o 48, .o 45]) rfl rfl rfl rfl (by kernel_rfl) rfl (fun He => PV.rq (pv_eql (.s rfl rfl rfl) rfl rfl rfl (by refine fun h => ⟨?_, ?_⟩ <;> first | rfl | exact h | exact (Bool.and_eq_true_iff.1 h).1 | simp_all))) ?_
    refine qm_q (i := 50) (l := [.o 45, .o 49]) rfl rfl rfl rfl (by kernel_rfl) rfl (fun He => PV.rq (pv_and (.n rfl) rfl rfl rfl (fun _ => ⟨rfl, fun hc => by first | rfl | (rw [hc]; rfl) | simp_all⟩))) ?_
    refine qm_q (i := 51) (l := [.o 50]) rfl rfl rfl rfl (by kernel_rfl) rfl (fun He => PV.rq (pv_as (.n rfl) rfl rfl (fun _ => rfl))) ?_
    refine qm_n (by kernel_rfl) (by kernel_rfl) (by kernel_rfl) (by kernel_rfl) (.c 0 rfl .n) ?_
    refine r_retv hF rfl (.c (.t rfl) .n) ?_ ?_
    · first | exact Ent.rfl | (repeat (first | exact Ent.rfl | refine Ent.c (SelB.ent) ?_ | refine Ent.c (SelS.ent) ?_ | refine Ent.cN ?_ | refine Ent.c (SelX.ent) ?_ | refine Ent.dropR ?_))
    · exact bool_eq (by simp only [Option.isNone_some, Bool.not_false]; decide +kernel)

theorem law_KeepAgain (M : Amb) (H : List HP) (no : Int) (ws : List Int) (hws : ws.length = 6) (uv : Value) (ls : List Rec) (hu : Rd M [] uv 5 (ls.map rR)) : FnV Try.prog M H 13 [.int .i64 no, .agg (ws.map vI).toArray, uv] (.bool true) := by
  refine fn_intro Try.func13 rfl Try.ntmps13 rfl fun F hF => ?_
  refine r_seq ?_
  refine r_region ?_
  refine p_box rfl rfl rfl fun b4 => ?_
  refine p_as rfl rfl ?_
  refine o_keep (.c 0 rfl (.c 2 rfl (.c 4 rfl (.c 6 rfl .n)))) ?_
  refine r_seq ?_
  refine r_seq ?_
  refine r_region ?_
  refine p_callv cf_48 (.n) rfl (law_keepBegun _ _) ?_
  refine p_not rfl rfl ?_
  refine o_keep (.c 0 rfl (.c 2 rfl (.c 4 rfl (.c 6 rfl (.c 22 rfl .n))))) ?_
  refine r_cond _ rfl (fun h1 => ?_) (fun h1 => ?_)
  · simp at h1
  · skip
    refine r_skip ?_
    refine r_seq ?_
    refine r_seq ?_
    refine r_region ?_
    refine p_mv rfl rfl ?_
    refine l_op (x_p (pv_lens hu.len ⟨_, Try.underlying90⟩ (.n rfl) rfl rfl rfl rfl (fun _ => rfl)) rfl rfl ?_)
    refine p_gtr rfl rfl rfl ?_
    refine o_keep (.c 0 rfl (.c 2 rfl (.c 4 rfl (.c 6 rfl (.c 25 rfl .n))))) ?_
    refine r_cond _ rfl (fun h2 => ?_) (fun h2 => ?_)
    · skip
      refine r_seq ?_
      refine r_region ?_
      refine p_as rfl rfl ?_
      refine o_keep (.c 0 rfl (.c 2 rfl (.c 4 rfl (.c 6 rfl .n)))) ?_
      refine r_retv hF rfl (.c (.t rfl) .n) ?_ ?_
      · first | exact Ent.rfl | (repeat (first | exact Ent.rfl | refine Ent.c (SelB.ent) ?_ | refine Ent.c (SelS.ent) ?_ | refine Ent.cN ?_ | refine Ent.c (SelX.ent) ?_ | refine Ent.dropR ?_))
      · first | rfl | exact bool_eq (by simp)
    · skip
      have hL := of_decide_eq_false h2
      refine r_skip ?_
      refine r_seq ?_
      rcases hn : newS no ws with _ | s0
      · skip
        refine r_region ?_
        refine p_mv rfl rfl ?_
        refine p_lda ta_42 rfl (by exact (Tk.all (by first | rfl | assumption | (simp only [List.drop_zero, List.length_map]; assumption) | (simp [*]; done)))) rfl ?_
        refine p_callc cf_51 (.c rfl (.c rfl .n)) rfl (keep_New_none _ no ws hws hn) ?_
        refine p_as rfl rfl ?_
        refine o_keep (.c 0 rfl (.c 2 rfl (.c 4 rfl (.c 6 rfl (.c 7 rfl .n))))) ?_
        refine r_seq ?_
        refine r_seq ?_
        refine r_region ?_
        refine p_mv rfl rfl ?_
        refine l_op (x_p (pv_peqn Try.underlying97 (.n rfl) rfl rfl rfl (fun _ => ⟨rfl, rfl⟩)) rfl rfl ?_)
        refine o_keep (.c 0 rfl (.c 2 rfl (.c 4 rfl (.c 6 rfl (.c 7 rfl (.c 30 rfl .n)))))) ?_
        refine r_cond _ rfl (fun h3 => ?_) (fun h3 => ?_)
        · skip
          refine r_seq ?_
          refine r_region ?_
          refine p_as rfl rfl ?_
          refine o_keep (.c 0 rfl (.c 2 rfl (.c 4 rfl (.c 6 rfl (.c 7 rfl .n))))) ?_
          refine r_retv hF rfl (.c (.t rfl) .n) ?_ ?_
          · first | exact Ent.rfl | (repeat (first | exact Ent.rfl | refine Ent.c (SelB.ent) ?_ | refine Ent.c (SelS.ent) ?_ | refine Ent.cN ?_ | refine Ent.c (SelX.ent) ?_ | refine Ent.dropR ?_))
          · first | rfl | exact bool_eq (by simp)
        · simp at h3
      · skip
        refine r_region ?_
        refine p_mv rfl rfl ?_
        refine p_lda ta_42 rfl (by exact (Tk.all (by first | rfl | assumption | (simp only [List.drop_zero, List.length_map]; assumption) | (simp [*]; done)))) rfl ?_
        refine p_calle cf_51 (.c rfl (.c rfl .n)) rfl (keep_New_some _ no ws hws hn) fun b7 => ?_
        refine o_cat ?_
        refine p_as rfl rfl ?_
        refine o_keep (.c 0 rfl (.c 2 rfl (.c 4 rfl (.c 6 rfl (.c 7 rfl .n))))) ?_
        refine r_seq ?_
        refine r_seq ?_
        refine r_region ?_
        refine p_mv rfl rfl ?_
        refine l_op (x_p (pv_peqn Try.underlying97 (.n rfl) rfl rfl rfl (fun _ => ⟨rfl, rfl⟩)) rfl rfl ?_)
        refine o_keep (.c 0 rfl (.c 2 rfl (.c 4 rfl (.c 6 rfl (.c 7 rfl (.c 30 rfl .n)))))) ?_
        refine r_cond _ rfl (fun h4 => ?_) (fun h4 => ?_)
        · simp at h4
        · skip
          refine r_skip ?_
          refine r_seq ?_
          refine r_seq ?_
          refine r_region ?_
          refine p_as rfl rfl ?_
          refine o_keep (.c 0 rfl (.c 2 rfl (.c 4 rfl (.c 6 rfl (.c 7 rfl (.c 8 rfl .n)))))) ?_
          refine r_block ?_
          refine r_loop_2 (fun (i : Nat) (k : KeepS) => [(8, true, .int .i64 (i : Int))]) (.c 0 rfl (.c 2 rfl (.c 4 rfl (.c 6 rfl (.c 7 rfl .n))))) (fun (i : Nat) (k : KeepS) => keepP b7 k :: blk b4 (ws.map vI) 42 :: H) (fun (i : Nat) (k : KeepS) => i ≤ ls.length ∧ KInv k ∧ k.no = no ∧ k.ws = ws) (fun (i : Nat) (k : KeepS) => ls.length - i) (0) (⟨no, ws, s0, []⟩) ?_ (.c 8 rfl .n) ?_ (fun i k hI => ?_)
          · exact ⟨Nat.zero_le _, (KInv.new (no := no) (ws := ws) (k := ⟨no, ws, s0, []⟩) (by unfold newK; rw [hn]; rfl)).1, rfl, rfl⟩
          · first | exact Ent.rfl | (repeat (first | exact Ent.rfl | refine Ent.c (SelB.ent) ?_ | refine Ent.c (SelS.ent) ?_ | refine Ent.cN ?_ | refine Ent.c (SelX.ent) ?_ | refine Ent.dropR ?_))
          · skip
            obtain ⟨hil, hK, hk1, hk2⟩ := hI
            refine r_seq ?_
            refine r_seq ?_
            refine r_region ?_
            refine p_mv rfl rfl ?_
            refine p_mv rfl rfl ?_
            refine l_op (x_p (pv_lens hu.len ⟨_, Try.underlying90⟩ (.n rfl) rfl rfl rfl rfl (fun _ => rfl)) rfl rfl ?_)
            refine p_lss rfl rfl rfl ?_
            refine o_keep (.c 0 rfl (.c 2 rfl (.c 4 rfl (.c 6 rfl (.c 7 rfl (.c 8 rfl (.c 34 rfl .n))))))) ?_
            refine r_cond _ rfl (fun h5 => ?_) (fun h5 => ?_)
            · skip
              obtain ⟨r, hr⟩ := getlt (l := ls) (i := i) (by have := of_decide_eq_true h5; omega)
              have hil2 := (List.getElem?_eq_some_iff.1 hr).1
              refine r_skip ?_
              refine r_seq ?_
              refine r_block ?_
              refine r_region ?_
              refine p_mv rfl rfl ?_
              refine p_mv rfl rfl ?_
              refine p_mv rfl rfl ?_
              refine p_idx Try.underlying90 (.ofA ta_103) hu rfl (mapget hr) rfl rfl rfl ?_
              refine p_ldats 0 ta_103 (Rd.ent hu (by repeat (first | exact Ent.rfl | exact Ent.one Ent.h | exact Ent.one (SelS.ent) | exact Ent.nil | exact Ent.left | refine Ent.dropR ?_ | refine Ent.tr Ent.skip ?_))) (mapget hr) rfl rfl (.s (.s (.s (.s (.s .z))))) rfl ?_
              refine p_callc cf_53 (.c rfl (.c rfl .n)) rfl (keep_Do _ b7 k hK r) ?_
              refine o_keep (.c 0 rfl (.c 2 rfl (.c 4 rfl (.c 6 rfl (.c 7 rfl (.c 8 rfl .n)))))) ?_
              refine r_end ?_
              refine r_region ?_
              refine p_mv rfl rfl ?_
              refine p_add rfl rfl (by omega) rfl ?_
              refine p_as rfl rfl ?_
              refine o_keep (.c 0 rfl (.c 2 rfl (.c 4 rfl (.c 6 rfl (.c 7 rfl (.c 8 rfl .n)))))) ?_
              refine r_back_2 (i + 1) ((doK k r).1) ?_ ?_ (Keep.app (.c 8 rfl .n) (.c 0 rfl (.c 2 rfl (.c 4 rfl (.c 6 rfl (.c 7 rfl .n)))))) ?_
              · exact ⟨by omega, hK.step r, hk1, hk2⟩
              · omega
              · first | exact Ent.rfl | (repeat (first | exact Ent.rfl | refine Ent.c (SelB.ent) ?_ | refine Ent.c (SelS.ent) ?_ | refine Ent.cN ?_ | refine Ent.c (SelX.ent) ?_ | refine Ent.dropR ?_))
            · skip
              have hh1 := hK.sh.holds_le
              have hh2 := hK.sh.over_le
              have hh3 := hK.l_le
              have hrep : replayS no ws k.l = (some k.shop, ⟨0, 0⟩) := by have := hK.crash.2; rwa [hk1, hk2] at this
              refine r_exit rfl ?_
              refine r_seq ?_
              refine r_sel (keepP b7 k) ?_
              refine r_ex2 fun sb lv => ?_
              refine r_cat ?_
              refine r_rd lv fun hrl => ?_
              refine r_plan _ [] mo (.c 0 rfl (.c 4 rfl (.c 6 rfl (.c 7 rfl .n)))) Ent.rfl ?_
              refine qm_q (i := 0) (l := [.k 7]) rfl rfl rfl rfl (by kernel_rfl) rfl (fun He => PV.rq (pv_mv (.n rfl) rfl rfl (fun _ => rfl))) ?_
              refine qm_q (i := 1) (l := [.o 0]) rfl rfl rfl rfl (by kernel_rfl) rfl (fun He => PV.rq (pv_nilp (.n rfl) rfl rfl (fun _ => rfl))) ?_
              refine qm_q (i := 2) (l := [.o 1]) rfl rfl rfl rfl (by kernel_rfl) rfl (fun He => PV.rq (pv_fa fa_105_0 (.n rfl) rfl rfl (fun _ => rfl))) ?_
              refine qm_q (i := 3) (l := [.o 2]) rfl rfl rfl rfl (by kernel_rfl) rfl (fun He => RV.rq (q_ldc tc_44 (.n rfl) rfl rfl (fun _ => rfl) (by rfl))) ?_
              refine qm_q (i := 4) (l := [.o 3]) rfl rfl rfl rfl (by kernel_rfl) rfl (fun He => rq_call cf_27 (.n rfl) rfl (.c rfl (fun _ => rfl) .n) (fun hg => (shop_Counts _ sb k.shop).q)) ?_
              refine qm_q (i := 5) (l := [.k 7]) rfl rfl rfl rfl (by kernel_rfl) rfl (fun He => PV.rq (pv_mv (.n rfl) rfl rfl (fun _ => rfl))) ?_
              refine qm_q (i := 6) (l := [.o 5]) rfl rfl rfl rfl (by kernel_rfl) rfl (fun He => PV.rq (pv_nilp (.n rfl) rfl rfl (fun _ => rfl))) ?_
              refine qm_q (i := 7) (l := [.o 6]) rfl rfl rfl rfl (by kernel_rfl) rfl (fun He => PV.rq (pv_fa fa_105_0 (.n rfl) rfl rfl (fun _ => rfl))) ?_
              refine qm_q (i := 8) (l := [.o 7]) rfl rfl rfl rfl (by kernel_rfl) rfl (fun He => RV.rq (q_ldc tc_44 (.n rfl) rfl rfl (fun _ => rfl) (by rfl))) ?_
              refine qm_q (i := 10) (l := [.k 7]) rfl rfl rfl rfl (by kernel_rfl) rfl (fun He => PV.rq (pv_mv (.n rfl) rfl rfl (fun _ => rfl))) ?_
              refine qm_ann (i1 := 9) (i2 := 11) (j := 12) (l1 := [.o 8]) (l2 := [.o 10]) zr_52 (by kernel_rfl) (by kernel_rfl) rfl rfl rfl rfl rfl rfl rfl rfl rfl rfl rfl rfl rfl rfl rfl (by kernel_rfl) (by kernel_rfl) (by kernel_rfl) (fun _ => by kernel_rfl) (fun _ => by kernel_rfl) (fun _ _ => by kernel_rfl) (fun _ _ => by kernel_rfl) (fun _ _ => by kernel_rfl) rfl rfl rfl rfl cf_30 cf_57 rfl rfl (.c rfl .n) (fun _ => (.c rfl .n)) (fun _ => (.c rfl .n)) (fun _ _ => (.c rfl .n)) (fun _ _ => (.c rfl .n)) (shop_HoldsN _ sb k.shop (by omega) (by omega)) (keep_Records_oN _ b7 k hK sb lv) fun hv1 rv1 b9 => ?_
              refine qm_rd hv1 fun hr1 => ?_
              refine qm_rd rv1 fun hq1 => ?_
              refine qb_store (.ofA ta_52) (i := 13) [.o 12, .o 4] (by kernel_rfl) (by kernel_rfl) rfl rfl rfl (by kernel_rfl) (by kernel_rfl) (by kernel_rfl) ⟨_, .n rfl, rfl⟩ rfl rfl rfl rfl (by first | rfl | exact rfl) (by first | rfl | exact (by first | rfl | simp [vI, Value.oneCell'])) (Ins.whole (by first | rfl | (simp only [List.length_map, List.length_cons, List.length_nil]; omega) | (simp [*]; done) | (simp [*]; rfl))) ?_
              refine qm_q (i := 14) (l := [.o 9]) rfl rfl rfl rfl (by kernel_rfl) rfl (fun He => PV.rq (pv_as (.n rfl) rfl rfl (fun _ => rfl))) ?_
              refine qm_q (i := 15) (l := [.o 11]) rfl rfl rfl rfl (by kernel_rfl) rfl (fun He => PV.rq (pv_as (.n rfl) rfl rfl (fun _ => rfl))) ?_
              refine qm_n (by kernel_rfl) (by kernel_rfl) (by kernel_rfl) (by kernel_rfl) (.c 0 rfl (.c 4 rfl (.c 6 rfl (.c 7 rfl (.c 9 rfl (.c 10 rfl (.c 11 rfl .n))))))) ?_
              refine r_seq ?_
              refine r_region ?_
              refine p_alloc zr_70 rfl fun b12 => ?_
              refine p_alloc zr_70 rfl fun b13 => ?_
              refine o_keep (.c 0 rfl (.c 4 rfl (.c 6 rfl (.c 7 rfl (.c 9 rfl (.c 10 rfl (.c 11 rfl (.c 12 rfl (.c 13 rfl .n))))))))) ?_
              refine r_seq ?_
              refine r_seq ?_
              refine r_region ?_
              refine p_as rfl rfl ?_
              refine o_keep (.c 0 rfl (.c 4 rfl (.c 6 rfl (.c 7 rfl (.c 9 rfl (.c 10 rfl (.c 11 rfl (.c 12 rfl (.c 13 rfl (.c 14 rfl .n)))))))))) ?_
              refine r_block ?_
              refine r_loop_3 (fun (i : Nat) (ob db : List Bool) => [(14, true, .int .i64 (i : Int))]) (.c 0 rfl (.c 4 rfl (.c 6 rfl (.c 7 rfl (.c 9 rfl (.c 10 rfl (.c 11 rfl (.c 12 rfl (.c 13 rfl .n))))))))) (fun (i : Nat) (ob db : List Bool) => blk b13 (db.map vB) 70 :: blk b12 (ob.map vB) 70 :: sl rv1 103 5 (k.l.map rR) :: blk b9 (cntL k.shop.c0 ++ cntL k.shop.c1) 52 :: sl hv1 67 3 (k.shop.holds.map rH) :: blk b7 (kpC k sb lv) 105 :: sl lv 103 5 (k.l.map rR) :: shopP sb k.shop :: blk b4 (ws.map vI) 42 :: H) (fun (i : Nat) (ob db : List Bool) => OvI k.shop i ob db) (fun (i : Nat) (ob db : List Bool) => 8 - i) (0) ([false, false, false, false, false, false, false, false]) ([false, false, false, false, false, false, false, false]) ?_ (.c 14 rfl .n) ?_ (fun i ob db hI => ?_)
              · exact ⟨by omega, rfl, rfl, fun j hj => by omega⟩
              · first | exact Ent.rfl | (repeat (first | exact Ent.rfl | refine Ent.c (SelB.ent) ?_ | refine Ent.c (SelS.ent) ?_ | refine Ent.cN ?_ | refine Ent.c (SelX.ent) ?_ | refine Ent.dropR ?_))
              · skip
                refine r_seq ?_
                refine r_seq ?_
                refine r_region ?_
                refine p_mv rfl rfl ?_
                refine p_lss rfl rfl rfl ?_
                refine o_keep (.c 0 rfl (.c 4 rfl (.c 6 rfl (.c 7 rfl (.c 9 rfl (.c 10 rfl (.c 11 rfl (.c 12 rfl (.c 13 rfl (.c 14 rfl (.c 56 rfl .n))))))))))) ?_
                refine r_cond _ rfl (fun h6 => ?_) (fun h6 => ?_)
                · skip
                  have hi8 : i < 8 := by have := of_decide_eq_true h6; omega
                  have hlo := hI.lo
                  have hld := hI.ld
                  refine r_skip ?_
                  refine r_seq ?_
                  refine r_block ?_
                  refine r_region ?_
                  refine p_mv rfl rfl ?_
                  refine p_mv rfl rfl ?_
                  refine p_mv rfl rfl ?_
                  refine p_nil rfl rfl ?_
                  refine p_fa fa_105_0 rfl rfl ?_
                  refine p_ldc tc_44 rfl (by rfl) rfl ?_
                  refine p_mv rfl rfl ?_
                  refine p_callv cf_25 (.c rfl (.c rfl .n)) rfl ((shop_Over _ sb k.shop (by omega) (by omega) (i : Int)).q) ?_
                  refine p_mv rfl rfl ?_
                  refine p_ext rfl rfl rfl ?_
                  refine p_ext rfl rfl rfl ?_
                  refine l_op (x_p (pv_aidx (i := i) Try.underlying70 (.ofC tc_4) (fun hg => ⟨by omega, by omega⟩) (.n rfl) rfl rfl rfl (fun _ => ⟨rfl, rfl⟩)) rfl rfl ?_)
                  refine p_store (.ofC tc_4) rfl rfl rfl rfl rfl (Ins.atm' (f := vB) (i := i) (by omega) (by omega)) ?_
                  refine l_op (x_p (pv_aidx (i := i) Try.underlying70 (.ofC tc_4) (fun hg => ⟨by omega, by omega⟩) (.n rfl) rfl rfl rfl (fun _ => ⟨rfl, rfl⟩)) rfl rfl ?_)
                  refine p_store (.ofC tc_4) rfl rfl rfl rfl rfl (Ins.atm' (f := vB) (i := i) (by omega) (by omega)) ?_
                  refine o_keep (.c 0 rfl (.c 4 rfl (.c 6 rfl (.c 7 rfl (.c 9 rfl (.c 10 rfl (.c 11 rfl (.c 12 rfl (.c 13 rfl (.c 14 rfl .n)))))))))) ?_
                  refine r_end ?_
                  refine r_region ?_
                  refine p_mv rfl rfl ?_
                  refine p_add rfl rfl (by omega) rfl ?_
                  refine p_as rfl rfl ?_
                  refine o_keep (.c 0 rfl (.c 4 rfl (.c 6 rfl (.c 7 rfl (.c 9 rfl (.c 10 rfl (.c 11 rfl (.c 12 rfl (.c 13 rfl (.c 14 rfl .n)))))))))) ?_
                  refine r_back_3 (i + 1) (ob.set i (overL k.shop.over (i : Int)).isSome) (db.set i ((overL k.shop.over (i : Int)).getD false)) ?_ ?_ (Keep.app (.c 14 rfl .n) (.c 0 rfl (.c 4 rfl (.c 6 rfl (.c 7 rfl (.c 9 rfl (.c 10 rfl (.c 11 rfl (.c 12 rfl (.c 13 rfl .n)))))))))) ?_
                  · exact hI.next hi8
                  · omega
                  · first | exact Ent.rfl | (repeat (first | exact Ent.rfl | refine Ent.c (SelB.ent) ?_ | refine Ent.c (SelS.ent) ?_ | refine Ent.cN ?_ | refine Ent.c (SelX.ent) ?_ | refine Ent.dropR ?_))
                · skip
                  have hi8 : i = 8 := by have := of_decide_eq_false h6; have := hI.le; omega
                  subst hi8
                  have hOv := hI
                  refine r_exit rfl ?_
                  refine r_seq ?_
                  refine r_region ?_
                  refine p_mv rfl rfl ?_
                  refine p_lda ta_42 rfl (by exact (Tk.all (by first | rfl | assumption | (simp only [List.drop_zero, List.length_map]; assumption) | (simp [*]; done)))) rfl ?_
                  refine p_mv rfl rfl ?_
                  refine p_calle cf_49 (.c rfl (.c rfl (.c rfl .n))) rfl (keep_Replay_E _ no ws hws rv1 k.l hq1 (by omega) hrep) fun x => ?_
                  refine o_cat ?_
                  refine p_mv rfl rfl ?_
                  refine p_ext rfl rfl rfl ?_
                  refine p_ext rfl rfl rfl ?_
                  refine p_alloc zr_92 rfl fun b16 => ?_
                  refine p_as rfl rfl ?_
                  refine p_store (.ofA ta_92) rfl rfl rfl (by first | rfl | exact rfl) (by first | rfl | exact (by first | rfl | simp [vI, Value.oneCell'])) (Ins.whole (by first | rfl | (simp only [List.length_map, List.length_cons, List.length_nil]; omega) | (simp [*]; done) | (simp [*]; rfl))) ?_
                  refine o_keep (.c 6 rfl (.c 7 rfl (.c 9 rfl (.c 10 rfl (.c 11 rfl (.c 12 rfl (.c 13 rfl (.c 15 rfl (.c 16 rfl .n))))))))) ?_
                  refine r_seq ?_
                  refine r_seq ?_
                  refine r_plan _ [] mo (.c 6 rfl (.c 7 rfl (.c 9 rfl (.c 10 rfl (.c 11 rfl (.c 12 rfl (.c 13 rfl (.c 15 rfl (.c 16 rfl .n))))))))) Ent.rfl ?_
                  refine qm_q (i := 0) (l := [.k 15]) rfl rfl rfl rfl (by kernel_rfl) rfl (fun He => PV.rq (pv_mv (.n rfl) rfl rfl (fun _ => rfl))) ?_
                  refine qm_q (i := 1) (l := [.o 0]) rfl rfl rfl rfl (by kernel_rfl) rfl (fun He => PV.rq (pv_peqn Try.underlying44 (.n rfl) rfl rfl rfl (fun _ => ⟨rfl, rfl⟩))) ?_
                  refine qm_q (i := 2) (l := [.o 1]) rfl rfl rfl rfl (by kernel_rfl) rfl (fun He => PV.rq (pv_mv (.n rfl) rfl rfl (fun _ => rfl))) ?_
                  refine qm_q (i := 3) (l := [.k 16, .o 2]) rfl rfl rfl rfl (by kernel_rfl) rfl (fun He => PV.rq (pv_fa fa_92_0 (.s rfl rfl rfl) rfl rfl (by first | exact fun _ => rfl | exact id | exact fun h => (Bool.and_eq_true_iff.1 h).1 | simp_all))) ?_
                  refine qm_q (i := 4) (l := [.o 3, .o 2]) rfl rfl rfl rfl (by kernel_rfl) rfl (fun He => RV.rq (q_ldc tc_3 (.s rfl rfl rfl) rfl rfl (by first | exact fun _ => rfl | exact id | exact fun h => (Bool.and_eq_true_iff.1 h).1 | simp_all) (by rfl))) ?_
                  refine qm_q (i := 5) (l := [.o 4, .o 2]) rfl rfl rfl rfl (by kernel_rfl) rfl (fun He => PV.rq (pv_neq (.s rfl rfl rfl) rfl rfl rfl (by refine fun h => ⟨?_, ?_⟩ <;> first | rfl | exact h | exact (Bool.and_eq_true_iff.1 h).1 | simp_all))) ?_
                  refine qm_q (i := 6) (l := [.o 2, .o 5]) rfl rfl rfl rfl (by kernel_rfl) rfl (fun He => PV.rq (pv_or (.n rfl) rfl rfl rfl (fun _ => ⟨rfl, fun hc => by first | rfl | (rw [hc]; rfl) | simp_all⟩))) ?_
                  refine qm_q (i := 7) (l := [.o 6]) rfl rfl rfl rfl (by kernel_rfl) rfl (fun He => PV.rq (pv_mv (.n rfl) rfl rfl (fun _ => rfl))) ?_
                  refine qm_q (i := 8) (l := [.k 15, .o 7]) rfl rfl rfl rfl (by kernel_rfl) rfl (fun He => PV.rq (pv_mv (.s rfl rfl rfl) rfl rfl (by first | exact fun _ => rfl | exact id | exact fun h => (Bool.and_eq_true_iff.1 h).1 | simp_all))) ?_
                  refine qm_q (i := 9) (l := [.o 8, .o 7]) rfl rfl rfl rfl (by kernel_rfl) rfl (fun He => rq_call cf_27 (.s rfl rfl rfl) rfl (.c rfl (by first | exact fun _ => rfl | exact id | exact fun h => (Bool.and_eq_true_iff.1 h).1 | simp_all) .n) (fun hg => (shop_Counts _ x k.shop).q)) ?_
                  refine qm_q (i := 10) (l := [.k 9, .o 7]) rfl rfl rfl rfl (by kernel_rfl) rfl (fun He => RV.rq (q_lda ta_52 (.s rfl rfl rfl) rfl rfl (by first | exact fun _ => rfl | exact id | exact fun h => (Bool.and_eq_true_iff.1 h).1 | simp_all) (by exact (Tk.all rfl)))) ?_
                  refine qm_q (i := 11) (l := [.o 9, .o 10, .o 7]) rfl rfl rfl rfl (by kernel_rfl) rfl (fun He => PV.rq (pv_to (pv_ane eq_Cnts (.s rfl rfl rfl) rfl rfl rfl (by refine fun h => ⟨?_, ?_⟩ <;> first | rfl | exact h | exact (Bool.and_eq_true_iff.1 h).1 | simp_all)) (show _ = Value.bool false by simp))) ?_
                  refine qm_q (i := 12) (l := [.o 7, .o 11]) rfl rfl rfl rfl (by kernel_rfl) rfl (fun He => PV.rq (pv_or (.n rfl) rfl rfl rfl (fun _ => ⟨rfl, fun hc => by first | rfl | (rw [hc]; rfl) | simp_all⟩))) ?_
                  refine qm_q (i := 13) (l := [.o 12]) rfl rfl rfl rfl (by kernel_rfl) rfl (fun He => PV.rq (pv_mv (.n rfl) rfl rfl (fun _ => rfl))) ?_
                  refine qm_q (i := 14) (l := [.k 15, .o 13]) rfl rfl rfl rfl (by kernel_rfl) rfl (fun He => PV.rq (pv_mv (.s rfl rfl rfl) rfl rfl (by first | exact fun _ => rfl | exact id | exact fun h => (Bool.and_eq_true_iff.1 h).1 | simp_all))) ?_
                  refine qm_q (i := 16) (l := [.k 10, .o 13]) rfl rfl rfl rfl (by kernel_rfl) rfl (fun He => PV.rq (pv_mv (.s rfl rfl rfl) rfl rfl (by first | exact fun _ => rfl | exact id | exact fun h => (Bool.and_eq_true_iff.1 h).1 | simp_all))) ?_
                  refine qm_calln (i := 15) [.o 14, .o 13] (by kernel_rfl) (by kernel_rfl) rfl rfl rfl rfl (by kernel_rfl) (by kernel_rfl) ⟨_, .s rfl rfl rfl, rfl⟩ cf_30 rfl (.c rfl .n) (shop_HoldsN _ x k.shop (by omega) (by omega)) fun hv2 => ?_
                  refine qm_cat ?_
                  refine qm_rd hv2 fun hr2 => ?_
                  refine qm_keep ?_
                  refine qm_q (i := 17) (l := [.o 15, .o 16, .o 13]) rfl rfl rfl rfl (by kernel_rfl) rfl (fun He => rq_call cf_29 (.s rfl rfl rfl) rfl (.c rfl (by first | exact fun _ => rfl | exact id | exact fun h => (Bool.and_eq_true_iff.1 h).1 | simp_all) (.c rfl (by first | exact fun _ => rfl | exact id | exact fun h => (Bool.and_eq_true_iff.1 h).1 | simp_all) .n)) (fun hg => ref_SameHolds _ _ _ _ k.shop.holds k.shop.holds hr2.own hr1.own (by omega))) ?_
                  refine qm_q (i := 18) (l := [.o 17, .o 13]) rfl rfl rfl rfl (by kernel_rfl) rfl (fun He => PV.rq (pv_not (.s rfl rfl rfl) rfl rfl (by first | exact fun _ => rfl | exact id | exact fun h => (Bool.and_eq_true_iff.1 h).1 | simp_all))) ?_
                  refine qm_q (i := 19) (l := [.o 13, .o 18]) rfl rfl rfl rfl (by kernel_rfl) rfl (fun He => PV.rq (pv_or (.n rfl) rfl rfl rfl (fun _ => ⟨rfl, fun hc => by first | rfl | (rw [hc]; rfl) | simp_all⟩))) ?_
                  refine qm_n (by kernel_rfl) (by kernel_rfl) (by kernel_rfl) (by kernel_rfl) (.c 6 rfl (.c 7 rfl (.c 9 rfl (.c 10 rfl (.c 11 rfl (.c 12 rfl (.c 13 rfl (.c 98 rfl .n)))))))) ?_
                  refine r_cond _ rfl (fun h7 => ?_) (fun h7 => ?_)
                  · simp at h7
                  · skip
                    refine r_skip ?_
                    refine r_seq ?_
                    refine r_seq ?_
                    refine r_region ?_
                    refine p_as rfl rfl ?_
                    refine o_keep (.c 6 rfl (.c 7 rfl (.c 9 rfl (.c 10 rfl (.c 11 rfl (.c 12 rfl (.c 13 rfl (.c 17 rfl .n)))))))) ?_
                    refine r_block ?_
                    refine r_loop_1 (fun (i : Nat) => [(17, true, .int .i64 (i : Int))]) (.c 6 rfl (.c 7 rfl (.c 9 rfl (.c 10 rfl (.c 11 rfl (.c 12 rfl (.c 13 rfl .n))))))) (fun (i : Nat) => keepP b7 k :: blk b13 (db.map vB) 70 :: blk b12 (ob.map vB) 70 :: sl rv1 103 5 (k.l.map rR) :: blk b9 (cntL k.shop.c0 ++ cntL k.shop.c1) 52 :: sl hv1 67 3 (k.shop.holds.map rH) :: blk b4 (ws.map vI) 42 :: H) (fun (i : Nat) => i ≤ 2) (fun (i : Nat) => 2 - i) (0) ?_ (.c 17 rfl .n) ?_ (fun i hI => ?_)
                    · exact Nat.zero_le _
                    · refine Ent.c (keepP_close sb lv rfl rfl) ?_; first | exact Ent.rfl | (repeat (first | exact Ent.rfl | refine Ent.c (SelB.ent) ?_ | refine Ent.c (SelS.ent) ?_ | refine Ent.cN ?_ | refine Ent.c (SelX.ent) ?_ | refine Ent.dropR ?_))
                    · skip
                      have hil := hI
                      refine r_seq ?_
                      refine r_seq ?_
                      refine r_region ?_
                      refine p_mv rfl rfl ?_
                      refine p_lss rfl rfl rfl ?_
                      refine o_keep (.c 6 rfl (.c 7 rfl (.c 9 rfl (.c 10 rfl (.c 11 rfl (.c 12 rfl (.c 13 rfl (.c 17 rfl (.c 100 rfl .n))))))))) ?_
                      refine r_cond _ rfl (fun h8 => ?_) (fun h8 => ?_)
                      · skip
                        have hi2 : i < 2 := by have := of_decide_eq_true h8; omega
                        refine r_skip ?_
                        refine r_seq ?_
                        refine r_block ?_
                        refine r_seq ?_
                        refine r_region ?_
                        refine p_mv rfl rfl ?_
                        refine p_callc cf_55 (.c rfl .n) rfl (keep_Crash _ b7 k hK) ?_
                        refine o_keep (.c 6 rfl (.c 7 rfl (.c 9 rfl (.c 10 rfl (.c 11 rfl (.c 12 rfl (.c 13 rfl (.c 17 rfl .n)))))))) ?_
                        refine r_seq ?_
                        refine r_seq ?_
                        refine r_sel (keepP b7 k) ?_
                        refine r_ex2 fun sb lv => ?_
                        refine r_cat ?_
                        refine r_rd lv fun hrl => ?_
                        refine r_plan _ [] mo (.c 6 rfl (.c 7 rfl (.c 9 rfl (.c 10 rfl (.c 11 rfl (.c 12 rfl (.c 13 rfl (.c 17 rfl .n)))))))) Ent.rfl ?_
                        refine qm_q (i := 0) (l := [.k 7]) rfl rfl rfl rfl (by kernel_rfl) rfl (fun He => PV.rq (pv_mv (.n rfl) rfl rfl (fun _ => rfl))) ?_
                        refine qm_q (i := 1) (l := [.o 0]) rfl rfl rfl rfl (by kernel_rfl) rfl (fun He => PV.rq (pv_nilp (.n rfl) rfl rfl (fun _ => rfl))) ?_
                        refine qm_q (i := 2) (l := [.o 1]) rfl rfl rfl rfl (by kernel_rfl) rfl (fun He => PV.rq (pv_fa fa_105_0 (.n rfl) rfl rfl (fun _ => rfl))) ?_
                        refine qm_q (i := 3) (l := [.o 2]) rfl rfl rfl rfl (by kernel_rfl) rfl (fun He => RV.rq (q_ldc tc_44 (.n rfl) rfl rfl (fun _ => rfl) (by rfl))) ?_
                        refine qm_q (i := 4) (l := [.o 3]) rfl rfl rfl rfl (by kernel_rfl) rfl (fun He => rq_call cf_27 (.n rfl) rfl (.c rfl (fun _ => rfl) .n) (fun hg => (shop_Counts _ sb k.shop).q)) ?_
                        refine qm_q (i := 5) (l := [.k 9]) rfl rfl rfl rfl (by kernel_rfl) rfl (fun He => RV.rq (q_lda ta_52 (.n rfl) rfl rfl (fun _ => rfl) (by exact (Tk.all rfl)))) ?_
                        refine qm_q (i := 6) (l := [.o 4, .o 5]) rfl rfl rfl rfl (by kernel_rfl) rfl (fun He => PV.rq (pv_to (pv_ane eq_Cnts (.n rfl) rfl rfl rfl (fun _ => ⟨rfl, rfl⟩)) (show _ = Value.bool false by simp))) ?_
                        refine qm_q (i := 7) (l := [.o 6]) rfl rfl rfl rfl (by kernel_rfl) rfl (fun He => PV.rq (pv_mv (.n rfl) rfl rfl (fun _ => rfl))) ?_
                        refine qm_q (i := 8) (l := [.k 7, .o 7]) rfl rfl rfl rfl (by kernel_rfl) rfl (fun He => PV.rq (pv_mv (.s rfl rfl rfl) rfl rfl (by first | exact fun _ => rfl | exact id | exact fun h => (Bool.and_eq_true_iff.1 h).1 | simp_all))) ?_
                        refine qm_q (i := 9) (l := [.o 8, .o 7]) rfl rfl rfl rfl (by kernel_rfl) rfl (fun He => PV.rq (pv_nilp (.s rfl rfl rfl) rfl rfl (by first | exact fun _ => rfl | exact id | exact fun h => (Bool.and_eq_true_iff.1 h).1 | simp_all))) ?_
                        refine qm_q (i := 10) (l := [.o 9, .o 7]) rfl rfl rfl rfl (by kernel_rfl) rfl (fun He => PV.rq (pv_fa fa_105_0 (.s rfl rfl rfl) rfl rfl (by first | exact fun _ => rfl | exact id | exact fun h => (Bool.and_eq_true_iff.1 h).1 | simp_all))) ?_
                        refine qm_q (i := 11) (l := [.o 10, .o 7]) rfl rfl rfl rfl (by kernel_rfl) rfl (fun He => RV.rq (q_ldc tc_44 (.s rfl rfl rfl) rfl rfl (by first | exact fun _ => rfl | exact id | exact fun h => (Bool.and_eq_true_iff.1 h).1 | simp_all) (by rfl))) ?_
                        refine qm_q (i := 13) (l := [.k 10, .o 7]) rfl rfl rfl rfl (by kernel_rfl) rfl (fun He => PV.rq (pv_mv (.s rfl rfl rfl) rfl rfl (by first | exact fun _ => rfl | exact id | exact fun h => (Bool.and_eq_true_iff.1 h).1 | simp_all))) ?_
                        refine qm_calln (i := 12) [.o 11, .o 7] (by kernel_rfl) (by kernel_rfl) rfl rfl rfl rfl (by kernel_rfl) (by kernel_rfl) ⟨_, .s rfl rfl rfl, rfl⟩ cf_30 rfl (.c rfl .n) (shop_HoldsN _ sb k.shop (by omega) (by omega)) fun hv3 => ?_
                        refine qm_cat ?_
                        refine qm_rd hv3 fun hr3 => ?_
                        refine qm_keep ?_
                        refine qm_q (i := 14) (l := [.o 12, .o 13, .o 7]) rfl rfl rfl rfl (by kernel_rfl) rfl (fun He => rq_call cf_29 (.s rfl rfl rfl) rfl (.c rfl (by first | exact fun _ => rfl | exact id | exact fun h => (Bool.and_eq_true_iff.1 h).1 | simp_all) (.c rfl (by first | exact fun _ => rfl | exact id | exact fun h => (Bool.and_eq_true_iff.1 h).1 | simp_all) .n)) (fun hg => fnv_tru (ref_SameHolds _ _ _ _ k.shop.holds k.shop.holds hr3.own hr1.own (by omega)))) ?_
                        refine qm_q (i := 15) (l := [.o 14, .o 7]) rfl rfl rfl rfl (by kernel_rfl) rfl (fun He => PV.rq (pv_not (.s rfl rfl rfl) rfl rfl (by first | exact fun _ => rfl | exact id | exact fun h => (Bool.and_eq_true_iff.1 h).1 | simp_all))) ?_
                        refine qm_q (i := 16) (l := [.o 7, .o 15]) rfl rfl rfl rfl (by kernel_rfl) rfl (fun He => PV.rq (pv_or (.n rfl) rfl rfl rfl (fun _ => ⟨rfl, fun hc => by first | rfl | (rw [hc]; rfl) | simp_all⟩))) ?_
                        refine qm_q (i := 17) (l := [.o 16]) rfl rfl rfl rfl (by kernel_rfl) rfl (fun He => PV.rq (pv_mv (.n rfl) rfl rfl (fun _ => rfl))) ?_
                        refine qm_q (i := 18) (l := [.k 7, .o 17]) rfl rfl rfl rfl (by kernel_rfl) rfl (fun He => PV.rq (pv_mv (.s rfl rfl rfl) rfl rfl (by first | exact fun _ => rfl | exact id | exact fun h => (Bool.and_eq_true_iff.1 h).1 | simp_all))) ?_
                        refine qm_q (i := 20) (l := [.k 11, .o 17]) rfl rfl rfl rfl (by kernel_rfl) rfl (fun He => PV.rq (pv_mv (.s rfl rfl rfl) rfl rfl (by first | exact fun _ => rfl | exact id | exact fun h => (Bool.and_eq_true_iff.1 h).1 | simp_all))) ?_
                        refine qm_calln (i := 19) [.o 18, .o 17] (by kernel_rfl) (by kernel_rfl) rfl rfl rfl rfl (by kernel_rfl) (by kernel_rfl) ⟨_, .s rfl rfl rfl, rfl⟩ cf_57 rfl (.c rfl .n) (keep_Records_oN _ b7 k hK sb lv) fun rv3 => ?_
                        refine qm_cat ?_
                        refine qm_rd rv3 fun hq3 => ?_
                        refine qm_keep ?_
                        refine qm_q (i := 21) (l := [.o 19, .o 20, .o 17]) rfl rfl rfl rfl (by kernel_rfl) rfl (fun He => rq_call cf_56 (.s rfl rfl rfl) rfl (.c rfl (by first | exact fun _ => rfl | exact id | exact fun h => (Bool.and_eq_true_iff.1 h).1 | simp_all) (.c rfl (by first | exact fun _ => rfl | exact id | exact fun h => (Bool.and_eq_true_iff.1 h).1 | simp_all) .n)) (fun hg => ref_SameRecords _ _ _ _ k.l k.l hq3.own hq1.own (by omega))) ?_
                        refine qm_q (i := 22) (l := [.o 21, .o 17]) rfl rfl rfl rfl (by kernel_rfl) rfl (fun He => PV.rq (pv_not (.s rfl rfl rfl) rfl rfl (by first | exact fun _ => rfl | exact id | exact fun h => (Bool.and_eq_true_iff.1 h).1 | simp_all))) ?_
                        refine qm_q (i := 23) (l := [.o 17, .o 22]) rfl rfl rfl rfl (by kernel_rfl) rfl (fun He => PV.rq (pv_or (.n rfl) rfl rfl rfl (fun _ => ⟨rfl, fun hc => by first | rfl | (rw [hc]; rfl) | simp_all⟩))) ?_
                        refine qm_n (by kernel_rfl) (by kernel_rfl) (by kernel_rfl) (by kernel_rfl) (.c 6 rfl (.c 7 rfl (.c 9 rfl (.c 10 rfl (.c 11 rfl (.c 12 rfl (.c 13 rfl (.c 17 rfl (.c 128 rfl .n))))))))) ?_
                        refine r_cond _ rfl (fun h9 => ?_) (fun h9 => ?_)
                        · simp at h9
                        · skip
                          refine r_skip ?_
                          refine r_seq ?_
                          refine r_region ?_
                          refine p_as rfl rfl ?_
                          refine o_keep (.c 6 rfl (.c 7 rfl (.c 9 rfl (.c 10 rfl (.c 11 rfl (.c 12 rfl (.c 13 rfl (.c 17 rfl (.c 18 rfl .n))))))))) ?_
                          refine r_block ?_
                          refine r_loop_1 (fun (j : Nat) => [(18, true, .int .i64 (j : Int))]) (.c 6 rfl (.c 7 rfl (.c 9 rfl (.c 10 rfl (.c 11 rfl (.c 12 rfl (.c 13 rfl (.c 17 rfl .n)))))))) (fun (j : Nat) => blk b13 (db.map vB) 70 :: blk b12 (ob.map vB) 70 :: sl rv1 103 5 (k.l.map rR) :: blk b9 (cntL k.shop.c0 ++ cntL k.shop.c1) 52 :: sl hv1 67 3 (k.shop.holds.map rH) :: blk b7 (kpC k sb lv) 105 :: sl lv 103 5 (k.l.map rR) :: shopP sb k.shop :: blk b4 (ws.map vI) 42 :: H) (fun (j : Nat) => j ≤ 8) (fun (j : Nat) => 8 - j) (0) ?_ (.c 18 rfl .n) ?_ (fun j hI => ?_)
                          · exact Nat.zero_le _
                          · first | exact Ent.rfl | (repeat (first | exact Ent.rfl | refine Ent.c (SelB.ent) ?_ | refine Ent.c (SelS.ent) ?_ | refine Ent.cN ?_ | refine Ent.c (SelX.ent) ?_ | refine Ent.dropR ?_))
                          · skip
                            have hjl := hI
                            refine r_seq ?_
                            refine r_seq ?_
                            refine r_region ?_
                            refine p_mv rfl rfl ?_
                            refine p_lss rfl rfl rfl ?_
                            refine o_keep (.c 6 rfl (.c 7 rfl (.c 9 rfl (.c 10 rfl (.c 11 rfl (.c 12 rfl (.c 13 rfl (.c 17 rfl (.c 18 rfl (.c 130 rfl .n)))))))))) ?_
                            refine r_cond _ rfl (fun h10 => ?_) (fun h10 => ?_)
                            · skip
                              have hj8 : j < 8 := by have := of_decide_eq_true h10; omega
                              have hoi := hOv.at' j hj8
                              have hlo := hOv.lo
                              have hld := hOv.ld
                              refine r_skip ?_
                              refine r_seq ?_
                              refine r_block ?_
                              refine r_seq ?_
                              refine r_region ?_
                              refine p_mv rfl rfl ?_
                              refine p_nil rfl rfl ?_
                              refine p_fa fa_105_0 rfl rfl ?_
                              refine p_ldc tc_44 rfl (by rfl) rfl ?_
                              refine p_mv rfl rfl ?_
                              refine p_callv cf_25 (.c rfl (.c rfl .n)) rfl ((shop_Over _ sb k.shop (by omega) (by omega) (j : Int)).q) ?_
                              refine p_mv rfl rfl ?_
                              refine p_ext rfl rfl rfl ?_
                              refine p_ext rfl rfl rfl ?_
                              refine p_as rfl rfl ?_
                              refine p_as rfl rfl ?_
                              refine o_keep (.c 6 rfl (.c 7 rfl (.c 9 rfl (.c 10 rfl (.c 11 rfl (.c 12 rfl (.c 13 rfl (.c 17 rfl (.c 18 rfl (.c 19 rfl (.c 20 rfl .n))))))))))) ?_
                              refine r_seq ?_
                              refine r_region ?_
                              refine p_mv rfl rfl ?_
                              refine p_mv rfl rfl ?_
                              refine l_op (x_p (pv_aidx (i := j) Try.underlying70 (.ofC tc_4) (fun hg => ⟨by omega, by omega⟩) (.n rfl) rfl rfl rfl (fun _ => ⟨rfl, rfl⟩)) rfl rfl ?_)
                              refine l_op (x_r (q_ldci (i := j) tc_4 (.n rfl) rfl rfl (fun _ => rfl) (by omega) (bget8 (by omega))) rfl rfl ?_)
                              refine l_op (x_p (pv_bne Try.underlying4 (.n rfl) rfl rfl rfl (fun _ => ⟨rfl, rfl⟩)) rfl rfl ?_)
                              refine p_mv rfl rfl ?_
                              refine l_op (x_p (pv_mv (.s rfl rfl rfl) rfl rfl (by first | exact fun _ => rfl | exact id | exact fun h => (Bool.and_eq_true_iff.1 h).1 | simp_all)) rfl rfl ?_)
                              refine l_op (x_p (pv_mv (.s rfl rfl rfl) rfl rfl (by first | exact fun _ => rfl | exact id | exact fun h => (Bool.and_eq_true_iff.1 h).1 | simp_all)) rfl rfl ?_)
                              refine l_op (x_p (pv_aidx (i := j) Try.underlying70 (.ofC tc_4) (fun hg => ⟨by omega, by omega⟩) (.s rfl rfl rfl) rfl rfl rfl (by refine fun h => ⟨?_, ?_⟩ <;> first | rfl | exact h | exact (Bool.and_eq_true_iff.1 h).1 | simp_all)) rfl rfl ?_)
                              refine l_op (x_r (q_ldci (i := j) tc_4 (.s rfl rfl rfl) rfl rfl (by first | exact fun _ => rfl | exact id | exact fun h => (Bool.and_eq_true_iff.1 h).1 | simp_all) (by omega) (bget8 (by omega))) rfl rfl ?_)
                              refine l_op (x_p (pv_bne Try.underlying4 (.s rfl rfl rfl) rfl rfl rfl (by refine fun h => ⟨?_, ?_⟩ <;> first | rfl | exact h | exact (Bool.and_eq_true_iff.1 h).1 | simp_all)) rfl rfl ?_)
                              refine l_op (x_p (pv_or (.n rfl) rfl rfl rfl (fun _ => ⟨rfl, fun hc => by first | rfl | (rw [hc]; rfl) | simp_all⟩)) rfl rfl ?_)
                              refine o_keep (.c 6 rfl (.c 7 rfl (.c 9 rfl (.c 10 rfl (.c 11 rfl (.c 12 rfl (.c 13 rfl (.c 17 rfl (.c 18 rfl (.c 153 rfl .n)))))))))) ?_
                              refine r_cond _ rfl (fun h11 => ?_) (fun h11 => ?_)
                              · exfalso; simp only [List.getD_eq_getElem?_getD] at hoi; simp [hoi.1, hoi.2] at h11
                              · skip
                                refine r_skip ?_
                                refine r_end ?_
                                refine r_region ?_
                                refine p_mv rfl rfl ?_
                                refine p_add rfl rfl (by omega) rfl ?_
                                refine p_as rfl rfl ?_
                                refine o_keep (.c 6 rfl (.c 7 rfl (.c 9 rfl (.c 10 rfl (.c 11 rfl (.c 12 rfl (.c 13 rfl (.c 17 rfl (.c 18 rfl .n))))))))) ?_
                                refine r_back_1 (j + 1) ?_ ?_ (Keep.app (.c 18 rfl .n) (.c 6 rfl (.c 7 rfl (.c 9 rfl (.c 10 rfl (.c 11 rfl (.c 12 rfl (.c 13 rfl (.c 17 rfl .n))))))))) ?_
                                · omega
                                · omega
                                · first | exact Ent.rfl | (repeat (first | exact Ent.rfl | refine Ent.c (SelB.ent) ?_ | refine Ent.c (SelS.ent) ?_ | refine Ent.cN ?_ | refine Ent.c (SelX.ent) ?_ | refine Ent.dropR ?_))
                            · skip
                              refine r_exit rfl ?_
                              refine r_end ?_
                              refine r_region ?_
                              refine p_mv rfl rfl ?_
                              refine p_add rfl rfl (by omega) rfl ?_
                              refine p_as rfl rfl ?_
                              refine o_keep (.c 6 rfl (.c 7 rfl (.c 9 rfl (.c 10 rfl (.c 11 rfl (.c 12 rfl (.c 13 rfl (.c 17 rfl .n)))))))) ?_
                              refine r_back_1 (i + 1) ?_ ?_ (Keep.app (.c 17 rfl .n) (.c 6 rfl (.c 7 rfl (.c 9 rfl (.c 10 rfl (.c 11 rfl (.c 12 rfl (.c 13 rfl .n)))))))) ?_
                              · omega
                              · omega
                              · refine Ent.c (keepP_close sb lv rfl rfl) ?_; first | exact Ent.rfl | (repeat (first | exact Ent.rfl | refine Ent.c (SelB.ent) ?_ | refine Ent.c (SelS.ent) ?_ | refine Ent.cN ?_ | refine Ent.c (SelX.ent) ?_ | refine Ent.dropR ?_))
                      · skip
                        refine r_exit rfl ?_
                        refine r_seq ?_
                        refine r_region ?_
                        refine p_as rfl rfl ?_
                        refine o_keep (.c 6 rfl .n) ?_
                        refine r_retv hF rfl (.c (.t rfl) .n) ?_ ?_
                        · first | exact Ent.rfl | (repeat (first | exact Ent.rfl | refine Ent.c (SelB.ent) ?_ | refine Ent.c (SelS.ent) ?_ | refine Ent.cN ?_ | refine Ent.c (SelX.ent) ?_ | refine Ent.dropR ?_))
                        · first | rfl | exact bool_eq (by simp)

end Go.Proofs.Ytmakdilmibjpbab
