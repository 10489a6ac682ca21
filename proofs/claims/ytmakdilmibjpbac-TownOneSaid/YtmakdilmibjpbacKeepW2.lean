/- The walks of KeepW2: written by a program of ours (gen.py) over the engine. -/
import Derived.Test.YtmakdilmibjpbacPlain
import Derived.Test.YtmakdilmibjpbacFacts
import Derived.Test.YtmakdilmibjpbacKeepW
namespace Go.Proofs.Ytmakdilmibjpbac
open Go Go.RowKit
set_option linter.unusedVariables false
set_option linter.unusedSimpArgs false
set_option maxRecDepth 20000

theorem newS_w6 (no : Int) (ws : List Int) : newS no (w6 ws) = newS no ws := by
  unfold newS
  split
  · rfl
  · rename_i h
    have : no = 0 ∨ no = 1 ∨ no = 2 := by omega
    rcases this with rfl | rfl | rfl <;> rfl
theorem KInv.rep6 {k : KeepS} (hI : KInv k) : replayS k.no (w6 k.ws) k.l = (some k.shop, ⟨0, 0⟩) := by
  rw [← hI.crash.2]; unfold replayS; rw [newS_w6]
theorem keep_Replay_some (M : Amb) (A : List HP) (no : Int) (ws : List Int) (h6 : ws.length = 6) (v : Value) (l : List Rec) (hv : Rd M A v 5 (l.map rR)) (hb : l.length ≤ 1000) {s : ShopS} (h : replayS no ws l = (some s, ⟨0, 0⟩)) : FnN (α := Nat) Try.prog M 56 [.int .i64 no, .agg (ws.map vI).toArray, v] A (fun x => .tuple #[ptr x, .agg (rF ⟨0, 0⟩).toArray]) (fun x => [shopP x s]) := fun R w ho =>
  (keep_Replay M A no ws h6 v l hv hb R w ho).mono fun _ _ ⟨v, H', e, ⟨x, h1, h2⟩, ho'⟩ => ⟨v, H', e, ⟨x, by rw [h1, h]; rfl, by rw [h2, h]; rfl⟩, ho'⟩
theorem keep_New_none (M : Amb) (no : Int) (ws : List Int) (h6 : ws.length = 6) (h : newS no ws = none) : FnC Try.prog M 49 [.int .i64 no, .agg (ws.map vI).toArray] (.pointer Option.none) [] [] := fun R w ho =>
  (keep_New M no ws h6 R w ho).mono fun _ _ ⟨v, H', e, ⟨x, h1, h2⟩, ho'⟩ => ⟨v, H', e, ⟨by rw [h1, h]; rfl, by rw [h2, h]; rfl⟩, ho'⟩
theorem keep_New_some (M : Amb) (no : Int) (ws : List Int) (h6 : ws.length = 6) {s : ShopS} (h : newS no ws = some s) : FnE (α := Nat) Try.prog M 49 [.int .i64 no, .agg (ws.map vI).toArray] [] (fun x => ptr x) (fun x => [keepP x ⟨no, ws, s, []⟩]) := fun R w ho =>
  (keep_New M no ws h6 R w ho).mono fun _ _ ⟨v, H', e, ⟨x, h1, h2⟩, ho'⟩ => ⟨v, H', e, ⟨x, by rw [h1, h]; rfl, by rw [h2, h]; rfl⟩, ho'⟩

theorem keep_Crash (M : Amb) (b : Nat) (k : KeepS) (hI : KInv k) : FnC Try.prog M 25 [ptr b] (resVal []) [keepP b k] [keepP b k] := by
  have hkl := hI.l_le
  refine fnc_intro Try.func25 rfl Try.ntmps25 rfl fun R F hF => ?_
  refine r_cat ?_
  refine r_ex2 fun sb lv => ?_
  refine r_cat ?_
  refine r_rd lv fun hrl => ?_
  refine r_plan _ [] mo (.c 0 rfl .n) Ent.rfl ?_
  refine qm_q (i := 0) (l := [.k 0]) rfl rfl rfl rfl (by kernel_rfl) rfl (fun He => PV.rq (pv_mv (.n rfl) rfl rfl (fun _ => rfl))) ?_
  refine qm_q (i := 1) (l := [.k 0]) rfl rfl rfl rfl (by kernel_rfl) rfl (fun He => PV.rq (pv_mv (.n rfl) rfl rfl (fun _ => rfl))) ?_
  refine qm_q (i := 2) (l := [.o 1]) rfl rfl rfl rfl (by kernel_rfl) rfl (fun He => PV.rq (pv_nilp (.n rfl) rfl rfl (fun _ => rfl))) ?_
  refine qm_q (i := 3) (l := [.o 2]) rfl rfl rfl rfl (by kernel_rfl) rfl (fun He => PV.rq (pv_fa fa_44_1 (.n rfl) rfl rfl (fun _ => rfl))) ?_
  refine qm_q (i := 4) (l := [.o 3]) rfl rfl rfl rfl (by kernel_rfl) rfl (fun He => RV.rq (q_ldc tc_3 (.n rfl) rfl rfl (fun _ => rfl) (by rfl))) ?_
  refine qm_q (i := 5) (l := [.k 0]) rfl rfl rfl rfl (by kernel_rfl) rfl (fun He => PV.rq (pv_mv (.n rfl) rfl rfl (fun _ => rfl))) ?_
  refine qm_q (i := 6) (l := [.o 5]) rfl rfl rfl rfl (by kernel_rfl) rfl (fun He => PV.rq (pv_nilp (.n rfl) rfl rfl (fun _ => rfl))) ?_
  refine qm_q (i := 7) (l := [.o 6]) rfl rfl rfl rfl (by kernel_rfl) rfl (fun He => PV.rq (pv_fa fa_44_2 (.n rfl) rfl rfl (fun _ => rfl))) ?_
  refine qm_q (i := 8) (l := [.o 7]) rfl rfl rfl rfl (by kernel_rfl) rfl (fun He => RV.rq (q_lda ta_23 (.n rfl) rfl rfl (fun _ => rfl) (by exact (.s (.s (.s (.s (.s (.s .z))))))))) ?_
  refine qm_q (i := 9) (l := [.k 0]) rfl rfl rfl rfl (by kernel_rfl) rfl (fun He => PV.rq (pv_mv (.n rfl) rfl rfl (fun _ => rfl))) ?_
  refine qm_q (i := 10) (l := [.o 9]) rfl rfl rfl rfl (by kernel_rfl) rfl (fun He => PV.rq (pv_nilp (.n rfl) rfl rfl (fun _ => rfl))) ?_
  refine qm_q (i := 11) (l := [.o 10]) rfl rfl rfl rfl (by kernel_rfl) rfl (fun He => PV.rq (pv_fa fa_44_3 (.n rfl) rfl rfl (fun _ => rfl))) ?_
  refine qm_q (i := 12) (l := [.o 11]) rfl rfl rfl rfl (by kernel_rfl) rfl (fun He => RV.rq (q_ldc tc_42 (.n rfl) rfl rfl (fun _ => rfl) (by rfl))) ?_
  refine qm_calln (i := 13) [.o 4, .o 8, .o 12] (by kernel_rfl) (by kernel_rfl) rfl rfl rfl rfl (by kernel_rfl) (by kernel_rfl) ⟨_, .n rfl, rfl⟩ cf_56 rfl (.c rfl (.c rfl (.c rfl .n))) (keep_Replay_some _ [sl lv 101 5 (k.l.map rR)] k.no (w6 k.ws) rfl lv k.l (Rd.ent hrl SelS.ent) (by omega) hI.rep6) fun x => ?_
  refine qm_cat ?_
  refine qm_keep ?_
  refine qm_q (i := 14) (l := [.o 13]) rfl rfl rfl rfl (by kernel_rfl) rfl (fun He => PV.rq (pv_mv (.n rfl) rfl rfl (fun _ => rfl))) ?_
  refine qm_q (i := 15) (l := [.o 14]) rfl rfl rfl rfl (by kernel_rfl) rfl (fun He => PV.rq (pv_ext (.n rfl) rfl rfl rfl (fun _ => rfl))) ?_
  refine qm_q (i := 16) (l := [.o 14]) rfl rfl rfl rfl (by kernel_rfl) rfl (fun He => PV.rq (pv_ext (.n rfl) rfl rfl rfl (fun _ => rfl))) ?_
  refine qm_q (i := 17) (l := [.o 0]) rfl rfl rfl rfl (by kernel_rfl) rfl (fun He => PV.rq (pv_nilp (.n rfl) rfl rfl (fun _ => rfl))) ?_
  refine qm_q (i := 18) (l := [.o 17]) rfl rfl rfl rfl (by kernel_rfl) rfl (fun He => PV.rq (pv_fa fa_44_0 (.n rfl) rfl rfl (fun _ => rfl))) ?_
  refine qx_store (ex := [16]) (.ofC tc_41) (i := 19) [.o 18, .o 15] (by kernel_rfl) (by kernel_rfl) rfl rfl rfl (by kernel_rfl) (by kernel_rfl) (by kernel_rfl) ⟨_, .n rfl, rfl⟩ (exOne (l := [.o 14]) rfl rfl rfl rfl (by kernel_rfl) rfl (fun He => PV.rq (pv_ext (.n rfl) rfl rfl rfl (fun _ => rfl)))) rfl rfl rfl rfl rfl rfl (by repeat constructor) ?_
  refine qm_n (by kernel_rfl) (by kernel_rfl) (by kernel_rfl) (by kernel_rfl) (.n) ?_
  refine r_fallc hF rfl ?_
  · refine Ent.catI ?_; refine Ent.c (keepP_close x lv rfl rfl) ?_; first | exact Ent.rfl | (repeat (first | exact Ent.rfl | refine Ent.c (SelB.ent) ?_ | refine Ent.c (SelS.ent) ?_ | refine Ent.cN ?_ | refine Ent.c (SelX.ent) ?_ | refine Ent.dropR ?_))

theorem keep_Records_o (M : Amb) (b : Nat) (k : KeepS) (hI : KInv k) (sb : Nat) (lv : Value) : FnE (α := Value) Try.prog M 19 [ptr b] [blk b (kpC k sb lv) 44, sl lv 101 5 (k.l.map rR)] (fun x => x) (fun x => [sl x 101 5 (k.l.map rR), blk b (kpC k sb lv) 44, sl lv 101 5 (k.l.map rR)]) := by
  have hkl := hI.l_le
  refine fne_intro Try.func19 rfl Try.ntmps19 rfl fun R F hF => ?_
  refine r_cat ?_
  refine r_rd lv fun hrl => ?_
  refine r_seq ?_
  refine r_region ?_
  refine p_as rfl rfl ?_
  refine o_keep (.c 0 rfl (.c 2 rfl .n)) ?_
  refine r_seq ?_
  refine r_region ?_
  refine p_mv rfl rfl ?_
  refine p_nil rfl rfl ?_
  refine p_fa fa_44_3 rfl rfl ?_
  refine p_ldc tc_42 rfl (by rfl) rfl ?_
  refine p_calle cf_52 (.c rfl .n) rfl (rec_Clone _ [sl lv 101 5 (k.l.map rR)] _ _ hrl (by simp; omega)) fun qv => ?_
  refine o_cat ?_
  refine p_as rfl rfl ?_
  refine o_keep (.c 2 rfl .n) ?_
  refine r_rete (qv) hF rfl (.c (.t rfl) .n) ?_ ?_
  · refine Ent.catI ?_; first | exact Ent.rfl | (repeat (first | exact Ent.rfl | refine Ent.c (SelB.ent) ?_ | refine Ent.c (SelS.ent) ?_ | refine Ent.cN ?_ | refine Ent.c (SelX.ent) ?_ | refine Ent.dropR ?_))
  · rfl

theorem keep_Records_oN (M : Amb) (b : Nat) (k : KeepS) (hI : KInv k) (sb : Nat) (lv : Value) : FnN (α := Value) Try.prog M 19 [ptr b] [blk b (kpC k sb lv) 44, sl lv 101 5 (k.l.map rR)] (fun x => x) (fun x => [sl x 101 5 (k.l.map rR)]) := keep_Records_o M b k hI sb lv

theorem keep_Do_no (M : Amb) (H : List HP) (b : Nat) (r : Rec) (hr : recF r ≠ 0) : FnV Try.prog M H 50 [ptr b, .agg (rR r).toArray] (.int .i64 (recF r)) := by
  refine fn_intro Try.func50 rfl Try.ntmps50 rfl fun F hF => ?_
  refine r_seq ?_
  refine r_region ?_
  refine p_box rfl rfl rfl fun b3 => ?_
  refine p_as rfl rfl ?_
  refine o_keep (.c 0 rfl (.c 3 rfl (.c 4 rfl .n))) ?_
  refine r_seq ?_
  refine r_seq ?_
  refine r_region ?_
  refine p_lda ta_101 rfl (by exact (Tk.all rfl)) rfl ?_
  refine p_callv cf_75 (.c rfl .n) rfl (keep_check _ _ r) ?_
  refine p_as rfl rfl ?_
  refine o_keep (.c 0 rfl (.c 3 rfl (.c 4 rfl (.c 5 rfl .n)))) ?_
  refine r_seq ?_
  refine r_region ?_
  refine p_mv rfl rfl ?_
  refine p_neq rfl rfl rfl ?_
  refine o_keep (.c 0 rfl (.c 3 rfl (.c 4 rfl (.c 5 rfl (.c 10 rfl .n))))) ?_
  refine r_cond _ rfl (fun h1 => ?_) (fun h1 => ?_)
  · skip
    refine r_seq ?_
    refine r_region ?_
    refine p_mv rfl rfl ?_
    refine p_as rfl rfl ?_
    refine o_keep (.c 0 rfl (.c 3 rfl (.c 4 rfl .n))) ?_
    refine r_retv hF rfl (.c (.t rfl) .n) ?_ ?_
    · first | exact Ent.rfl | (repeat (first | exact Ent.rfl | refine Ent.c (SelB.ent) ?_ | refine Ent.c (SelS.ent) ?_ | refine Ent.cN ?_ | refine Ent.c (SelX.ent) ?_ | refine Ent.dropR ?_))
    · rfl
  · exfalso; simp at h1; exact hr h1

end Go.Proofs.Ytmakdilmibjpbac
