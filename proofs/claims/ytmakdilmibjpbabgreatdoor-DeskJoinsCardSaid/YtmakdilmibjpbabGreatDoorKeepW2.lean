/- The walks of KeepW2: written by a program of ours (gen.py) over the engine. -/
import Derived.Test.YtmakdilmibjpbabGreatDoorWants
import Derived.Test.YtmakdilmibjpbabGreatDoorFacts
import Derived.Test.YtmakdilmibjpbabGreatDoorKeepW
namespace Go.Proofs.YtmakdilmibjpbabGreatDoor
open Go Go.RowKit
set_option linter.unusedVariables false
set_option linter.unusedSimpArgs false
set_option maxRecDepth 20000

theorem newS_w6 (no : Int) (ws : List Int) : newS no (w6 ws) = newS no ws := by
  unfold newS
  split
  · rfl
  · rename_i h
    have : no = 0 ∨ no = 1 ∨ no = 2 := by omega
    rcases this with rfl | rfl | rfl <;> rfl
theorem KInv.rep6 {k : KeepS} (hI : KInv k) : replayS k.no (w6 k.ws) k.l = (some k.shop, ⟨0, 0⟩) := by
  rw [← hI.crash.2]; unfold replayS; rw [newS_w6]
theorem keep_Replay_some (M : Amb) (A : List HP) (no : Int) (ws : List Int) (h6 : ws.length = 6) (v : Value) (l : List Rec) (hv : Rd M A v 5 (l.map rR)) (hb : l.length ≤ 100000) {s : ShopS} (h : replayS no ws l = (some s, ⟨0, 0⟩)) : FnN (α := Nat) Tryz.prog M 100 [.int .i64 no, .agg (ws.map vI).toArray, v] A (fun x => .tuple #[ptr x, .agg (rF ⟨0, 0⟩).toArray]) (fun x => [shopP x s]) := fun R w ho =>
  (keep_Replay M A no ws h6 v l hv hb R w ho).mono fun _ _ ⟨v, H', e, ⟨x, h1, h2⟩, ho'⟩ => ⟨v, H', e, ⟨x, by rw [h1, h]; rfl, by rw [h2, h]; rfl⟩, ho'⟩
theorem keep_New_none (M : Amb) (no : Int) (ws : List Int) (h6 : ws.length = 6) (h : newS no ws = none) : FnC Tryz.prog M 25 [.int .i64 no, .agg (ws.map vI).toArray] (.pointer Option.none) [] [] := fun R w ho =>
  (keep_New M no ws h6 R w ho).mono fun _ _ ⟨v, H', e, ⟨x, h1, h2⟩, ho'⟩ => ⟨v, H', e, ⟨by rw [h1, h]; rfl, by rw [h2, h]; rfl⟩, ho'⟩
theorem keep_New_some (M : Amb) (no : Int) (ws : List Int) (h6 : ws.length = 6) {s : ShopS} (h : newS no ws = some s) : FnE (α := Nat) Tryz.prog M 25 [.int .i64 no, .agg (ws.map vI).toArray] [] (fun x => ptr x) (fun x => [keepP x ⟨no, ws, s, []⟩]) := fun R w ho =>
  (keep_New M no ws h6 R w ho).mono fun _ _ ⟨v, H', e, ⟨x, h1, h2⟩, ho'⟩ => ⟨v, H', e, ⟨x, by rw [h1, h]; rfl, by rw [h2, h]; rfl⟩, ho'⟩

theorem keep_Crash (M : Amb) (b : Nat) (k : KeepS) (hI : KInv k) : FnC Tryz.prog M 68 [ptr b] (resVal []) [keepP b k] [keepP b k] := by
 have hkl := hI.l_le
 refine fnc_intro Tryz.func68 rfl Tryz.ntmps68 rfl fun R F hF => ?_
 refine r_cat ?_
 refine r_ex2 fun sb lv => ?_
 refine r_cat ?_
 refine r_rd lv fun hrl => ?_
 refine r_plan _ [] mo (.c 0 rfl .n) Ent.rfl ?_
 refine qp 0 [.k 0] rfl rfl rfl rfl (by kernel_rfl) rfl (u_mv rfl rfl rfl) (qp 1 [.k 0] rfl rfl rfl rfl (by kernel_rfl) rfl (u_mv rfl rfl rfl) (qp 2 [.o 1] rfl rfl rfl rfl (by kernel_rfl) rfl (u_nil rfl rfl rfl) (qp 3 [.o 2] rfl rfl rfl rfl (by kernel_rfl) rfl (u_fa fa_102_1 rfl rfl rfl) (qr 4 [.o 3] rfl rfl rfl rfl (by kernel_rfl) rfl (fun He => u_ldc tc_3 rfl rfl rfl (by rfl)) ?_))))
 refine qp 5 [.k 0] rfl rfl rfl rfl (by kernel_rfl) rfl (u_mv rfl rfl rfl) (qp 6 [.o 5] rfl rfl rfl rfl (by kernel_rfl) rfl (u_nil rfl rfl rfl) (qp 7 [.o 6] rfl rfl rfl rfl (by kernel_rfl) rfl (u_fa fa_102_2 rfl rfl rfl) (qr 8 [.o 7] rfl rfl rfl rfl (by kernel_rfl) rfl (fun He => q_lda ta_34 (.n rfl) rfl rfl (fun _ => rfl) (by exact (.s (.s (.s (.s (.s (.s .z)))))))) ?_)))
 refine qp 9 [.k 0] rfl rfl rfl rfl (by kernel_rfl) rfl (u_mv rfl rfl rfl) (qp 10 [.o 9] rfl rfl rfl rfl (by kernel_rfl) rfl (u_nil rfl rfl rfl) (qp 11 [.o 10] rfl rfl rfl rfl (by kernel_rfl) rfl (u_fa fa_102_3 rfl rfl rfl) (qr 12 [.o 11] rfl rfl rfl rfl (by kernel_rfl) rfl (fun He => u_ldc tc_100 rfl rfl rfl (by rfl)) ?_)))
 refine qm_calln (i := 13) [.o 4, .o 8, .o 12] (by kernel_rfl) (by kernel_rfl) rfl rfl rfl rfl (by kernel_rfl) (by kernel_rfl) ⟨_, .n rfl, rfl⟩ cf_100 rfl (.c rfl (.c rfl (.c rfl .n))) (keep_Replay_some _ [sl lv 184 5 (k.l.map rR)] k.no (w6 k.ws) rfl lv k.l (Rd.ent hrl SelS.ent) (by omega) hI.rep6) fun x => ?_
 refine qm_cat ?_
 refine qm_keep ?_
 refine qp 14 [.o 13] rfl rfl rfl rfl (by kernel_rfl) rfl (u_mv rfl rfl rfl) (qp 15 [.o 14] rfl rfl rfl rfl (by kernel_rfl) rfl (u_ext rfl rfl rfl rfl) (qp 16 [.o 14] rfl rfl rfl rfl (by kernel_rfl) rfl (u_ext rfl rfl rfl rfl) (qp 17 [.o 0] rfl rfl rfl rfl (by kernel_rfl) rfl (u_nil rfl rfl rfl) (qp 18 [.o 17] rfl rfl rfl rfl (by kernel_rfl) rfl (u_fa fa_102_0 rfl rfl rfl) ?_))))
 refine qx_store (ex := [16]) (.ofC tc_98) (i := 19) [.o 18, .o 15] (by kernel_rfl) (by kernel_rfl) rfl rfl rfl (by kernel_rfl) (by kernel_rfl) (by kernel_rfl) ⟨_, .n rfl, rfl⟩ (exOne (l := [.o 14]) rfl rfl rfl rfl (by kernel_rfl) rfl (fun He => PV.rq (u_ext rfl rfl rfl rfl))) rfl rfl rfl rfl rfl rfl (by repeat constructor) ?_
 refine qm_n (by kernel_rfl) (by kernel_rfl) (by kernel_rfl) (by kernel_rfl) (.n) ?_
 refine r_fallc hF rfl ?_
 ·refine Ent.catI ?_; refine Ent.c (keepP_close x lv rfl rfl) ?_; repeat first|exact eR|refine eB ?_|refine eS ?_|refine eN ?_|refine eX ?_|refine eD ?_

theorem keep_Do_no (M : Amb) (H : List HP) (b : Nat) (r : Rec) (hr : recF r ≠ 0) : FnV Tryz.prog M H 120 [ptr b, .agg (rR r).toArray] (.int .i64 (recF r)) := by
 refine fn_intro Tryz.func120 rfl Tryz.ntmps120 rfl fun F hF => ?_
 refine r_sr (p_box rfl rfl rfl fun b3 => ?_)
 refine p_as rfl rfl (o_keep (.c 0 rfl (.c 3 rfl (.c 4 rfl .n))) (r_seq (r_sr ?_)))
 refine p_lda ta_184 rfl (by exact (Tk.all rfl)) rfl ?_
 refine p_callv cf_117 (.c rfl .n) rfl (keep_check _ _ r) ?_
 refine p_as rfl rfl (o_keep (.c 0 rfl (.c 3 rfl (.c 4 rfl (.c 5 rfl .n)))) (r_sr (p_mv rfl rfl (p_neq rfl rfl rfl (o_keep (.c 0 rfl (.c 3 rfl (.c 4 rfl (.c 5 rfl (.c 10 rfl .n))))) (r_cond _ rfl (fun h1 => ?_) (fun h1 => ?_)))))))
 ·skip
  refine r_sr (p_mv rfl rfl (p_as rfl rfl (o_keep (.c 0 rfl (.c 3 rfl (.c 4 rfl .n))) ?_)))
  refine r_retv hF rfl (.c (.t rfl) .n) ?_ ?_
  ·repeat first|exact eR|refine eB ?_|refine eS ?_|refine eN ?_|refine eX ?_|refine eD ?_
  ·rfl
 ·exfalso; simp at h1; exact hr h1

end Go.Proofs.YtmakdilmibjpbabGreatDoor
