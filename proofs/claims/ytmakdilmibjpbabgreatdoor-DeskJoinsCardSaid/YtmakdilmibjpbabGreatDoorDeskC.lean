/- The walks of DeskC: written by a program of ours (gen.py) over the engine. -/
import Derived.Test.YtmakdilmibjpbabGreatDoorWants
import Derived.Test.YtmakdilmibjpbabGreatDoorFacts
import Derived.Test.YtmakdilmibjpbabGreatDoorDeskB
namespace Go.Proofs.YtmakdilmibjpbabGreatDoor
open Go Go.RowKit
set_option linter.unusedVariables false
set_option linter.unusedSimpArgs false
set_option maxRecDepth 20000

theorem join1 (a : List UInt8) : Lib.join [a] [32] = a := Lib.join_one _ _
theorem join2 (a c : List UInt8) : Lib.join [a, c] [32] = a ++ (32 :: c) := by simp [Lib.join]
theorem kind_len (k : Int) : (kindL k).length ≤ 4 := by unfold kindL; (repeat' split) <;> simp
theorem code_len {c : Int} (h : i64 c) : (codeS c).length ≤ 30 := by
  have := Lib.itoa_length_le c h.1 h.2
  unfold codeS; split <;> simp <;> omega

theorem desk_code (M : Amb) (L : LibOk M) (b tb : Nat) (u : List UInt8) (c : Int) (hc : i64 c) (hu : u.length ≤ 10000000000) : FnC Tryz.prog M 35 [ptr b, .int .i64 c] (resVal []) [bdP b tb u] [bdP b tb (u ++ codeS c)] := by
 have hitl := Lib.itoa_length_le (c) hc.1 hc.2
 refine fnc_intro Tryz.func35 rfl Tryz.ntmps35 rfl fun R F hF => ?_
 refine r_cat ?_
 refine r_seq (r_sr (p_mv rfl rfl (p_neq rfl rfl rfl (o_keep (.c 0 rfl (.c 1 rfl (.c 5 rfl .n))) (r_cond _ rfl (fun h1 => ?_) (fun h1 => ?_))))))
 ·skip
  have h0 : c ≠ 0 := by simpa using h1
  have hs : codeS c = [110, 111] ++ (32 :: Lib.itoa c) ++ [10] := by unfold codeS; rw [if_pos h0]; simp
  refine r_sr (p_mv rfl rfl (p_mv rfl rfl ?_))
  refine p_callv cf_21 (.c rfl .n) rfl (desk_num _ _ L c hc) ?_
  refine p_bsl Tryz.underlying22 (.ofC tc_9) zr_9 (.c rfl rfl rfl (.c rfl rfl rfl .n)) (rows := ([[110, 111], Lib.itoa c] : List (List UInt8)).map rS) rfl rfl rfl rfl fun b9 hr9 => ?_
  refine p_callc cf_22 (.c rfl (.c rfl .n)) rfl (desk_say _ b tb u _ [[110, 111], Lib.itoa c] ([110, 111] ++ (32 :: Lib.itoa c)) (join2 _ _) (by simp) (by simp; omega)) ?_
  refine o_keep (.c 0 rfl .n) ?_
  refine r_retv hF rfl .n ?_ ?_
  ·rw [hs]; repeat first|exact eR|refine eB ?_|refine eS ?_|refine eN ?_|refine eX ?_|refine eD ?_
  ·rfl
 ·skip
  have h0 : ¬ c ≠ 0 := by simpa using h1
  have hs : codeS c = [111, 107] ++ [10] := by unfold codeS; rw [if_neg h0]; rfl
  refine r_skip (r_region (p_mv rfl rfl ?_))
  refine p_bsl Tryz.underlying22 (.ofC tc_9) zr_9 (.c rfl rfl rfl .n) (rows := ([[111, 107]] : List (List UInt8)).map rS) rfl rfl rfl rfl fun b12 hr12 => ?_
  refine p_callc cf_22 (.c rfl (.c rfl .n)) rfl (desk_say _ b tb u _ [[111, 107]] ([111, 107]) (join1 _) (by simp) (by simp; omega)) ?_
  refine o_keep (.n) ?_
  refine r_fallc hF rfl ?_
  ·rw [hs]; repeat first|exact eR|refine eB ?_|refine eS ?_|refine eN ?_|refine eX ?_|refine eD ?_

theorem desk_kind (M : Amb) (H : List HP) (m : Mail) (hk : 1 ≤ m.kind ∧ m.kind ≤ 4) : FnV Tryz.prog M H 76 [vM m] (str (kindL m.kind)) := by
 obtain ⟨i, hki⟩ : ∃ i : Nat, m.kind = (i : Int) := ⟨m.kind.toNat, by omega⟩
 have hi4 : i < 5 := by omega
 have hrow : (([[], [97, 115, 107], [115, 97, 121], [101, 110, 100], [111, 118, 101, 114]] : List (List UInt8)).map rS)[i]? = some [str (kindL m.kind)] := by rcases (show i = 1 ∨ i = 2 ∨ i = 3 ∨ i = 4 by omega) with rfl | rfl | rfl | rfl <;> rw [hki] <;> rfl
 refine fn_intro Tryz.func76 rfl Tryz.ntmps76 rfl fun F hF => ?_
 refine r_sr (p_box rfl rfl rfl fun b1 => ?_)
 refine p_as rfl rfl (o_keep (.c 1 rfl (.c 2 rfl .n)) (r_sr ?_))
 refine p_bsl Tryz.underlying22 (.ofC tc_9) zr_9 (.c rfl rfl rfl (.c rfl rfl rfl (.c rfl rfl rfl (.c rfl rfl rfl (.c rfl rfl rfl .n))))) (rows := ([[], [97, 115, 107], [115, 97, 121], [101, 110, 100], [111, 118, 101, 114]] : List (List UInt8)).map rS) rfl rfl rfl rfl fun b3 hr3 => ?_
 refine p_fa fa_129_0 rfl rfl (p_ldc tc_3 rfl (by rfl) rfl ?_)
 refine p_idx Tryz.underlying22 (.ofC tc_9) hr3 hki hrow rfl rfl rfl (p_ldat 0 tc_9 (Rd.ent hr3 (by repeat (first | exact Ent.rfl | exact Ent.one Ent.h | exact Ent.one (SelS.ent) | exact Ent.nil | exact Ent.left | refine Ent.dropR ?_ | refine Ent.tr Ent.skip ?_))) hrow rfl rfl rfl rfl ?_)
 refine p_as rfl rfl (o_keep (.c 2 rfl .n) ?_)
 refine r_retv hF rfl (.c (.t rfl) .n) ?_ ?_
 ·repeat first|exact eR|refine eB ?_|refine eS ?_|refine eN ?_|refine eX ?_|refine eD ?_
 ·rfl

theorem mail_i64 {m : Mail} (h : Mr m) : ∀ n ∈ [m.deal, m.shop, m.ctr, m.dl], i64 n := by
  obtain ⟨-, h1, h2, h3, h4⟩ := h
  intro n hn
  simp only [List.mem_cons, List.not_mem_nil, or_false] at hn
  unfold i64
  rcases hn with rfl | rfl | rfl | rfl <;> omega

theorem desk_mails (M : Amb) (L : LibOk M) (b tb : Nat) (u : List UInt8) (v : Value) (l : List Mail) (hk : ∀ m ∈ l, Mr m) (hl : l.length ≤ 1000) (hu : u.length ≤ 1000000000) : FnC Tryz.prog M 44 [ptr b, v] (resVal []) [bdP b tb u, sl v 129 6 (l.map rM)] [bdP b tb (u ++ mailsS l), sl v 129 6 (l.map rM)] := by
 refine fnc_intro Tryz.func44 rfl Tryz.ntmps44 rfl fun R F hF => ?_
 refine r_cat ?_
 refine r_rd v fun hrv => ?_
 refine r_seq (r_sr (p_mv rfl rfl (l_op (x_p (pv_lens (Rd.len hrv) ⟨_, Tryz.underlying71⟩ (.n rfl) rfl rfl rfl rfl (fun _ => rfl)) rfl rfl (p_mv rfl rfl (o_keep (.c 0 rfl (.c 7 rfl (.c 8 rfl (.c 9 rfl .n)))) (r_block ?_)))))))
 refine r_loop_2 (fun (i : Nat) (u1 : List UInt8) => [(9, true, .int .i64 (i : Int))]) (.c 0 rfl (.c 7 rfl (.c 8 rfl .n))) (fun (i : Nat) (u1 : List UInt8) => bdP b tb u1 :: sl v 129 6 (l.map rM) :: R) (fun (i : Nat) (u1 : List UInt8) => i ≤ l.length ∧ u1 = u ++ mailsU (l.take i) ∧ u1.length ≤ u.length + 200 * i) (fun (i : Nat) (u1 : List UInt8) => l.length - i) (0) (u) ?_ (.c 9 rfl .n) ?_ (fun i u1 hI => ?_)
 ·exact ⟨Nat.zero_le _, by simp [mailsU], by omega⟩
 ·repeat first|exact eR|refine eB ?_|refine eS ?_|refine eN ?_|refine eX ?_|refine eD ?_
 ·skip
  obtain ⟨hi0, hU, hul⟩ := hI
  refine r_sr (p_lss rfl rfl rfl (o_keep (.c 0 rfl (.c 7 rfl (.c 8 rfl (.c 9 rfl (.c 10 rfl .n))))) (r_seq (r_cond _ rfl (fun h1 => ?_) (fun h1 => ?_)))))
  ·skip
   obtain ⟨m, hm⟩ := getlt (l := l) (i := i) (by have := of_decide_eq_true h1; omega)
   have hil := (List.getElem?_eq_some_iff.1 hm).1
   have hmr := hk m (List.mem_of_getElem? hm)
   have hn1 := kind_len m.kind
   have hn2 : (numsL [m.deal, m.shop, m.ctr, m.dl]).length ≤ 88 := numsL_len (mail_i64 hmr)
   refine r_skip (r_seq (r_block (r_sr (p_idx Tryz.underlying71 (.ofA ta_129) hrv rfl (mapget hm) rfl rfl rfl ?_))))
   refine p_ldats 0 ta_129 (Rd.ent hrv (by repeat (first | exact Ent.rfl | exact Ent.one Ent.h | exact Ent.one (SelS.ent) | exact Ent.nil | exact Ent.left | refine Ent.dropR ?_ | refine Ent.tr Ent.skip ?_))) (mapget hm) rfl rfl (.s (.s (.s (.s (.s (.s .z)))))) rfl ?_
   refine p_alloc zr_129 rfl fun b5 => ?_
   refine p_store (.ofA ta_129) rfl rfl rfl (by first | rfl | exact rfl) (by first | rfl | exact rfl) (Ins.whole (by first | rfl | (simp only [List.length_map, List.length_cons, List.length_nil]; omega) | (simp [*]; done) | (simp [*]; rfl))) ?_
   refine o_keep (.c 0 rfl (.c 5 rfl (.c 7 rfl (.c 8 rfl (.c 9 rfl .n))))) (r_seq ?_)
   refine r_plan (_) ([]) mo (.c 0 rfl (.c 5 rfl (.c 7 rfl (.c 8 rfl (.c 9 rfl .n))))) (Ent.rfl) ?_
   refine qr 0 [.k 5] rfl rfl rfl rfl (by kernel_rfl) rfl (fun He => q_lda ta_129 (.n rfl) rfl rfl (fun _ => rfl) (by exact (Tk.all rfl))) ?_
   refine qm_q (i := 1) (l := [.o 0]) rfl rfl rfl rfl (by kernel_rfl) rfl (fun He => rq_call cf_76 (.n rfl) rfl (.c rfl (fun _ => rfl) .n) (fun hg => desk_kind _ _ m hmr.1)) ?_
   refine qp 2 [.k 5] rfl rfl rfl rfl (by kernel_rfl) rfl (u_fa fa_129_1 rfl rfl rfl) (qr 3 [.o 2] rfl rfl rfl rfl (by kernel_rfl) rfl (fun He => u_ldc tc_3 rfl rfl rfl (by rfl)) ?_)
   refine qp 4 [.k 5] rfl rfl rfl rfl (by kernel_rfl) rfl (u_fa fa_129_2 rfl rfl rfl) (qr 5 [.o 4] rfl rfl rfl rfl (by kernel_rfl) rfl (fun He => u_ldc tc_3 rfl rfl rfl (by rfl)) ?_)
   refine qp 6 [.k 5] rfl rfl rfl rfl (by kernel_rfl) rfl (u_fa fa_129_3 rfl rfl rfl) (qp 7 [.o 6] rfl rfl rfl rfl (by kernel_rfl) rfl (u_fa fa_115_0 rfl rfl rfl) (qr 8 [.o 7] rfl rfl rfl rfl (by kernel_rfl) rfl (fun He => u_ldc tc_3 rfl rfl rfl (by rfl)) ?_))
   refine qp 9 [.k 5] rfl rfl rfl rfl (by kernel_rfl) rfl (u_fa fa_129_3 rfl rfl rfl) (qp 10 [.o 9] rfl rfl rfl rfl (by kernel_rfl) rfl (u_fa fa_115_1 rfl rfl rfl) (qr 11 [.o 10] rfl rfl rfl rfl (by kernel_rfl) rfl (fun He => u_ldc tc_3 rfl rfl rfl (by rfl)) ?_))
   refine qm_bsl Tryz.underlying59 (.ofC tc_3) zr_3 (i := 12) [.o 3, .o 5, .o 8, .o 11] (by kernel_rfl) (by kernel_rfl) rfl rfl rfl rfl (by kernel_rfl) (by kernel_rfl) ⟨_, .n rfl, rfl⟩ rfl (.c rfl rfl rfl (.c rfl rfl rfl (.c rfl rfl rfl (.c rfl rfl rfl .n)))) (rows := ([m.deal, m.shop, m.ctr, m.dl] : List Int).map rI) rfl rfl rfl fun b25 hr25 => ?_
   refine qm_keep ?_
   refine qm_q (i := 13) (l := [.o 12]) rfl rfl rfl rfl (by kernel_rfl) rfl (fun He => rq_call cf_40 (.n rfl) rfl (.c rfl (fun _ => rfl) .n) (fun hg => desk_nums _ _ L _ [m.deal, m.shop, m.ctr, m.dl] (Rd.ent hr25 (by repeat (first | exact Ent.rfl | exact Ent.one Ent.h | exact Ent.one (SelS.ent) | exact Ent.nil | exact Ent.left | refine Ent.dropR ?_))) (by simp) (mail_i64 hmr))) ?_
   refine qp 14 [.o 1, .o 13] rfl rfl rfl rfl (by kernel_rfl) rfl (pv_sadd (fun _ => by (try simp only [List.length_append, List.length_cons, List.length_nil]); omega) (.n rfl) rfl rfl rfl (fun _ => ⟨rfl, rfl⟩)) ?_
   refine qp 15 [.o 14] rfl rfl rfl rfl (by kernel_rfl) rfl (u_as rfl rfl rfl) ?_
   refine qm_n (by kernel_rfl) (by kernel_rfl) (by kernel_rfl) (by kernel_rfl) (.c 0 rfl (.c 5 rfl (.c 6 rfl (.c 7 rfl (.c 8 rfl (.c 9 rfl .n)))))) ?_
   refine r_seq (r_seq ?_)
   rcases hy : m.yes with _ | _
   ·skip
    have hms : mailS m = (kindL m.kind ++ numsL [m.deal, m.shop, m.ctr, m.dl]) ++ [10] := by unfold mailS; rw [hy]; simp
    refine r_region (p_fa fa_129_4 rfl rfl (p_ldc tc_4 rfl (by rfl) rfl ?_))
    refine o_keep (.c 0 rfl (.c 6 rfl (.c 7 rfl (.c 8 rfl (.c 9 rfl (.c 29 rfl .n)))))) (r_cond _ rfl (fun h2 => ?_) (fun h2 => ?_))
    ·simp at h2
    ·skip
     refine r_skip (r_region (p_mv rfl rfl (p_mv rfl rfl ?_)))
     refine p_bsl Tryz.underlying22 (.ofC tc_9) zr_9 (.c rfl rfl rfl .n) (rows := ([_] : List (List UInt8)).map rS) rfl rfl rfl rfl fun b34 hr34 => ?_
     refine p_callc cf_22 (.c rfl (.c rfl .n)) rfl (desk_say _ b tb u1 _ [kindL m.kind ++ numsL [m.deal, m.shop, m.ctr, m.dl]] (kindL m.kind ++ numsL [m.deal, m.shop, m.ctr, m.dl]) (join1 _) (by simp) (by simp; omega)) ?_
     refine o_keep (.c 0 rfl (.c 7 rfl (.c 8 rfl (.c 9 rfl .n)))) (r_end (r_region (p_add rfl rfl (by omega) rfl (p_mv rfl rfl (o_keep (.c 0 rfl (.c 7 rfl (.c 8 rfl (.c 9 rfl .n)))) ?_)))))
     refine r_back_2 (i + 1) (u1 ++ ((kindL m.kind ++ numsL [m.deal, m.shop, m.ctr, m.dl]) ++ [10])) ?_ ?_ (Keep.app (.c 9 rfl .n) (.c 0 rfl (.c 7 rfl (.c 8 rfl .n)))) ?_
     ·exact ⟨by omega, by rw [mailsU_take hm, hms, hU]; simp only [List.append_assoc], by simp; omega⟩
     ·omega
     ·repeat first|exact eR|refine eB ?_|refine eS ?_|refine eN ?_|refine eX ?_|refine eD ?_
   ·skip
    have hms : mailS m = (kindL m.kind ++ numsL [m.deal, m.shop, m.ctr, m.dl] ++ [32, 121, 101, 115]) ++ [10] := by unfold mailS; rw [hy]; simp
    refine r_region (p_fa fa_129_4 rfl rfl (p_ldc tc_4 rfl (by rfl) rfl ?_))
    refine o_keep (.c 0 rfl (.c 6 rfl (.c 7 rfl (.c 8 rfl (.c 9 rfl (.c 29 rfl .n)))))) (r_cond _ rfl (fun h3 => ?_) (fun h3 => ?_))
    ·skip
     refine r_region (p_mv rfl rfl ?_)
     refine l_op (x_p (pv_sadd (fun _ => by (try simp only [List.length_append, List.length_cons, List.length_nil]); omega) (.n rfl) rfl rfl rfl (fun _ => ⟨rfl, rfl⟩)) rfl rfl ?_)
     refine p_as rfl rfl (o_keep (.c 0 rfl (.c 6 rfl (.c 7 rfl (.c 8 rfl (.c 9 rfl .n))))) (r_region (p_mv rfl rfl (p_mv rfl rfl ?_))))
     refine p_bsl Tryz.underlying22 (.ofC tc_9) zr_9 (.c rfl rfl rfl .n) (rows := ([_] : List (List UInt8)).map rS) rfl rfl rfl rfl fun b34 hr34 => ?_
     refine p_callc cf_22 (.c rfl (.c rfl .n)) rfl (desk_say _ b tb u1 _ [(kindL m.kind ++ numsL [m.deal, m.shop, m.ctr, m.dl] ++ [32, 121, 101, 115])] ((kindL m.kind ++ numsL [m.deal, m.shop, m.ctr, m.dl] ++ [32, 121, 101, 115])) (join1 _) (by simp) (by simp; omega)) ?_
     refine o_keep (.c 0 rfl (.c 7 rfl (.c 8 rfl (.c 9 rfl .n)))) (r_end (r_region (p_add rfl rfl (by omega) rfl (p_mv rfl rfl (o_keep (.c 0 rfl (.c 7 rfl (.c 8 rfl (.c 9 rfl .n)))) ?_)))))
     refine r_back_2 (i + 1) (u1 ++ ((kindL m.kind ++ numsL [m.deal, m.shop, m.ctr, m.dl] ++ [32, 121, 101, 115]) ++ [10])) ?_ ?_ (Keep.app (.c 9 rfl .n) (.c 0 rfl (.c 7 rfl (.c 8 rfl .n)))) ?_
     ·exact ⟨by omega, by rw [mailsU_take hm, hms, hU]; simp only [List.append_assoc], by simp; omega⟩
     ·omega
     ·repeat first|exact eR|refine eB ?_|refine eS ?_|refine eN ?_|refine eX ?_|refine eD ?_
    ·simp at h3
  ·skip
   have hil : l.length ≤ i := by have := of_decide_eq_false h1; omega
   rw [List.take_of_length_le hil] at hU
   refine r_exit rfl (r_region (p_mv rfl rfl ?_))
   refine p_bsl Tryz.underlying22 (.ofC tc_9) zr_9 (.c rfl rfl rfl .n) (rows := ([[101, 110, 100]] : List (List UInt8)).map rS) rfl rfl rfl rfl fun b38 hr38 => ?_
   refine p_callc cf_22 (.c rfl (.c rfl .n)) rfl (desk_say _ b tb u1 _ [[101, 110, 100]] ([101, 110, 100]) (join1 _) (by simp) (by simp; omega)) ?_
   refine o_keep (.n) ?_
   refine r_fallc hF rfl ?_
   ·rw [show u ++ mailsS l = u1 ++ ([101, 110, 100] ++ [10]) by rw [hU, List.append_assoc]; rfl]; repeat first|exact eR|refine eB ?_|refine eS ?_|refine eN ?_|refine eX ?_|refine eD ?_

theorem desk_New (M : Amb)  : FnE (α := Nat × Nat) Tryz.prog M 6 [] [] (fun x => ptr x.1) (fun x => [bdI x.1 x.2, townP x.2 tn0]) := by
 refine fne_intro Tryz.func6 rfl Tryz.ntmps6 rfl fun R F hF => ?_
 refine r_cat ?_
 refine r_sr (p_as rfl rfl (o_keep (.c 0 rfl .n) (r_sr (l_op (x_p (pv_buildA zr_34 Tryz.underlying34 (.ofC tc_3) (.n rfl) rfl (.n)) rfl rfl (p_alloc zr_34 rfl fun b1 => ?_))))))
 refine p_store (.ofA ta_34) rfl rfl rfl (by first | rfl | exact (by first | rfl | assumption | (simp only [List.drop_zero, List.length_map]; assumption) | (simp [*]; done))) (by first | rfl | exact (by first | rfl | simp [vI, Value.oneCell'])) (Ins.whole (by first | rfl | (simp only [List.length_map, List.length_cons, List.length_nil]; omega) | (simp [*]; done) | (simp [*]; rfl))) ?_
 refine o_keep (.c 0 rfl (.c 1 rfl .n)) (r_seq (r_sr (p_mv rfl rfl (o_keep (.c 0 rfl (.c 1 rfl (.c 4 rfl .n))) (r_block ?_)))))
 refine r_loop_2 (fun (i : Nat) (vs : List Int) => [(4, true, .int .i64 (i : Int))]) (.c 0 rfl (.c 1 rfl .n)) (fun (i : Nat) (vs : List Int) => blk b1 (vs.map vI) 34 :: R) (fun (i : Nat) (vs : List Int) => i ≤ 6 ∧ vs.length = 6 ∧ ∀ j : Nat, j < i → vs.getD j 0 = hw.getD j 0) (fun (i : Nat) (vs : List Int) => 6 - i) (0) ([0, 0, 0, 0, 0, 0]) ?_ (.c 4 rfl .n) ?_ (fun i vs hI => ?_)
 ·exact ⟨Nat.zero_le _, rfl, fun j hj => by omega⟩
 ·repeat first|exact eR|refine eB ?_|refine eS ?_|refine eN ?_|refine eX ?_|refine eD ?_
 ·skip
  obtain ⟨hi0, hvl, hv⟩ := hI
  refine r_sr (p_lss rfl rfl rfl (o_keep (.c 0 rfl (.c 1 rfl (.c 4 rfl (.c 5 rfl .n)))) (r_seq (r_cond _ rfl (fun h1 => ?_) (fun h1 => ?_)))))
  ·skip
   have hi6 : i < 6 := by have := of_decide_eq_true h1; omega
   have h50 : (50 : Int) = hw.getD i 0 := by rcases (show i = 0 ∨ i = 1 ∨ i = 2 ∨ i = 3 ∨ i = 4 ∨ i = 5 by omega) with rfl | rfl | rfl | rfl | rfl | rfl <;> rfl
   refine r_skip (r_seq (r_block (r_sr (p_mv rfl rfl (p_as rfl rfl (o_keep (.c 0 rfl (.c 1 rfl (.c 2 rfl (.c 4 rfl .n)))) (r_region ?_)))))))
   refine p_mv rfl rfl (l_op (x_p (pv_aidx (i := i) Tryz.underlying34 (.ofC tc_3) (fun hg => ⟨rfl, hi6⟩) (.n rfl) rfl rfl rfl (fun _ => ⟨rfl, rfl⟩)) rfl rfl ?_))
   refine p_store (.ofC tc_3) rfl rfl rfl rfl rfl (Ins.atm' (f := vI) (i := i) (by omega) (by omega)) ?_
   refine o_keep (.c 0 rfl (.c 1 rfl (.c 4 rfl .n))) (r_end (r_region (p_add rfl rfl (by omega) rfl (p_mv rfl rfl (o_keep (.c 0 rfl (.c 1 rfl (.c 4 rfl .n))) ?_)))))
   refine r_back_2 (i + 1) (vs.set i 50) ?_ ?_ (Keep.app (.c 4 rfl .n) (.c 0 rfl (.c 1 rfl .n))) ?_
   ·exact ⟨by omega, by simp; omega, fun j hj => wset (n := i) (fun j hj => hv j (by omega)) (by omega) h50 j (by omega)⟩
   ·omega
   ·repeat first|exact eR|refine eB ?_|refine eS ?_|refine eN ?_|refine eX ?_|refine eD ?_
  ·skip
   have hi6 : i = 6 := by have := of_decide_eq_false h1; omega
   have hvW : vs = hw := wext hvl rfl fun j hj => hv j (by omega)
   subst hvW
   refine r_exit rfl (r_sr ?_)
   refine p_lda ta_34 rfl (by exact (Tk.all (by first | rfl | assumption | (simp only [List.drop_zero, List.length_map]; assumption) | (simp [*]; done)))) rfl ?_
   refine p_calle cf_8 (.c rfl .n) rfl (town_New_b _) fun tb => ?_
   refine o_cat ?_
   refine p_build zr_42 pl_42 (.c rfl (fun _ => rfl) rfl rfl rfl (by repeat constructor) .n) rfl ?_
   refine p_box rfl rfl rfl fun b13 => ?_
   refine p_as rfl rfl (o_keep (.c 0 rfl .n) ?_)
   refine r_rete ((b13, tb)) hF rfl (.c (.t rfl) .n) ?_ ?_
   ·refine Ent.catI ?_; refine Ent.c (bdI_close (.pointer Option.none) (.slice Option.none 0 0) rfl) ?_; repeat first|exact eR|refine eB ?_|refine eS ?_|refine eN ?_|refine eX ?_|refine eD ?_
   ·rfl

end Go.Proofs.YtmakdilmibjpbabGreatDoor
