/- The walks of ShopLaws2: written by a program of ours (gen.py) over the engine. -/
import Derived.Test.YtmakdilmibjpbabPlain
import Derived.Test.YtmakdilmibjpbabFacts
import Derived.Test.YtmakdilmibjpbabShopLaws
import Derived.Test.YtmakdilmibjpbabBoothW
namespace Go.Proofs.Ytmakdilmibjpbab
open Go Go.RowKit
set_option linter.unusedVariables false
set_option linter.unusedSimpArgs false
set_option maxRecDepth 20000

theorem booth_New_none (M : Amb) (no : Int) (ws : List Int) (h6 : ws.length = 6) (h : newS no ws = none) : FnC Try.prog M 64 [.int .i64 no, .agg (ws.map vI).toArray] (.pointer Option.none) [] [] := fun R w ho =>
  (booth_New M no ws h6 R w ho).mono fun _ _ ⟨v, H', e, ⟨x, h1, h2⟩, ho'⟩ => ⟨v, H', e, ⟨by rw [h1, h]; rfl, by rw [h2, h]; rfl⟩, ho'⟩
theorem booth_New_some (M : Amb) (no : Int) (ws : List Int) (h6 : ws.length = 6) {s : ShopS} (h : newS no ws = some s) : FnE (α := Nat) Try.prog M 64 [.int .i64 no, .agg (ws.map vI).toArray] [] (fun x => ptr x) (fun x => [boothP x s]) := fun R w ho =>
  (booth_New M no ws h6 R w ho).mono fun _ _ ⟨v, H', e, ⟨x, h1, h2⟩, ho'⟩ => ⟨v, H', e, ⟨x, by rw [h1, h]; rfl, by rw [h2, h]; rfl⟩, ho'⟩
def shVal (o : Option ShopS) (x : Nat × Nat) : Value := match o with | none => .tuple #[.pointer Option.none, .pointer Option.none, .bool true] | some _ => .tuple #[ptr x.1, ptr x.2, .bool true]
def shPs (o : Option ShopS) (ls : List SStep) (x : Nat × Nat) : List HP := match o with | none => [] | some s => [shopP x.1 (runS s ls), boothP x.2 (runS s ls)]

theorem law_shops (M : Amb) (no : Int) (ws : List Int) (h6 : ws.length = 6) (lv : Value) (ls : List SStep) (hl : Rd M [] lv 5 (ls.map rSS)) (hL : ls.length ≤ 150) : FnE (α := Nat × Nat) Try.prog M 24 [.int .i64 no, .agg (ws.map vI).toArray, lv] [] (fun x => shVal (newS no ws) x) (fun x => shPs (newS no ws) ls x) := by
  refine fne_intro Try.func24 rfl Try.ntmps24 rfl fun R F hF => ?_
  show Run _ _ _ _ _ _ R
  refine r_seq ?_
  refine r_region ?_
  refine p_box rfl rfl rfl fun b4 => ?_
  refine p_as rfl rfl ?_
  refine p_as rfl rfl ?_
  refine p_as rfl rfl ?_
  refine o_keep (.c 0 rfl (.c 2 rfl (.c 4 rfl (.c 6 rfl (.c 7 rfl (.c 8 rfl .n)))))) ?_
  refine r_seq ?_
  rcases hn : newS no ws with _ | s0
  · skip
    refine r_plan _ [] mo (.c 0 rfl (.c 2 rfl (.c 4 rfl (.c 6 rfl (.c 7 rfl (.c 8 rfl .n)))))) Ent.rfl ?_
    refine qm_q (i := 0) (l := [.k 0]) rfl rfl rfl rfl (by kernel_rfl) rfl (fun He => PV.rq (pv_mv (.n rfl) rfl rfl (fun _ => rfl))) ?_
    refine qm_q (i := 1) (l := [.k 4]) rfl rfl rfl rfl (by kernel_rfl) rfl (fun He => RV.rq (q_lda ta_42 (.n rfl) rfl rfl (fun _ => rfl) (by exact (Tk.all (by first | rfl | assumption | (simp only [List.drop_zero, List.length_map]; assumption) | (simp [*]; done)))))) ?_
    refine qm_q (i := 3) (l := [.k 0]) rfl rfl rfl rfl (by kernel_rfl) rfl (fun He => PV.rq (pv_mv (.n rfl) rfl rfl (fun _ => rfl))) ?_
    refine qm_q (i := 4) (l := [.k 4]) rfl rfl rfl rfl (by kernel_rfl) rfl (fun He => RV.rq (q_lda ta_42 (.n rfl) rfl rfl (fun _ => rfl) (by exact (Tk.all (by first | rfl | assumption | (simp only [List.drop_zero, List.length_map]; assumption) | (simp [*]; done)))))) ?_
    refine qm_callc (i := 2) [.o 0, .o 1] (by kernel_rfl) (by kernel_rfl) rfl rfl rfl rfl (by kernel_rfl) (by kernel_rfl) ⟨_, .n rfl, rfl⟩ cf_31 rfl (.c rfl (.c rfl .n)) (shop_New_none _ no ws h6 hn) ?_
    refine qb_callc (i := 5) [.o 3, .o 4] (by kernel_rfl) (by kernel_rfl) rfl rfl rfl rfl (by kernel_rfl) (by kernel_rfl) (by kernel_rfl) ⟨_, .n rfl, rfl⟩ cf_64 rfl (.c rfl (.c rfl .n)) (booth_New_none _ no ws h6 hn) ?_
    refine qm_q (i := 6) (l := [.o 2]) rfl rfl rfl rfl (by kernel_rfl) rfl (fun He => PV.rq (pv_as (.n rfl) rfl rfl (fun _ => rfl))) ?_
    refine qm_q (i := 7) (l := [.o 5]) rfl rfl rfl rfl (by kernel_rfl) rfl (fun He => PV.rq (pv_as (.n rfl) rfl rfl (fun _ => rfl))) ?_
    refine qm_n (by kernel_rfl) (by kernel_rfl) (by kernel_rfl) (by kernel_rfl) (.c 2 rfl (.c 6 rfl (.c 7 rfl (.c 8 rfl (.c 9 rfl (.c 10 rfl .n)))))) ?_
    refine r_seq ?_
    refine r_seq ?_
    refine r_region ?_
    refine p_mv rfl rfl ?_
    refine l_op (x_p (pv_peqn Try.underlying44 (.n rfl) rfl rfl rfl (fun _ => ⟨rfl, rfl⟩)) rfl rfl ?_)
    refine p_mv rfl rfl ?_
    refine l_op (x_p (pv_mv (.s rfl rfl rfl) rfl rfl (by first | exact fun _ => rfl | exact id | exact fun h => (Bool.and_eq_true_iff.1 h).1 | simp_all)) rfl rfl ?_)
    refine l_op (x_p (pv_peqn Try.underlying45 (.s rfl rfl rfl) rfl rfl rfl (by refine fun h => ⟨?_, ?_⟩ <;> first | rfl | exact h | exact (Bool.and_eq_true_iff.1 h).1 | simp_all)) rfl rfl ?_)
    refine l_op (x_p (pv_or (.n rfl) rfl rfl rfl (fun _ => ⟨rfl, fun hc => by first | rfl | (rw [hc]; rfl) | simp_all⟩)) rfl rfl ?_)
    refine o_keep (.c 2 rfl (.c 6 rfl (.c 7 rfl (.c 8 rfl (.c 9 rfl (.c 10 rfl (.c 24 rfl .n))))))) ?_
    refine r_cond _ rfl (fun h1 => ?_) (fun h1 => ?_)
    · skip
      refine r_seq ?_
      refine r_region ?_
      refine p_mv rfl rfl ?_
      refine p_mv rfl rfl ?_
      refine p_mv rfl rfl ?_
      refine l_op (x_p (pv_peqn Try.underlying44 (.n rfl) rfl rfl rfl (fun _ => ⟨rfl, rfl⟩)) rfl rfl ?_)
      refine p_mv rfl rfl ?_
      refine l_op (x_p (pv_mv (.s rfl rfl rfl) rfl rfl (by first | exact fun _ => rfl | exact id | exact fun h => (Bool.and_eq_true_iff.1 h).1 | simp_all)) rfl rfl ?_)
      refine l_op (x_p (pv_peqn Try.underlying45 (.s rfl rfl rfl) rfl rfl rfl (by refine fun h => ⟨?_, ?_⟩ <;> first | rfl | exact h | exact (Bool.and_eq_true_iff.1 h).1 | simp_all)) rfl rfl ?_)
      refine l_op (x_p (pv_and (.n rfl) rfl rfl rfl (fun _ => ⟨rfl, fun hc => by first | rfl | (rw [hc]; rfl) | simp_all⟩)) rfl rfl ?_)
      refine p_as rfl rfl ?_
      refine p_as rfl rfl ?_
      refine p_as rfl rfl ?_
      refine o_keep (.c 2 rfl (.c 6 rfl (.c 7 rfl (.c 8 rfl (.c 9 rfl (.c 10 rfl .n)))))) ?_
      refine r_rete ((0, 0)) hF rfl (.c (.t rfl) (.c (.t rfl) (.c (.t rfl) .n))) ?_ ?_
      · show Ent _ (shPs _ _ _ ++ R); rw [hn]; show Ent _ R; first | exact Ent.rfl | (repeat (first | exact Ent.rfl | refine Ent.c (SelB.ent) ?_ | refine Ent.c (SelS.ent) ?_ | refine Ent.cN ?_ | refine Ent.c (SelX.ent) ?_ | refine Ent.dropR ?_))
      · rw [hn]; rfl
    · simp at h1
  · skip
    refine r_plan _ [] mo (.c 0 rfl (.c 2 rfl (.c 4 rfl (.c 6 rfl (.c 7 rfl (.c 8 rfl .n)))))) Ent.rfl ?_
    refine qm_q (i := 0) (l := [.k 0]) rfl rfl rfl rfl (by kernel_rfl) rfl (fun He => PV.rq (pv_mv (.n rfl) rfl rfl (fun _ => rfl))) ?_
    refine qm_q (i := 1) (l := [.k 4]) rfl rfl rfl rfl (by kernel_rfl) rfl (fun He => RV.rq (q_lda ta_42 (.n rfl) rfl rfl (fun _ => rfl) (by exact (Tk.all (by first | rfl | assumption | (simp only [List.drop_zero, List.length_map]; assumption) | (simp [*]; done)))))) ?_
    refine qm_q (i := 3) (l := [.k 0]) rfl rfl rfl rfl (by kernel_rfl) rfl (fun He => PV.rq (pv_mv (.n rfl) rfl rfl (fun _ => rfl))) ?_
    refine qm_q (i := 4) (l := [.k 4]) rfl rfl rfl rfl (by kernel_rfl) rfl (fun He => RV.rq (q_lda ta_42 (.n rfl) rfl rfl (fun _ => rfl) (by exact (Tk.all (by first | rfl | assumption | (simp only [List.drop_zero, List.length_map]; assumption) | (simp [*]; done)))))) ?_
    refine qm_calle (i := 2) [.o 0, .o 1] (by kernel_rfl) (by kernel_rfl) rfl rfl rfl rfl (by kernel_rfl) (by kernel_rfl) ⟨_, .n rfl, rfl⟩ cf_31 rfl (.c rfl (.c rfl .n)) (shop_New_some _ no ws h6 hn) fun b15 => ?_
    refine qm_cat ?_
    refine qb_calle (i := 5) [.o 3, .o 4] (by kernel_rfl) (by kernel_rfl) rfl rfl rfl rfl (by kernel_rfl) (by kernel_rfl) (by kernel_rfl) ⟨_, .n rfl, rfl⟩ cf_64 rfl (.c rfl (.c rfl .n)) (booth_New_some _ no ws h6 hn) fun b18 => ?_
    refine qm_cat ?_
    refine qm_q (i := 6) (l := [.o 2]) rfl rfl rfl rfl (by kernel_rfl) rfl (fun He => PV.rq (pv_as (.n rfl) rfl rfl (fun _ => rfl))) ?_
    refine qm_q (i := 7) (l := [.o 5]) rfl rfl rfl rfl (by kernel_rfl) rfl (fun He => PV.rq (pv_as (.n rfl) rfl rfl (fun _ => rfl))) ?_
    refine qm_n (by kernel_rfl) (by kernel_rfl) (by kernel_rfl) (by kernel_rfl) (.c 2 rfl (.c 6 rfl (.c 7 rfl (.c 8 rfl (.c 9 rfl (.c 10 rfl .n)))))) ?_
    refine r_seq ?_
    refine r_seq ?_
    refine r_region ?_
    refine p_mv rfl rfl ?_
    refine l_op (x_p (pv_peqn Try.underlying44 (.n rfl) rfl rfl rfl (fun _ => ⟨rfl, rfl⟩)) rfl rfl ?_)
    refine p_mv rfl rfl ?_
    refine l_op (x_p (pv_mv (.s rfl rfl rfl) rfl rfl (by first | exact fun _ => rfl | exact id | exact fun h => (Bool.and_eq_true_iff.1 h).1 | simp_all)) rfl rfl ?_)
    refine l_op (x_p (pv_peqn Try.underlying45 (.s rfl rfl rfl) rfl rfl rfl (by refine fun h => ⟨?_, ?_⟩ <;> first | rfl | exact h | exact (Bool.and_eq_true_iff.1 h).1 | simp_all)) rfl rfl ?_)
    refine l_op (x_p (pv_or (.n rfl) rfl rfl rfl (fun _ => ⟨rfl, fun hc => by first | rfl | (rw [hc]; rfl) | simp_all⟩)) rfl rfl ?_)
    refine o_keep (.c 2 rfl (.c 6 rfl (.c 7 rfl (.c 8 rfl (.c 9 rfl (.c 10 rfl (.c 24 rfl .n))))))) ?_
    refine r_cond _ rfl (fun h2 => ?_) (fun h2 => ?_)
    · simp at h2
    · skip
      refine r_skip ?_
      refine r_seq ?_
      refine r_seq ?_
      refine r_region ?_
      refine p_as rfl rfl ?_
      refine o_keep (.c 2 rfl (.c 6 rfl (.c 7 rfl (.c 8 rfl (.c 9 rfl (.c 10 rfl (.c 11 rfl .n))))))) ?_
      refine r_block ?_
      refine r_loop_2 (fun (i : Nat) (s : ShopS) => [(11, true, .int .i64 (i : Int))]) (.c 2 rfl (.c 6 rfl (.c 7 rfl (.c 8 rfl (.c 9 rfl (.c 10 rfl .n)))))) (fun (i : Nat) (s : ShopS) => shopP b15 s :: boothP b18 s :: blk b4 (ws.map vI) 42 :: R) (fun (i : Nat) (s : ShopS) => i ≤ ls.length ∧ ShInv s ∧ s = runS s0 (ls.take i)) (fun (i : Nat) (s : ShopS) => ls.length - i) (0) (s0) ?_ (.c 11 rfl .n) ?_ (fun i s hI => ?_)
      · exact ⟨Nat.zero_le _, (newS_ok hn).1, rfl⟩
      · first | exact Ent.rfl | (repeat (first | exact Ent.rfl | refine Ent.c (SelB.ent) ?_ | refine Ent.c (SelS.ent) ?_ | refine Ent.cN ?_ | refine Ent.c (SelX.ent) ?_ | refine Ent.dropR ?_))
      · skip
        obtain ⟨hil, hS, hR⟩ := hI
        have hh1 := hS.holds_le
        have hh2 := hS.over_le
        have hno0 := hS.no0
        have hcc : ∀ h ∈ s.holds, 0 ≤ h.ctr := fun h hm => by have := hS.h h hm; omega
        refine r_seq ?_
        refine r_seq ?_
        refine r_region ?_
        refine p_mv rfl rfl ?_
        refine p_mv rfl rfl ?_
        refine l_op (x_p (pv_lens hl.len ⟨_, Try.underlying43⟩ (.n rfl) rfl rfl rfl rfl (fun _ => rfl)) rfl rfl ?_)
        refine p_lss rfl rfl rfl ?_
        refine o_keep (.c 2 rfl (.c 6 rfl (.c 7 rfl (.c 8 rfl (.c 9 rfl (.c 10 rfl (.c 11 rfl (.c 36 rfl .n)))))))) ?_
        refine r_cond _ rfl (fun h3 => ?_) (fun h3 => ?_)
        · skip
          obtain ⟨x, hx⟩ := getlt (l := ls) (i := i) (by have := of_decide_eq_true h3; omega)
          have hil2 := (List.getElem?_eq_some_iff.1 hx).1
          refine r_skip ?_
          refine r_seq ?_
          refine r_block ?_
          refine r_seq ?_
          refine r_region ?_
          refine p_mv rfl rfl ?_
          refine p_mv rfl rfl ?_
          refine p_idx Try.underlying43 (.ofA ta_63) hl rfl (mapget hx) rfl rfl rfl ?_
          refine p_ldats 0 ta_63 (Rd.ent hl (by repeat (first | exact Ent.rfl | exact Ent.one Ent.h | exact Ent.one (SelS.ent) | exact Ent.nil | exact Ent.left | refine Ent.dropR ?_ | refine Ent.tr Ent.skip ?_))) (mapget hx) rfl rfl (.s (.s (.s (.s (.s .z))))) rfl ?_
          refine p_alloc zr_63 rfl fun b12 => ?_
          refine p_store (.ofA ta_63) rfl rfl rfl rfl rfl (by repeat constructor) ?_
          refine o_keep (.c 2 rfl (.c 6 rfl (.c 7 rfl (.c 8 rfl (.c 9 rfl (.c 10 rfl (.c 11 rfl (.c 12 rfl .n)))))))) ?_
          refine r_seq ?_
          refine r_region ?_
          refine p_fa fa_63_0 rfl rfl ?_
          refine p_ldc tc_3 rfl (by rfl) rfl ?_
          refine o_keep (.c 2 rfl (.c 6 rfl (.c 7 rfl (.c 8 rfl (.c 9 rfl (.c 10 rfl (.c 11 rfl (.c 12 rfl (.c 44 rfl .n))))))))) ?_
          refine r_cut_1 (fun (s2 : ShopS) => []) (.c 2 rfl (.c 6 rfl (.c 7 rfl (.c 8 rfl (.c 9 rfl (.c 10 rfl (.c 11 rfl .n))))))) (fun (s2 : ShopS) => shopP b15 s2 :: boothP b18 s2 :: blk b4 (ws.map vI) 42 :: R) (fun (s2 : ShopS) => s2 = (stepSh s x).1) ?_ (fun s2 hI => ?_)
          · skip
            refine r_block ?_
            refine r_seq ?_
            refine r_region ?_
            refine p_eql rfl rfl rfl ?_
            refine p_as rfl rfl ?_
            refine o_keep (.c 2 rfl (.c 6 rfl (.c 7 rfl (.c 8 rfl (.c 9 rfl (.c 10 rfl (.c 11 rfl (.c 12 rfl (.c 44 rfl (.c 45 rfl .n)))))))))) ?_
            refine r_cond _ rfl (fun h4 => ?_) (fun h4 => ?_)
            · skip
              have hx0 : x.d = 0 := of_decide_eq_true h4
              have hse : stepSh s x = holdS s x.deal x.w := by unfold stepSh; rw [if_pos hx0]
              refine r_seq ?_
              refine r_plan (_) ([shopP b15 s, boothP b18 s]) mo (.c 2 rfl (.c 6 rfl (.c 7 rfl (.c 8 rfl (.c 9 rfl (.c 10 rfl (.c 11 rfl (.c 12 rfl .n)))))))) ((Ent.c SelX.ent (Ent.c SelX.ent Ent.rfl))) ?_
              refine qm_q (i := 0) (l := [.k 9]) rfl rfl rfl rfl (by kernel_rfl) rfl (fun He => PV.rq (pv_mv (.n rfl) rfl rfl (fun _ => rfl))) ?_
              refine qm_q (i := 1) (l := [.k 12]) rfl rfl rfl rfl (by kernel_rfl) rfl (fun He => PV.rq (pv_fa fa_63_1 (.n rfl) rfl rfl (fun _ => rfl))) ?_
              refine qm_q (i := 2) (l := [.o 1]) rfl rfl rfl rfl (by kernel_rfl) rfl (fun He => RV.rq (q_ldc tc_3 (.n rfl) rfl rfl (fun _ => rfl) (by rfl))) ?_
              refine qm_q (i := 3) (l := [.k 12]) rfl rfl rfl rfl (by kernel_rfl) rfl (fun He => PV.rq (pv_fa fa_63_2 (.n rfl) rfl rfl (fun _ => rfl))) ?_
              refine qm_q (i := 4) (l := [.o 3]) rfl rfl rfl rfl (by kernel_rfl) rfl (fun He => RV.rq (q_lda ta_35 (.n rfl) rfl rfl (fun _ => rfl) (by exact (.s (.s .z))))) ?_
              refine qm_q (i := 6) (l := [.k 10]) rfl rfl rfl rfl (by kernel_rfl) rfl (fun He => PV.rq (pv_mv (.n rfl) rfl rfl (fun _ => rfl))) ?_
              refine qm_q (i := 7) (l := [.k 12]) rfl rfl rfl rfl (by kernel_rfl) rfl (fun He => PV.rq (pv_fa fa_63_1 (.n rfl) rfl rfl (fun _ => rfl))) ?_
              refine qm_q (i := 8) (l := [.o 7]) rfl rfl rfl rfl (by kernel_rfl) rfl (fun He => RV.rq (q_ldc tc_3 (.n rfl) rfl rfl (fun _ => rfl) (by rfl))) ?_
              refine qm_q (i := 9) (l := [.k 12]) rfl rfl rfl rfl (by kernel_rfl) rfl (fun He => PV.rq (pv_fa fa_63_2 (.n rfl) rfl rfl (fun _ => rfl))) ?_
              refine qm_q (i := 10) (l := [.o 9]) rfl rfl rfl rfl (by kernel_rfl) rfl (fun He => RV.rq (q_lda ta_35 (.n rfl) rfl rfl (fun _ => rfl) (by exact (.s (.s .z))))) ?_
              refine qm_callc (i := 5) [.o 0, .o 2, .o 4] (by kernel_rfl) (by kernel_rfl) rfl rfl rfl rfl (by kernel_rfl) (by kernel_rfl) ⟨_, .n rfl, rfl⟩ cf_32 rfl (.c rfl (.c rfl (.c rfl .n))) (shop_Hold _ b15 s (by omega) (by omega) hno0 x.deal x.w) ?_
              refine qb_callc (i := 11) [.o 6, .o 8, .o 10] (by kernel_rfl) (by kernel_rfl) rfl rfl rfl rfl (by kernel_rfl) (by kernel_rfl) (by kernel_rfl) ⟨_, .n rfl, rfl⟩ cf_65 rfl (.c rfl (.c rfl (.c rfl .n))) (booth_Hold _ b18 s hS x.deal x.w) ?_
              refine qm_q (i := 12) (l := [.o 5, .o 11]) rfl rfl rfl rfl (by kernel_rfl) rfl (fun He => PV.rq (pv_neq (.n rfl) rfl rfl rfl (fun _ => ⟨rfl, rfl⟩))) ?_
              refine qm_n (by kernel_rfl) (by kernel_rfl) (by kernel_rfl) (by kernel_rfl) (.c 2 rfl (.c 6 rfl (.c 7 rfl (.c 8 rfl (.c 9 rfl (.c 10 rfl (.c 11 rfl (.c 59 rfl .n)))))))) ?_
              refine r_cond _ rfl (fun h5 => ?_) (fun h5 => ?_)
              · simp at h5
              · skip
                refine r_skip ?_
                refine r_end ?_
                refine r_join_1 ((holdS s x.deal x.w).1) ?_ (Keep.app (.n) (.c 2 rfl (.c 6 rfl (.c 7 rfl (.c 8 rfl (.c 9 rfl (.c 10 rfl (.c 11 rfl .n)))))))) ?_
                · rw [hse]
                · first | exact Ent.rfl | (repeat (first | exact Ent.rfl | refine Ent.c (SelB.ent) ?_ | refine Ent.c (SelS.ent) ?_ | refine Ent.cN ?_ | refine Ent.c (SelX.ent) ?_ | refine Ent.dropR ?_))
            · skip
              have hx0 : ¬ x.d = 0 := of_decide_eq_false h4
              refine r_seq ?_
              refine r_region ?_
              refine p_eql rfl rfl rfl ?_
              refine p_as rfl rfl ?_
              refine o_keep (.c 2 rfl (.c 6 rfl (.c 7 rfl (.c 8 rfl (.c 9 rfl (.c 10 rfl (.c 11 rfl (.c 12 rfl (.c 62 rfl .n))))))))) ?_
              refine r_cond _ rfl (fun h6 => ?_) (fun h6 => ?_)
              · skip
                have hx1 : x.d = 1 := of_decide_eq_true h6
                have hse : stepSh s x = endS s x.deal x.done := by unfold stepSh; rw [if_neg hx0, if_pos hx1]
                refine r_seq ?_
                refine r_plan (_) ([shopP b15 s, boothP b18 s]) mo (.c 2 rfl (.c 6 rfl (.c 7 rfl (.c 8 rfl (.c 9 rfl (.c 10 rfl (.c 11 rfl (.c 12 rfl .n)))))))) ((Ent.c SelX.ent (Ent.c SelX.ent Ent.rfl))) ?_
                refine qm_q (i := 0) (l := [.k 9]) rfl rfl rfl rfl (by kernel_rfl) rfl (fun He => PV.rq (pv_mv (.n rfl) rfl rfl (fun _ => rfl))) ?_
                refine qm_q (i := 1) (l := [.k 12]) rfl rfl rfl rfl (by kernel_rfl) rfl (fun He => PV.rq (pv_fa fa_63_1 (.n rfl) rfl rfl (fun _ => rfl))) ?_
                refine qm_q (i := 2) (l := [.o 1]) rfl rfl rfl rfl (by kernel_rfl) rfl (fun He => RV.rq (q_ldc tc_3 (.n rfl) rfl rfl (fun _ => rfl) (by rfl))) ?_
                refine qm_q (i := 3) (l := [.k 12]) rfl rfl rfl rfl (by kernel_rfl) rfl (fun He => PV.rq (pv_fa fa_63_3 (.n rfl) rfl rfl (fun _ => rfl))) ?_
                refine qm_q (i := 4) (l := [.o 3]) rfl rfl rfl rfl (by kernel_rfl) rfl (fun He => RV.rq (q_ldc tc_4 (.n rfl) rfl rfl (fun _ => rfl) (by rfl))) ?_
                refine qm_q (i := 6) (l := [.k 10]) rfl rfl rfl rfl (by kernel_rfl) rfl (fun He => PV.rq (pv_mv (.n rfl) rfl rfl (fun _ => rfl))) ?_
                refine qm_q (i := 7) (l := [.k 12]) rfl rfl rfl rfl (by kernel_rfl) rfl (fun He => PV.rq (pv_fa fa_63_1 (.n rfl) rfl rfl (fun _ => rfl))) ?_
                refine qm_q (i := 8) (l := [.o 7]) rfl rfl rfl rfl (by kernel_rfl) rfl (fun He => RV.rq (q_ldc tc_3 (.n rfl) rfl rfl (fun _ => rfl) (by rfl))) ?_
                refine qm_q (i := 9) (l := [.k 12]) rfl rfl rfl rfl (by kernel_rfl) rfl (fun He => PV.rq (pv_fa fa_63_3 (.n rfl) rfl rfl (fun _ => rfl))) ?_
                refine qm_q (i := 10) (l := [.o 9]) rfl rfl rfl rfl (by kernel_rfl) rfl (fun He => RV.rq (q_ldc tc_4 (.n rfl) rfl rfl (fun _ => rfl) (by rfl))) ?_
                refine qm_callc (i := 5) [.o 0, .o 2, .o 4] (by kernel_rfl) (by kernel_rfl) rfl rfl rfl rfl (by kernel_rfl) (by kernel_rfl) ⟨_, .n rfl, rfl⟩ cf_33 rfl (.c rfl (.c rfl (.c rfl .n))) (shop_End _ b15 s (by omega) (by omega) hcc x.deal x.done) ?_
                refine qb_callc (i := 11) [.o 6, .o 8, .o 10] (by kernel_rfl) (by kernel_rfl) rfl rfl rfl rfl (by kernel_rfl) (by kernel_rfl) (by kernel_rfl) ⟨_, .n rfl, rfl⟩ cf_66 rfl (.c rfl (.c rfl (.c rfl .n))) (booth_End _ b18 s hS x.deal x.done) ?_
                refine qm_q (i := 12) (l := [.o 5, .o 11]) rfl rfl rfl rfl (by kernel_rfl) rfl (fun He => PV.rq (pv_neq (.n rfl) rfl rfl rfl (fun _ => ⟨rfl, rfl⟩))) ?_
                refine qm_n (by kernel_rfl) (by kernel_rfl) (by kernel_rfl) (by kernel_rfl) (.c 2 rfl (.c 6 rfl (.c 7 rfl (.c 8 rfl (.c 9 rfl (.c 10 rfl (.c 11 rfl (.c 76 rfl .n)))))))) ?_
                refine r_cond _ rfl (fun h7 => ?_) (fun h7 => ?_)
                · simp at h7
                · skip
                  refine r_skip ?_
                  refine r_end ?_
                  refine r_join_1 ((endS s x.deal x.done).1) ?_ (Keep.app (.n) (.c 2 rfl (.c 6 rfl (.c 7 rfl (.c 8 rfl (.c 9 rfl (.c 10 rfl (.c 11 rfl .n)))))))) ?_
                  · rw [hse]
                  · first | exact Ent.rfl | (repeat (first | exact Ent.rfl | refine Ent.c (SelB.ent) ?_ | refine Ent.c (SelS.ent) ?_ | refine Ent.cN ?_ | refine Ent.c (SelX.ent) ?_ | refine Ent.dropR ?_))
              · skip
                have hx1 : ¬ x.d = 1 := of_decide_eq_false h6
                have hse : stepSh s x = (s, 0) := by unfold stepSh; rw [if_neg hx0, if_neg hx1]
                refine r_skip ?_
                refine r_end ?_
                refine r_join_1 (s) ?_ (Keep.app (.n) (.c 2 rfl (.c 6 rfl (.c 7 rfl (.c 8 rfl (.c 9 rfl (.c 10 rfl (.c 11 rfl .n)))))))) ?_
                · rw [hse]
                · first | exact Ent.rfl | (repeat (first | exact Ent.rfl | refine Ent.c (SelB.ent) ?_ | refine Ent.c (SelS.ent) ?_ | refine Ent.cN ?_ | refine Ent.c (SelX.ent) ?_ | refine Ent.dropR ?_))
          obtain rfl := hI
          refine r_end ?_
          refine r_region ?_
          refine p_mv rfl rfl ?_
          refine p_add rfl rfl (by omega) rfl ?_
          refine p_as rfl rfl ?_
          refine o_keep (.c 2 rfl (.c 6 rfl (.c 7 rfl (.c 8 rfl (.c 9 rfl (.c 10 rfl (.c 11 rfl .n))))))) ?_
          refine r_back_2 (i + 1) ((stepSh s x).1) ?_ ?_ (Keep.app (.c 11 rfl .n) (.c 2 rfl (.c 6 rfl (.c 7 rfl (.c 8 rfl (.c 9 rfl (.c 10 rfl .n))))))) ?_
          · exact ⟨by omega, hS.stp x, by rw [take_S hx, runS_app, ← hR]⟩
          · omega
          · first | exact Ent.rfl | (repeat (first | exact Ent.rfl | refine Ent.c (SelB.ent) ?_ | refine Ent.c (SelS.ent) ?_ | refine Ent.cN ?_ | refine Ent.c (SelX.ent) ?_ | refine Ent.dropR ?_))
        · skip
          have hil2 : ls.length ≤ i := by have := of_decide_eq_false h3; omega
          rw [List.take_of_length_le hil2] at hR
          refine r_exit rfl ?_
          refine r_seq ?_
          refine r_region ?_
          refine p_mv rfl rfl ?_
          refine p_mv rfl rfl ?_
          refine p_as rfl rfl ?_
          refine p_as rfl rfl ?_
          refine p_as rfl rfl ?_
          refine o_keep (.c 6 rfl (.c 7 rfl (.c 8 rfl .n))) ?_
          refine r_rete ((b15, b18)) hF rfl (.c (.t rfl) (.c (.t rfl) (.c (.t rfl) .n))) ?_ ?_
          · show Ent _ (shPs _ _ _ ++ R); rw [hn]; show Ent _ (shopP b15 (runS s0 ls) :: boothP b18 (runS s0 ls) :: R); rw [← hR]; first | exact Ent.rfl | (repeat (first | exact Ent.rfl | refine Ent.c (SelB.ent) ?_ | refine Ent.c (SelS.ent) ?_ | refine Ent.cN ?_ | refine Ent.c (SelX.ent) ?_ | refine Ent.dropR ?_))
          · rw [hn]; rfl

theorem shops_none (M : Amb) (no : Int) (ws : List Int) (h6 : ws.length = 6) (lv : Value) (ls : List SStep) (hl : Rd M [] lv 5 (ls.map rSS)) (hL : ls.length ≤ 150) (h : newS no ws = none) : FnC Try.prog M 24 [.int .i64 no, .agg (ws.map vI).toArray, lv] (.tuple #[.pointer Option.none, .pointer Option.none, .bool true]) [] [] := fun R w ho =>
  (law_shops M no ws h6 lv ls hl hL R w ho).mono fun _ _ ⟨v, H', e, ⟨x, h1, h2⟩, ho'⟩ => ⟨v, H', e, ⟨by rw [h1, h]; rfl, by rw [h2, h]; rfl⟩, ho'⟩
theorem shops_some (M : Amb) (no : Int) (ws : List Int) (h6 : ws.length = 6) (lv : Value) (ls : List SStep) (hl : Rd M [] lv 5 (ls.map rSS)) (hL : ls.length ≤ 150) {s : ShopS} (h : newS no ws = some s) : FnE (α := Nat × Nat) Try.prog M 24 [.int .i64 no, .agg (ws.map vI).toArray, lv] [] (fun x => .tuple #[ptr x.1, ptr x.2, .bool true]) (fun x => [shopP x.1 (runS s ls), boothP x.2 (runS s ls)]) := fun R w ho =>
  (law_shops M no ws h6 lv ls hl hL R w ho).mono fun _ _ ⟨v, H', e, ⟨x, h1, h2⟩, ho'⟩ => ⟨v, H', e, ⟨x, by rw [h1, h]; rfl, by rw [h2, h]; rfl⟩, ho'⟩

theorem law_ShopDoes (M : Amb) (H : List HP) (no : Int) (ws : List Int) (h6 : ws.length = 6) (lv : Value) (ls : List SStep) (hl : Rd M [] lv 5 (ls.map rSS)) (d : Int) : FnV Try.prog M H 4 [.int .i64 no, .agg (ws.map vI).toArray, lv, .int .i64 d] (.bool true) := by
  refine fn_intro Try.func4 rfl Try.ntmps4 rfl fun F hF => ?_
  refine r_seq ?_
  refine r_region ?_
  refine p_box rfl rfl rfl fun b5 => ?_
  refine p_as rfl rfl ?_
  refine o_keep (.c 0 rfl (.c 2 rfl (.c 3 rfl (.c 5 rfl (.c 8 rfl .n))))) ?_
  refine r_seq ?_
  refine r_seq ?_
  refine r_region ?_
  refine p_callv cf_23 (.n) rfl (law_shopBegun _ _) ?_
  refine p_not rfl rfl ?_
  refine o_keep (.c 0 rfl (.c 2 rfl (.c 3 rfl (.c 5 rfl (.c 8 rfl (.c 17 rfl .n)))))) ?_
  refine r_cond _ rfl (fun h1 => ?_) (fun h1 => ?_)
  · simp at h1
  · skip
    refine r_skip ?_
    refine r_seq ?_
    refine r_seq ?_
    refine r_region ?_
    refine p_mv rfl rfl ?_
    refine l_op (x_p (pv_lens hl.len ⟨_, Try.underlying43⟩ (.n rfl) rfl rfl rfl rfl (fun _ => rfl)) rfl rfl ?_)
    refine p_gtr rfl rfl rfl ?_
    refine o_keep (.c 0 rfl (.c 2 rfl (.c 3 rfl (.c 5 rfl (.c 8 rfl (.c 20 rfl .n)))))) ?_
    refine r_cond _ rfl (fun h2 => ?_) (fun h2 => ?_)
    · skip
      refine r_seq ?_
      refine r_region ?_
      refine p_as rfl rfl ?_
      refine o_keep (.c 0 rfl (.c 2 rfl (.c 3 rfl (.c 5 rfl (.c 8 rfl .n))))) ?_
      refine r_retv hF rfl (.c (.t rfl) .n) ?_ ?_
      · first | exact Ent.rfl | (repeat (first | exact Ent.rfl | refine Ent.c (SelB.ent) ?_ | refine Ent.c (SelS.ent) ?_ | refine Ent.cN ?_ | refine Ent.c (SelX.ent) ?_ | refine Ent.dropR ?_))
      · first | rfl | exact bool_eq (by simp)
    · skip
      have hL := of_decide_eq_false h2
      refine r_skip ?_
      refine r_seq ?_
      rcases hn : newS no ws with _ | s0
      · skip
        refine r_region ?_
        refine p_mv rfl rfl ?_
        refine p_lda ta_42 rfl (by exact (Tk.all (by first | rfl | assumption | (simp only [List.drop_zero, List.length_map]; assumption) | (simp [*]; done)))) rfl ?_
        refine p_mv rfl rfl ?_
        refine p_callc cf_24 (.c rfl (.c rfl (.c rfl .n))) rfl (shops_none _ no ws h6 lv ls hl (by omega) hn) ?_
        refine p_mv rfl rfl ?_
        refine p_ext rfl rfl rfl ?_
        refine p_ext rfl rfl rfl ?_
        refine p_ext rfl rfl rfl ?_
        refine p_as rfl rfl ?_
        refine p_as rfl rfl ?_
        refine p_as rfl rfl ?_
        refine o_keep (.c 3 rfl (.c 8 rfl (.c 9 rfl (.c 10 rfl (.c 11 rfl .n))))) ?_
        refine r_seq ?_
        refine r_seq ?_
        refine r_region ?_
        refine p_mv rfl rfl ?_
        refine p_not rfl rfl ?_
        refine p_mv rfl rfl ?_
        refine l_op (x_p (pv_mv (.s rfl rfl rfl) rfl rfl (by first | exact fun _ => rfl | exact id | exact fun h => (Bool.and_eq_true_iff.1 h).1 | simp_all)) rfl rfl ?_)
        refine l_op (x_p (pv_peqn Try.underlying44 (.s rfl rfl rfl) rfl rfl rfl (by refine fun h => ⟨?_, ?_⟩ <;> first | rfl | exact h | exact (Bool.and_eq_true_iff.1 h).1 | simp_all)) rfl rfl ?_)
        refine l_op (x_p (pv_or (.n rfl) rfl rfl rfl (fun _ => ⟨rfl, fun hc => by first | rfl | (rw [hc]; rfl) | simp_all⟩)) rfl rfl ?_)
        refine o_keep (.c 3 rfl (.c 8 rfl (.c 9 rfl (.c 10 rfl (.c 11 rfl (.c 34 rfl .n)))))) ?_
        refine r_cond _ rfl (fun h3 => ?_) (fun h3 => ?_)
        · skip
          refine r_seq ?_
          refine r_region ?_
          refine p_mv rfl rfl ?_
          refine p_as rfl rfl ?_
          refine o_keep (.c 3 rfl (.c 8 rfl (.c 9 rfl (.c 10 rfl .n)))) ?_
          refine r_retv hF rfl (.c (.t rfl) .n) ?_ ?_
          · first | exact Ent.rfl | (repeat (first | exact Ent.rfl | refine Ent.c (SelB.ent) ?_ | refine Ent.c (SelS.ent) ?_ | refine Ent.cN ?_ | refine Ent.c (SelX.ent) ?_ | refine Ent.dropR ?_))
          · first | rfl | exact bool_eq (by simp)
        · simp at h3
      · skip
        refine r_region ?_
        refine p_mv rfl rfl ?_
        refine p_lda ta_42 rfl (by exact (Tk.all (by first | rfl | assumption | (simp only [List.drop_zero, List.length_map]; assumption) | (simp [*]; done)))) rfl ?_
        refine p_mv rfl rfl ?_
        refine p_calle cf_24 (.c rfl (.c rfl (.c rfl .n))) rfl (shops_some _ no ws h6 lv ls hl (by omega) hn) fun p => ?_
        refine o_cat ?_
        have hS := runS_inv ls (newS_ok hn).1
        generalize runS s0 ls = s at hS
        have hh1 := hS.holds_le
        have hh2 := hS.over_le
        have hno0 := hS.no0
        have hcc : ∀ h ∈ s.holds, 0 ≤ h.ctr := fun h hm => by have := hS.h h hm; omega
        refine p_mv rfl rfl ?_
        refine p_ext rfl rfl rfl ?_
        refine p_ext rfl rfl rfl ?_
        refine p_ext rfl rfl rfl ?_
        refine p_as rfl rfl ?_
        refine p_as rfl rfl ?_
        refine p_as rfl rfl ?_
        refine o_keep (.c 3 rfl (.c 8 rfl (.c 9 rfl (.c 10 rfl (.c 11 rfl .n))))) ?_
        refine r_seq ?_
        refine r_seq ?_
        refine r_region ?_
        refine p_mv rfl rfl ?_
        refine p_not rfl rfl ?_
        refine p_mv rfl rfl ?_
        refine l_op (x_p (pv_mv (.s rfl rfl rfl) rfl rfl (by first | exact fun _ => rfl | exact id | exact fun h => (Bool.and_eq_true_iff.1 h).1 | simp_all)) rfl rfl ?_)
        refine l_op (x_p (pv_peqn Try.underlying44 (.s rfl rfl rfl) rfl rfl rfl (by refine fun h => ⟨?_, ?_⟩ <;> first | rfl | exact h | exact (Bool.and_eq_true_iff.1 h).1 | simp_all)) rfl rfl ?_)
        refine l_op (x_p (pv_or (.n rfl) rfl rfl rfl (fun _ => ⟨rfl, fun hc => by first | rfl | (rw [hc]; rfl) | simp_all⟩)) rfl rfl ?_)
        refine o_keep (.c 3 rfl (.c 8 rfl (.c 9 rfl (.c 10 rfl (.c 11 rfl (.c 34 rfl .n)))))) ?_
        refine r_cond _ rfl (fun h4 => ?_) (fun h4 => ?_)
        · simp at h4
        · skip
          refine r_skip ?_
          refine r_seq ?_
          refine r_region ?_
          refine p_mv rfl rfl ?_
          refine p_mv rfl rfl ?_
          refine p_callv cf_25 (.c rfl (.c rfl .n)) rfl ((shop_Over _ p.1 s (by omega) (by omega) d).q) ?_
          refine p_mv rfl rfl ?_
          refine p_ext rfl rfl rfl ?_
          refine p_ext rfl rfl rfl ?_
          refine p_as rfl rfl ?_
          refine p_as rfl rfl ?_
          refine o_keep (.c 3 rfl (.c 8 rfl (.c 9 rfl (.c 10 rfl (.c 12 rfl (.c 13 rfl .n)))))) ?_
          refine r_seq ?_
          refine r_region ?_
          refine p_mv rfl rfl ?_
          refine p_mv rfl rfl ?_
          refine p_callv cf_26 (.c rfl (.c rfl .n)) rfl ((booth_Over _ p.2 s (by omega) d).q) ?_
          refine p_mv rfl rfl ?_
          refine p_ext rfl rfl rfl ?_
          refine p_ext rfl rfl rfl ?_
          refine p_as rfl rfl ?_
          refine p_as rfl rfl ?_
          refine o_keep (.c 8 rfl (.c 9 rfl (.c 10 rfl (.c 12 rfl (.c 13 rfl (.c 14 rfl (.c 15 rfl .n))))))) ?_
          refine r_seq ?_
          refine r_sel (boothP p.2 s) ?_
          refine r_ex3 fun hv ov dv => ?_
          refine r_cat ?_
          refine r_rd hv fun hrh => ?_
          refine r_plan _ [] mo (.c 9 rfl (.c 10 rfl (.c 12 rfl (.c 13 rfl (.c 14 rfl (.c 15 rfl .n)))))) Ent.rfl ?_
          refine qm_q (i := 0) (l := [.k 9]) rfl rfl rfl rfl (by kernel_rfl) rfl (fun He => PV.rq (pv_mv (.n rfl) rfl rfl (fun _ => rfl))) ?_
          refine qm_q (i := 1) (l := [.o 0]) rfl rfl rfl rfl (by kernel_rfl) rfl (fun He => rq_call cf_27 (.n rfl) rfl (.c rfl (fun _ => rfl) .n) (fun hg => (shop_Counts _ p.1 s).q)) ?_
          refine qm_q (i := 2) (l := [.k 10]) rfl rfl rfl rfl (by kernel_rfl) rfl (fun He => PV.rq (pv_mv (.n rfl) rfl rfl (fun _ => rfl))) ?_
          refine qm_q (i := 3) (l := [.o 2]) rfl rfl rfl rfl (by kernel_rfl) rfl (fun He => rq_call cf_28 (.n rfl) rfl (.c rfl (fun _ => rfl) .n) (fun hg => (booth_Counts_o _ p.2 s hS hv ov dv).q)) ?_
          refine qm_q (i := 4) (l := [.o 1, .o 3]) rfl rfl rfl rfl (by kernel_rfl) rfl (fun He => PV.rq (pv_to (pv_aeq eq_Cnts (.n rfl) rfl rfl rfl (fun _ => ⟨rfl, rfl⟩)) (show _ = Value.bool true by simp))) ?_
          refine qm_q (i := 5) (l := [.o 4]) rfl rfl rfl rfl (by kernel_rfl) rfl (fun He => PV.rq (pv_mv (.n rfl) rfl rfl (fun _ => rfl))) ?_
          refine qm_q (i := 6) (l := [.k 9, .o 5]) rfl rfl rfl rfl (by kernel_rfl) rfl (fun He => PV.rq (pv_mv (.s rfl rfl rfl) rfl rfl (by first | exact fun _ => rfl | exact id | exact fun h => (Bool.and_eq_true_iff.1 h).1 | simp_all))) ?_
          refine qm_q (i := 8) (l := [.k 10, .o 5]) rfl rfl rfl rfl (by kernel_rfl) rfl (fun He => PV.rq (pv_mv (.s rfl rfl rfl) rfl rfl (by first | exact fun _ => rfl | exact id | exact fun h => (Bool.and_eq_true_iff.1 h).1 | simp_all))) ?_
          refine qm_q (i := 9) (l := [.o 8, .o 5]) rfl rfl rfl rfl (by kernel_rfl) rfl (fun He => PV.rq (pv_nilp (.s rfl rfl rfl) rfl rfl (by first | exact fun _ => rfl | exact id | exact fun h => (Bool.and_eq_true_iff.1 h).1 | simp_all))) ?_
          refine qm_q (i := 10) (l := [.o 9, .o 5]) rfl rfl rfl rfl (by kernel_rfl) rfl (fun He => PV.rq (pv_fa fa_59_2 (.s rfl rfl rfl) rfl rfl (by first | exact fun _ => rfl | exact id | exact fun h => (Bool.and_eq_true_iff.1 h).1 | simp_all))) ?_
          refine qm_q (i := 11) (l := [.o 10, .o 5]) rfl rfl rfl rfl (by kernel_rfl) rfl (fun He => RV.rq (q_ldc tc_55 (.s rfl rfl rfl) rfl rfl (by first | exact fun _ => rfl | exact id | exact fun h => (Bool.and_eq_true_iff.1 h).1 | simp_all) (by rfl))) ?_
          refine qm_calln (i := 7) [.o 6, .o 5] (by kernel_rfl) (by kernel_rfl) rfl rfl rfl rfl (by kernel_rfl) (by kernel_rfl) ⟨_, .s rfl rfl rfl, rfl⟩ cf_30 rfl (.c rfl .n) (shop_HoldsN _ p.1 s (by omega) (by omega)) fun hv1 => ?_
          refine qm_cat ?_
          refine qm_rd hv1 fun hr1 => ?_
          refine qm_keep ?_
          refine qm_q (i := 12) (l := [.o 7, .o 11, .o 5]) rfl rfl rfl rfl (by kernel_rfl) rfl (fun He => rq_call cf_29 (.s rfl rfl rfl) rfl (.c rfl (by first | exact fun _ => rfl | exact id | exact fun h => (Bool.and_eq_true_iff.1 h).1 | simp_all) (.c rfl (by first | exact fun _ => rfl | exact id | exact fun h => (Bool.and_eq_true_iff.1 h).1 | simp_all) .n)) (fun hg => ref_SameHolds _ _ _ _ s.holds s.holds hr1.own hrh.own (by omega))) ?_
          refine qm_q (i := 13) (l := [.o 5, .o 12]) rfl rfl rfl rfl (by kernel_rfl) rfl (fun He => PV.rq (pv_and (.n rfl) rfl rfl rfl (fun _ => ⟨rfl, fun hc => by first | rfl | (rw [hc]; rfl) | simp_all⟩))) ?_
          refine qm_q (i := 14) (l := [.o 13]) rfl rfl rfl rfl (by kernel_rfl) rfl (fun He => PV.rq (pv_mv (.n rfl) rfl rfl (fun _ => rfl))) ?_
          refine qm_q (i := 15) (l := [.k 12, .o 14]) rfl rfl rfl rfl (by kernel_rfl) rfl (fun He => PV.rq (pv_mv (.s rfl rfl rfl) rfl rfl (by first | exact fun _ => rfl | exact id | exact fun h => (Bool.and_eq_true_iff.1 h).1 | simp_all))) ?_
          refine qm_q (i := 16) (l := [.k 14, .o 14]) rfl rfl rfl rfl (by kernel_rfl) rfl (fun He => PV.rq (pv_mv (.s rfl rfl rfl) rfl rfl (by first | exact fun _ => rfl | exact id | exact fun h => (Bool.and_eq_true_iff.1 h).1 | simp_all))) ?_
          refine qm_q (i := 17) (l := [.o 15, .o 16, .o 14]) rfl rfl rfl rfl (by kernel_rfl) rfl (fun He => PV.rq (pv_beq Try.underlying4 (.s rfl rfl rfl) rfl rfl rfl (by refine fun h => ⟨?_, ?_⟩ <;> first | rfl | exact h | exact (Bool.and_eq_true_iff.1 h).1 | simp_all))) ?_
          refine qm_q (i := 18) (l := [.o 14, .o 17]) rfl rfl rfl rfl (by kernel_rfl) rfl (fun He => PV.rq (pv_and (.n rfl) rfl rfl rfl (fun _ => ⟨rfl, fun hc => by first | rfl | (rw [hc]; rfl) | simp_all⟩))) ?_
          refine qm_q (i := 19) (l := [.o 18]) rfl rfl rfl rfl (by kernel_rfl) rfl (fun He => PV.rq (pv_mv (.n rfl) rfl rfl (fun _ => rfl))) ?_
          refine qm_q (i := 20) (l := [.k 13, .o 19]) rfl rfl rfl rfl (by kernel_rfl) rfl (fun He => PV.rq (pv_mv (.s rfl rfl rfl) rfl rfl (by first | exact fun _ => rfl | exact id | exact fun h => (Bool.and_eq_true_iff.1 h).1 | simp_all))) ?_
          refine qm_q (i := 21) (l := [.k 15, .o 19]) rfl rfl rfl rfl (by kernel_rfl) rfl (fun He => PV.rq (pv_mv (.s rfl rfl rfl) rfl rfl (by first | exact fun _ => rfl | exact id | exact fun h => (Bool.and_eq_true_iff.1 h).1 | simp_all))) ?_
          refine qm_q (i := 22) (l := [.o 20, .o 21, .o 19]) rfl rfl rfl rfl (by kernel_rfl) rfl (fun He => PV.rq (pv_beq Try.underlying4 (.s rfl rfl rfl) rfl rfl rfl (by refine fun h => ⟨?_, ?_⟩ <;> first | rfl | exact h | exact (Bool.and_eq_true_iff.1 h).1 | simp_all))) ?_
          refine qm_q (i := 23) (l := [.o 19, .o 22]) rfl rfl rfl rfl (by kernel_rfl) rfl (fun He => PV.rq (pv_and (.n rfl) rfl rfl rfl (fun _ => ⟨rfl, fun hc => by first | rfl | (rw [hc]; rfl) | simp_all⟩))) ?_
          refine qm_q (i := 24) (l := [.o 23]) rfl rfl rfl rfl (by kernel_rfl) rfl (fun He => PV.rq (pv_as (.n rfl) rfl rfl (fun _ => rfl))) ?_
          refine qm_n (by kernel_rfl) (by kernel_rfl) (by kernel_rfl) (by kernel_rfl) (.c 8 rfl .n) ?_
          refine r_retv hF rfl (.c (.t rfl) .n) ?_ ?_
          · first | exact Ent.rfl | (repeat (first | exact Ent.rfl | refine Ent.c (SelB.ent) ?_ | refine Ent.c (SelS.ent) ?_ | refine Ent.cN ?_ | refine Ent.c (SelX.ent) ?_ | refine Ent.dropR ?_))
          · first | rfl | exact bool_eq (by simp)

end Go.Proofs.Ytmakdilmibjpbab
