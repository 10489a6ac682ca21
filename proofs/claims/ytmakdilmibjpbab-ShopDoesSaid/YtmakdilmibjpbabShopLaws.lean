/- The walks of ShopLaws: written by a program of ours (gen.py) over the engine. -/
import Derived.Test.YtmakdilmibjpbabPlain
import Derived.Test.YtmakdilmibjpbabFacts
import Derived.Test.YtmakdilmibjpbabShopW
import Derived.Test.YtmakdilmibjpbabShopL
namespace Go.Proofs.Ytmakdilmibjpbab
open Go Go.RowKit
set_option linter.unusedVariables false
set_option linter.unusedSimpArgs false
set_option maxRecDepth 20000

def rSS (x : SStep) : List Value := [.int .i64 x.d, .int .i64 x.deal, .int .i64 x.w.ctr, .int .i64 x.w.dl, .bool x.done]
def sb0 : ShopS := ⟨1, ⟨10, 0, 0⟩, ⟨20, 0, 0⟩, [], []⟩

theorem law_shopBegun (M : Amb) (H : List HP)  : FnV Try.prog M H 23 [] (.bool true) := by
  refine fn_intro Try.func23 rfl Try.ntmps23 rfl fun F hF => ?_
  refine r_seq ?_
  refine r_region ?_
  refine p_as rfl rfl ?_
  refine o_keep (.c 0 rfl .n) ?_
  refine r_seq ?_
  refine r_region ?_
  refine l_op (x_p (pv_buildA zr_42 Try.underlying42 (.ofC tc_3) (.n rfl) rfl (.c rfl (fun _ => rfl) rfl rfl (by repeat constructor) (.c rfl (fun _ => rfl) rfl rfl (by repeat constructor) .n))) rfl rfl ?_)
  refine p_calle cf_31 (.c rfl (.c rfl .n)) rfl (shop_New_some _ 1 [0, 0, 10, 20, 0, 0] rfl (s := sb0) rfl) fun b1 => ?_
  refine o_cat ?_
  refine p_as rfl rfl ?_
  refine o_keep (.c 0 rfl (.c 1 rfl .n)) ?_
  refine r_seq ?_
  refine r_seq ?_
  refine r_region ?_
  refine p_mv rfl rfl ?_
  refine l_op (x_p (pv_peqn Try.underlying44 (.n rfl) rfl rfl rfl (fun _ => ⟨rfl, rfl⟩)) rfl rfl ?_)
  refine p_mv rfl rfl ?_
  refine o_split (t := 14) rfl (fun g1 => ?_) (fun g1 => ?_)
  · cases g1
  · skip
    refine o_g (.s rfl rfl rfl) rfl ?_
    refine l_op (x_p (pv_buildA zr_42 Try.underlying42 (.ofC tc_3) (.n rfl) rfl (.n)) rfl rfl ?_)
    refine o_g (.s rfl rfl rfl) rfl ?_
    refine p_callc cf_31 (.c rfl (.c rfl .n)) rfl (shop_New_none _ 3 [0, 0, 0, 0, 0, 0] rfl rfl) ?_
    refine o_g (.s rfl rfl rfl) rfl ?_
    refine l_op (x_p (pv_pnen Try.underlying44 (.n rfl) rfl rfl rfl (fun _ => ⟨rfl, rfl⟩)) rfl rfl ?_)
    refine l_op (x_p (pv_or (.n rfl) rfl rfl rfl (fun _ => ⟨rfl, fun hc => by first | rfl | (rw [hc]; rfl) | simp_all⟩)) rfl rfl ?_)
    refine o_keep (.c 0 rfl (.c 1 rfl (.c 18 rfl .n))) ?_
    refine r_cond _ rfl (fun h2 => ?_) (fun h2 => ?_)
    · simp at h2
    · skip
      refine r_skip ?_
      refine r_seq ?_
      refine r_region ?_
      refine p_mv rfl rfl ?_
      refine p_build zr_35 pl_35 (.c rfl (fun _ => rfl) rfl rfl rfl (by repeat constructor) (.c rfl (fun _ => rfl) rfl rfl rfl (by repeat constructor) .n)) rfl ?_
      refine p_callc cf_32 (.c rfl (.c rfl (.c rfl .n))) rfl (shop_Hold _ _ sb0 (by decide +kernel) (by decide +kernel) (by decide +kernel) 4 ⟨2, -6⟩) ?_
      refine p_as rfl rfl ?_
      refine o_keep (.c 0 rfl (.c 1 rfl (.c 2 rfl .n))) ?_
      refine r_seq ?_
      refine r_region ?_
      refine p_mv rfl rfl ?_
      refine p_build zr_35 pl_35 (.c rfl (fun _ => rfl) rfl rfl rfl (by repeat constructor) (.c rfl (fun _ => rfl) rfl rfl rfl (by repeat constructor) .n)) rfl ?_
      refine p_callc cf_32 (.c rfl (.c rfl (.c rfl .n))) rfl (shop_Hold _ _ (holdS sb0 4 ⟨2, -6⟩).1 (by decide +kernel) (by decide +kernel) (by decide +kernel) 5 ⟨2, -6⟩) ?_
      refine p_as rfl rfl ?_
      refine o_keep (.c 0 rfl (.c 1 rfl (.c 2 rfl (.c 3 rfl .n)))) ?_
      refine r_seq ?_
      refine r_region ?_
      refine p_mv rfl rfl ?_
      refine p_build zr_35 pl_35 (.c rfl (fun _ => rfl) rfl rfl rfl (by repeat constructor) (.c rfl (fun _ => rfl) rfl rfl rfl (by repeat constructor) .n)) rfl ?_
      refine p_callc cf_32 (.c rfl (.c rfl (.c rfl .n))) rfl (shop_Hold _ _ (holdS (holdS sb0 4 ⟨2, -6⟩).1 5 ⟨2, -6⟩).1 (by decide +kernel) (by decide +kernel) (by decide +kernel) 4 ⟨2, -6⟩) ?_
      refine p_as rfl rfl ?_
      refine o_keep (.c 0 rfl (.c 1 rfl (.c 2 rfl (.c 3 rfl (.c 4 rfl .n))))) ?_
      refine r_seq ?_
      refine r_region ?_
      refine p_mv rfl rfl ?_
      refine p_calle cf_30 (.c rfl .n) rfl (shop_Holds _ _ (holdS (holdS (holdS sb0 4 ⟨2, -6⟩).1 5 ⟨2, -6⟩).1 4 ⟨2, -6⟩).1 (by decide +kernel) (by decide +kernel)) fun hv => ?_
      refine o_cat ?_
      refine o_rd hv fun hr => ?_
      refine p_as rfl rfl ?_
      refine o_keep (.c 0 rfl (.c 1 rfl (.c 2 rfl (.c 3 rfl (.c 4 rfl (.c 5 rfl .n)))))) ?_
      refine r_seq ?_
      refine r_region ?_
      refine p_mv rfl rfl ?_
      refine p_callc cf_33 (.c rfl (.c rfl (.c rfl .n))) rfl (shop_End _ _ (holdS (holdS (holdS sb0 4 ⟨2, -6⟩).1 5 ⟨2, -6⟩).1 4 ⟨2, -6⟩).1 (by decide +kernel) (by decide +kernel) (by decide +kernel) 4 true) ?_
      refine p_as rfl rfl ?_
      refine o_keep (.c 0 rfl (.c 1 rfl (.c 2 rfl (.c 3 rfl (.c 4 rfl (.c 5 rfl (.c 6 rfl .n))))))) ?_
      refine r_seq ?_
      refine r_region ?_
      refine p_mv rfl rfl ?_
      refine p_build zr_35 pl_35 (.c rfl (fun _ => rfl) rfl rfl rfl (by repeat constructor) (.c rfl (fun _ => rfl) rfl rfl rfl (by repeat constructor) .n)) rfl ?_
      refine p_callc cf_32 (.c rfl (.c rfl (.c rfl .n))) rfl (shop_Hold _ _ (endS (holdS (holdS (holdS sb0 4 ⟨2, -6⟩).1 5 ⟨2, -6⟩).1 4 ⟨2, -6⟩).1 4 true).1 (by decide +kernel) (by decide +kernel) (by decide +kernel) 4 ⟨3, 1⟩) ?_
      refine p_as rfl rfl ?_
      refine o_keep (.c 0 rfl (.c 1 rfl (.c 2 rfl (.c 3 rfl (.c 4 rfl (.c 5 rfl (.c 6 rfl (.c 7 rfl .n)))))))) ?_
      refine r_seq ?_
      refine r_region ?_
      refine p_mv rfl rfl ?_
      refine p_callv cf_25 (.c rfl (.c rfl .n)) rfl ((shop_Over _ _ (holdS (endS (holdS (holdS (holdS sb0 4 ⟨2, -6⟩).1 5 ⟨2, -6⟩).1 4 ⟨2, -6⟩).1 4 true).1 4 ⟨3, 1⟩).1 (by decide +kernel) (by decide +kernel) 4).q) ?_
      refine p_mv rfl rfl ?_
      refine p_ext rfl rfl rfl ?_
      refine p_ext rfl rfl rfl ?_
      refine p_as rfl rfl ?_
      refine p_as rfl rfl ?_
      refine o_keep (.c 0 rfl (.c 1 rfl (.c 2 rfl (.c 3 rfl (.c 4 rfl (.c 5 rfl (.c 6 rfl (.c 7 rfl (.c 8 rfl (.c 9 rfl .n)))))))))) ?_
      refine r_seq ?_
      refine r_region ?_
      refine p_mv rfl rfl ?_
      refine p_eql rfl rfl rfl ?_
      refine p_mv rfl rfl ?_
      refine l_op (x_p (pv_mv (.s rfl rfl rfl) rfl rfl (by first | exact fun _ => rfl | exact id | exact fun h => (Bool.and_eq_true_iff.1 h).1 | simp_all)) rfl rfl ?_)
      refine l_op (x_p (pv_eql (.s rfl rfl rfl) rfl rfl rfl (by refine fun h => ⟨?_, ?_⟩ <;> first | rfl | exact h | exact (Bool.and_eq_true_iff.1 h).1 | simp_all)) rfl rfl ?_)
      refine l_op (x_p (pv_and (.n rfl) rfl rfl rfl (fun _ => ⟨rfl, fun hc => by first | rfl | (rw [hc]; rfl) | simp_all⟩)) rfl rfl ?_)
      refine p_mv rfl rfl ?_
      refine l_op (x_p (pv_mv (.s rfl rfl rfl) rfl rfl (by first | exact fun _ => rfl | exact id | exact fun h => (Bool.and_eq_true_iff.1 h).1 | simp_all)) rfl rfl ?_)
      refine l_op (x_p (pv_eql (.s rfl rfl rfl) rfl rfl rfl (by refine fun h => ⟨?_, ?_⟩ <;> first | rfl | exact h | exact (Bool.and_eq_true_iff.1 h).1 | simp_all)) rfl rfl ?_)
      refine l_op (x_p (pv_and (.n rfl) rfl rfl rfl (fun _ => ⟨rfl, fun hc => by first | rfl | (rw [hc]; rfl) | simp_all⟩)) rfl rfl ?_)
      refine p_mv rfl rfl ?_
      refine l_op (x_p (pv_mv (.s rfl rfl rfl) rfl rfl (by first | exact fun _ => rfl | exact id | exact fun h => (Bool.and_eq_true_iff.1 h).1 | simp_all)) rfl rfl ?_)
      refine l_op (x_p (pv_lens (Rd.len hr) ⟨_, Try.underlying55⟩ (.s rfl rfl rfl) rfl rfl rfl rfl (by first | exact fun _ => rfl | exact id | exact fun h => (Bool.and_eq_true_iff.1 h).1 | simp_all)) rfl rfl ?_)
      refine l_op (x_p (pv_eql (.s rfl rfl rfl) rfl rfl rfl (by refine fun h => ⟨?_, ?_⟩ <;> first | rfl | exact h | exact (Bool.and_eq_true_iff.1 h).1 | simp_all)) rfl rfl ?_)
      refine l_op (x_p (pv_and (.n rfl) rfl rfl rfl (fun _ => ⟨rfl, fun hc => by first | rfl | (rw [hc]; rfl) | simp_all⟩)) rfl rfl ?_)
      refine p_mv rfl rfl ?_
      refine l_op (x_p (pv_mv (.s rfl rfl rfl) rfl rfl (by first | exact fun _ => rfl | exact id | exact fun h => (Bool.and_eq_true_iff.1 h).1 | simp_all)) rfl rfl ?_)
      refine l_op (x_p (pv_eql (.s rfl rfl rfl) rfl rfl rfl (by refine fun h => ⟨?_, ?_⟩ <;> first | rfl | exact h | exact (Bool.and_eq_true_iff.1 h).1 | simp_all)) rfl rfl ?_)
      refine l_op (x_p (pv_and (.n rfl) rfl rfl rfl (fun _ => ⟨rfl, fun hc => by first | rfl | (rw [hc]; rfl) | simp_all⟩)) rfl rfl ?_)
      refine p_mv rfl rfl ?_
      refine l_op (x_p (pv_mv (.s rfl rfl rfl) rfl rfl (by first | exact fun _ => rfl | exact id | exact fun h => (Bool.and_eq_true_iff.1 h).1 | simp_all)) rfl rfl ?_)
      refine l_op (x_p (pv_eql (.s rfl rfl rfl) rfl rfl rfl (by refine fun h => ⟨?_, ?_⟩ <;> first | rfl | exact h | exact (Bool.and_eq_true_iff.1 h).1 | simp_all)) rfl rfl ?_)
      refine l_op (x_p (pv_and (.n rfl) rfl rfl rfl (fun _ => ⟨rfl, fun hc => by first | rfl | (rw [hc]; rfl) | simp_all⟩)) rfl rfl ?_)
      refine p_mv rfl rfl ?_
      refine l_op (x_p (pv_mv (.s rfl rfl rfl) rfl rfl (by first | exact fun _ => rfl | exact id | exact fun h => (Bool.and_eq_true_iff.1 h).1 | simp_all)) rfl rfl ?_)
      refine l_op (x_p (pv_and (.n rfl) rfl rfl rfl (fun _ => ⟨rfl, fun hc => by first | rfl | (rw [hc]; rfl) | simp_all⟩)) rfl rfl ?_)
      refine p_mv rfl rfl ?_
      refine l_op (x_p (pv_mv (.s rfl rfl rfl) rfl rfl (by first | exact fun _ => rfl | exact id | exact fun h => (Bool.and_eq_true_iff.1 h).1 | simp_all)) rfl rfl ?_)
      refine l_op (x_p (pv_and (.n rfl) rfl rfl rfl (fun _ => ⟨rfl, fun hc => by first | rfl | (rw [hc]; rfl) | simp_all⟩)) rfl rfl ?_)
      refine p_mv rfl rfl ?_
      refine l_op (x_p (pv_mv (.s rfl rfl rfl) rfl rfl (by first | exact fun _ => rfl | exact id | exact fun h => (Bool.and_eq_true_iff.1 h).1 | simp_all)) rfl rfl ?_)
      refine l_op (x_q (rq_call cf_27 (.s rfl rfl rfl) rfl (.c rfl (by first | exact fun _ => rfl | exact id | exact fun h => (Bool.and_eq_true_iff.1 h).1 | simp_all) .n) (fun hg => (shop_Counts _ _ (holdS (endS (holdS (holdS (holdS sb0 4 ⟨2, -6⟩).1 5 ⟨2, -6⟩).1 4 ⟨2, -6⟩).1 4 true).1 4 ⟨3, 1⟩).1).q)) rfl rfl ?_)
      refine l_op (x_p (pv_index (i := 0) Try.underlying52 ta_51 (fun hg => ⟨rfl, by decide⟩) (.s rfl rfl rfl) rfl rfl rfl (by refine fun h => ⟨?_, ?_⟩ <;> first | rfl | exact h | exact (Bool.and_eq_true_iff.1 h).1 | simp_all) (fun hg => rfl)) rfl rfl ?_)
      refine l_op (x_p (pv_build zr_51 pl_51 (.s rfl rfl rfl) rfl (.c rfl (by first | exact fun _ => rfl | exact id | exact fun h => (Bool.and_eq_true_iff.1 h).1 | simp_all) rfl rfl rfl (by repeat constructor) .n)) rfl rfl ?_)
      refine l_op (x_p (pv_aeq (eq_Cnt (n := ⟨4, 0, 0⟩)) (.s rfl rfl rfl) rfl rfl rfl (by refine fun h => ⟨?_, ?_⟩ <;> first | rfl | exact h | exact (Bool.and_eq_true_iff.1 h).1 | simp_all)) rfl rfl ?_)
      refine l_op (x_p (pv_and (.n rfl) rfl rfl rfl (fun _ => ⟨rfl, fun hc => by first | rfl | (rw [hc]; rfl) | simp_all⟩)) rfl rfl ?_)
      refine p_mv rfl rfl ?_
      refine o_split (t := 76) rfl (fun g3 => ?_) (fun g3 => ?_)
      · skip
        refine o_g (.s rfl rfl rfl) rfl ?_
        refine p_mv rfl rfl ?_
        refine o_g (.s rfl rfl rfl) rfl ?_
        refine p_callc cf_33 (.c rfl (.c rfl (.c rfl .n))) rfl (shop_End _ _ (holdS (endS (holdS (holdS (holdS sb0 4 ⟨2, -6⟩).1 5 ⟨2, -6⟩).1 4 ⟨2, -6⟩).1 4 true).1 4 ⟨3, 1⟩).1 (by decide +kernel) (by decide +kernel) (by decide +kernel) 4 false) ?_
        refine o_g (.s rfl rfl rfl) rfl ?_
        refine p_eql rfl rfl rfl ?_
        refine l_op (x_p (pv_and (.n rfl) rfl rfl rfl (fun _ => ⟨rfl, fun hc => by first | rfl | (rw [hc]; rfl) | simp_all⟩)) rfl rfl ?_)
        refine p_as rfl rfl ?_
        refine o_keep (.c 0 rfl .n) ?_
        refine r_retv hF rfl (.c (.t rfl) .n) ?_ ?_
        · first | exact Ent.rfl | (repeat (first | exact Ent.rfl | refine Ent.c (SelB.ent) ?_ | refine Ent.c (SelS.ent) ?_ | refine Ent.cN ?_ | refine Ent.c (SelX.ent) ?_ | refine Ent.dropR ?_))
        · exact bool_eq (by decide +kernel)
      · exact absurd g3 (by decide +kernel)

theorem law_ShopOnce (M : Amb) (H : List HP) (no : Int) (ws : List Int) (h6 : ws.length = 6) (lv : Value) (ls : List SStep) (hl : Rd M [] lv 5 (ls.map rSS)) : FnV Try.prog M H 6 [.int .i64 no, .agg (ws.map vI).toArray, lv] (.bool true) := by
  refine fn_intro Try.func6 rfl Try.ntmps6 rfl fun F hF => ?_
  refine r_seq ?_
  refine r_region ?_
  refine p_box rfl rfl rfl fun b4 => ?_
  refine p_as rfl rfl ?_
  refine o_keep (.c 0 rfl (.c 2 rfl (.c 4 rfl (.c 6 rfl .n)))) ?_
  refine r_seq ?_
  refine r_seq ?_
  refine r_region ?_
  refine p_callv cf_23 (.n) rfl (law_shopBegun _ _) ?_
  refine p_not rfl rfl ?_
  refine o_keep (.c 0 rfl (.c 2 rfl (.c 4 rfl (.c 6 rfl (.c 22 rfl .n))))) ?_
  refine r_cond _ rfl (fun h1 => ?_) (fun h1 => ?_)
  · simp at h1
  · skip
    refine r_skip ?_
    refine r_seq ?_
    refine r_seq ?_
    refine r_region ?_
    refine p_mv rfl rfl ?_
    refine l_op (x_p (pv_lens hl.len ⟨_, Try.underlying43⟩ (.n rfl) rfl rfl rfl rfl (fun _ => rfl)) rfl rfl ?_)
    refine p_gtr rfl rfl rfl ?_
    refine o_keep (.c 0 rfl (.c 2 rfl (.c 4 rfl (.c 6 rfl (.c 25 rfl .n))))) ?_
    refine r_cond _ rfl (fun h2 => ?_) (fun h2 => ?_)
    · skip
      refine r_seq ?_
      refine r_region ?_
      refine p_as rfl rfl ?_
      refine o_keep (.c 0 rfl (.c 2 rfl (.c 4 rfl (.c 6 rfl .n)))) ?_
      refine r_retv hF rfl (.c (.t rfl) .n) ?_ ?_
      · first | exact Ent.rfl | (repeat (first | exact Ent.rfl | refine Ent.c (SelB.ent) ?_ | refine Ent.c (SelS.ent) ?_ | refine Ent.cN ?_ | refine Ent.c (SelX.ent) ?_ | refine Ent.dropR ?_))
      · rfl
    · skip
      have hL := of_decide_eq_false h2
      refine r_skip ?_
      refine r_seq ?_
      rcases hn : newS no ws with _ | s0
      · skip
        refine r_region ?_
        refine p_mv rfl rfl ?_
        refine p_lda ta_42 rfl (by exact (Tk.all (by first | rfl | assumption | (simp only [List.drop_zero, List.length_map]; assumption) | (simp [*]; done)))) rfl ?_
        refine p_callc cf_31 (.c rfl (.c rfl .n)) rfl (shop_New_none _ no ws h6 hn) ?_
        refine p_as rfl rfl ?_
        refine o_keep (.c 2 rfl (.c 6 rfl (.c 7 rfl .n))) ?_
        refine r_seq ?_
        refine r_seq ?_
        refine r_region ?_
        refine p_mv rfl rfl ?_
        refine l_op (x_p (pv_peqn Try.underlying44 (.n rfl) rfl rfl rfl (fun _ => ⟨rfl, rfl⟩)) rfl rfl ?_)
        refine o_keep (.c 2 rfl (.c 6 rfl (.c 7 rfl (.c 30 rfl .n)))) ?_
        refine r_cond _ rfl (fun h3 => ?_) (fun h3 => ?_)
        · skip
          refine r_seq ?_
          refine r_region ?_
          refine p_as rfl rfl ?_
          refine o_keep (.c 2 rfl (.c 6 rfl (.c 7 rfl .n))) ?_
          refine r_retv hF rfl (.c (.t rfl) .n) ?_ ?_
          · first | exact Ent.rfl | (repeat (first | exact Ent.rfl | refine Ent.c (SelB.ent) ?_ | refine Ent.c (SelS.ent) ?_ | refine Ent.cN ?_ | refine Ent.c (SelX.ent) ?_ | refine Ent.dropR ?_))
          · rfl
        · simp at h3
      · skip
        refine r_region ?_
        refine p_mv rfl rfl ?_
        refine p_lda ta_42 rfl (by exact (Tk.all (by first | rfl | assumption | (simp only [List.drop_zero, List.length_map]; assumption) | (simp [*]; done)))) rfl ?_
        refine p_calle cf_31 (.c rfl (.c rfl .n)) rfl (shop_New_some _ no ws h6 hn) fun b7 => ?_
        refine o_cat ?_
        refine p_as rfl rfl ?_
        refine o_keep (.c 2 rfl (.c 6 rfl (.c 7 rfl .n))) ?_
        refine r_seq ?_
        refine r_seq ?_
        refine r_region ?_
        refine p_mv rfl rfl ?_
        refine l_op (x_p (pv_peqn Try.underlying44 (.n rfl) rfl rfl rfl (fun _ => ⟨rfl, rfl⟩)) rfl rfl ?_)
        refine o_keep (.c 2 rfl (.c 6 rfl (.c 7 rfl (.c 30 rfl .n)))) ?_
        refine r_cond _ rfl (fun h4 => ?_) (fun h4 => ?_)
        · simp at h4
        · skip
          refine r_skip ?_
          refine r_seq ?_
          refine r_seq ?_
          refine r_region ?_
          refine p_as rfl rfl ?_
          refine o_keep (.c 2 rfl (.c 6 rfl (.c 7 rfl (.c 8 rfl .n)))) ?_
          refine r_block ?_
          refine r_loop_2 (fun (i : Nat) (s : ShopS) => [(8, true, .int .i64 (i : Int))]) (.c 2 rfl (.c 6 rfl (.c 7 rfl .n))) (fun (i : Nat) (s : ShopS) => shopP b7 s :: blk b4 (ws.map vI) 42 :: H) (fun (i : Nat) (s : ShopS) => i ≤ ls.length ∧ ShInv s) (fun (i : Nat) (s : ShopS) => ls.length - i) (0) (s0) ?_ (.c 8 rfl .n) ?_ (fun i s hI => ?_)
          · exact ⟨Nat.zero_le _, (newS_ok hn).1⟩
          · first | exact Ent.rfl | (repeat (first | exact Ent.rfl | refine Ent.c (SelB.ent) ?_ | refine Ent.c (SelS.ent) ?_ | refine Ent.cN ?_ | refine Ent.c (SelX.ent) ?_ | refine Ent.dropR ?_))
          · skip
            obtain ⟨hil, hS⟩ := hI
            refine r_seq ?_
            refine r_seq ?_
            refine r_region ?_
            refine p_mv rfl rfl ?_
            refine p_mv rfl rfl ?_
            refine l_op (x_p (pv_lens hl.len ⟨_, Try.underlying43⟩ (.n rfl) rfl rfl rfl rfl (fun _ => rfl)) rfl rfl ?_)
            refine p_lss rfl rfl rfl ?_
            refine o_keep (.c 2 rfl (.c 6 rfl (.c 7 rfl (.c 8 rfl (.c 34 rfl .n))))) ?_
            refine r_cond _ rfl (fun h5 => ?_) (fun h5 => ?_)
            · skip
              have hi : i < ls.length := by have := of_decide_eq_true h5; omega
              obtain ⟨x, hx⟩ := getlt hi
              refine r_skip ?_
              refine r_seq ?_
              refine r_block ?_
              refine r_seq ?_
              refine r_region ?_
              refine p_mv rfl rfl ?_
              refine p_mv rfl rfl ?_
              refine p_idx Try.underlying43 (.ofA ta_63) hl rfl (mapget hx) rfl rfl rfl ?_
              refine p_ldats 0 ta_63 (Rd.ent hl (by repeat (first | exact Ent.rfl | exact Ent.one Ent.h | exact Ent.one (SelS.ent) | exact Ent.nil | exact Ent.left | refine Ent.dropR ?_ | refine Ent.tr Ent.skip ?_))) (mapget hx) rfl rfl (.s (.s (.s (.s (.s .z))))) rfl ?_
              refine p_alloc zr_63 rfl fun b9 => ?_
              refine p_store (.ofA ta_63) rfl rfl rfl rfl rfl (by repeat constructor) ?_
              refine o_keep (.c 2 rfl (.c 6 rfl (.c 7 rfl (.c 8 rfl (.c 9 rfl .n))))) ?_
              refine r_seq ?_
              refine r_seq ?_
              refine r_region ?_
              refine p_as rfl rfl ?_
              refine o_keep (.c 2 rfl (.c 6 rfl (.c 7 rfl (.c 8 rfl (.c 9 rfl (.c 10 rfl .n)))))) ?_
              refine r_cut_1 (fun (s2 : ShopS) => []) (.c 2 rfl (.c 6 rfl (.c 7 rfl (.c 8 rfl (.c 9 rfl .n))))) (fun (s2 : ShopS) => shopP b7 s2 :: blk b9 (rSS x) 63 :: blk b4 (ws.map vI) 42 :: H) (fun (s2 : ShopS) => ShInv s2 ∧ (x.d = 1 → 0 ≤ x.deal → x.deal < 8 → (overL s2.over x.deal).isSome = true)) ?_ (fun s2 hI => ?_)
              · skip
                refine r_block ?_
                refine r_loop_2 (fun (k : Nat) (s1 : ShopS) => [(10, true, .int .i64 (k : Int))]) (.c 2 rfl (.c 6 rfl (.c 7 rfl (.c 8 rfl (.c 9 rfl .n))))) (fun (k : Nat) (s1 : ShopS) => shopP b7 s1 :: blk b9 (rSS x) 63 :: blk b4 (ws.map vI) 42 :: H) (fun (k : Nat) (s1 : ShopS) => k ≤ 2 ∧ ShInv s1 ∧ ((k = 0 ∧ s1 = s) ∨ (1 ≤ k ∧ s1 = (stepSh s x).1 ∧ (stepSh s x).2 = 0))) (fun (k : Nat) (s1 : ShopS) => 2 - k) (0) (s) ?_ (.c 10 rfl .n) ?_ (fun k s1 hI => ?_)
                · exact ⟨by omega, hS, .inl ⟨rfl, rfl⟩⟩
                · first | exact Ent.rfl | (repeat (first | exact Ent.rfl | refine Ent.c (SelB.ent) ?_ | refine Ent.c (SelS.ent) ?_ | refine Ent.cN ?_ | refine Ent.c (SelX.ent) ?_ | refine Ent.dropR ?_))
                · skip
                  obtain ⟨hk, hS1, hst⟩ := hI
                  have h1a := hS1.holds_le
                  have h1b := hS1.over_le
                  have h1n := hS1.no0
                  have h1c : ∀ h ∈ s1.holds, 0 ≤ h.ctr := fun h hm => by have := hS1.h h hm; omega
                  refine r_seq ?_
                  refine r_seq ?_
                  refine r_region ?_
                  refine p_mv rfl rfl ?_
                  refine p_lss rfl rfl rfl ?_
                  refine o_keep (.c 2 rfl (.c 6 rfl (.c 7 rfl (.c 8 rfl (.c 9 rfl (.c 10 rfl (.c 42 rfl .n))))))) ?_
                  refine r_cond _ rfl (fun h6 => ?_) (fun h6 => ?_)
                  · skip
                    have hk2 : k < 2 := by have := of_decide_eq_true h6; omega
                    have hag : k = 1 → stepSh s1 x = (s1, 0) := fun hk1 => by rcases hst with ⟨q, _⟩ | ⟨_, q1, q2⟩; omega; rw [q1]; exact stepSh_again hS q2
                    refine r_skip ?_
                    refine r_seq ?_
                    refine r_block ?_
                    refine r_seq ?_
                    refine r_region ?_
                    refine p_mv rfl rfl ?_
                    refine p_callv cf_27 (.c rfl .n) rfl ((shop_Counts _ _ s1).q) ?_
                    refine p_mv rfl rfl ?_
                    refine p_calle cf_30 (.c rfl .n) rfl (shop_Holds _ _ s1 (by omega) (by omega)) fun hv1 => ?_
                    refine o_cat ?_
                    refine o_rd hv1 fun hr1 => ?_
                    refine p_alloc zr_52 rfl fun b11 => ?_
                    refine p_store (.ofA ta_52) rfl rfl rfl (by first | rfl | exact rfl) (by first | rfl | exact (by first | rfl | simp [vI, Value.oneCell'])) (Ins.whole (by first | rfl | (simp only [List.length_map, List.length_cons, List.length_nil]; omega) | (simp [*]; done) | (simp [*]; rfl))) ?_
                    refine p_as rfl rfl ?_
                    refine o_keep (.c 2 rfl (.c 6 rfl (.c 7 rfl (.c 8 rfl (.c 9 rfl (.c 10 rfl (.c 11 rfl (.c 12 rfl .n)))))))) ?_
                    refine r_seq ?_
                    refine r_region ?_
                    refine p_as rfl rfl ?_
                    refine o_keep (.c 2 rfl (.c 6 rfl (.c 7 rfl (.c 8 rfl (.c 9 rfl (.c 10 rfl (.c 11 rfl (.c 12 rfl (.c 13 rfl .n))))))))) ?_
                    refine r_seq ?_
                    refine r_seq ?_
                    refine r_region ?_
                    refine p_fa fa_63_0 rfl rfl ?_
                    refine p_ldc tc_3 rfl (by rfl) rfl ?_
                    refine o_keep (.c 2 rfl (.c 6 rfl (.c 7 rfl (.c 8 rfl (.c 9 rfl (.c 10 rfl (.c 11 rfl (.c 12 rfl (.c 13 rfl (.c 50 rfl .n)))))))))) ?_
                    refine r_cut_2 (fun (e : Int) (s2 : ShopS) => [(13, true, .int .i64 e)]) (.c 2 rfl (.c 6 rfl (.c 7 rfl (.c 8 rfl (.c 9 rfl (.c 10 rfl (.c 11 rfl (.c 12 rfl .n)))))))) (fun (e : Int) (s2 : ShopS) => shopP b7 s2 :: sl hv1 67 3 (s1.holds.map rH) :: blk b11 (cntL s1.c0 ++ cntL s1.c1) 52 :: blk b9 (rSS x) 63 :: blk b4 (ws.map vI) 42 :: H) (fun (e : Int) (s2 : ShopS) => e = (stepSh s1 x).2 ∧ s2 = (stepSh s1 x).1) ?_ (fun e s2 hI => ?_)
                    · skip
                      refine r_block ?_
                      refine r_seq ?_
                      refine r_region ?_
                      refine p_eql rfl rfl rfl ?_
                      refine p_as rfl rfl ?_
                      refine o_keep (.c 2 rfl (.c 6 rfl (.c 7 rfl (.c 8 rfl (.c 9 rfl (.c 10 rfl (.c 11 rfl (.c 12 rfl (.c 13 rfl (.c 50 rfl (.c 51 rfl .n))))))))))) ?_
                      refine r_cond _ rfl (fun h7 => ?_) (fun h7 => ?_)
                      · skip
                        have hx0 : x.d = 0 := of_decide_eq_true h7
                        have hse : stepSh s1 x = holdS s1 x.deal x.w := by unfold stepSh; rw [if_pos hx0]
                        refine r_region ?_
                        refine p_mv rfl rfl ?_
                        refine p_fa fa_63_1 rfl rfl ?_
                        refine p_ldc tc_3 rfl (by rfl) rfl ?_
                        refine p_fa fa_63_2 rfl rfl ?_
                        refine p_lda ta_35 rfl (by exact (.s (.s .z))) rfl ?_
                        refine p_callc cf_32 (.c rfl (.c rfl (.c rfl .n))) rfl (shop_Hold _ _ s1 (by omega) (by omega) h1n x.deal x.w) ?_
                        refine p_as rfl rfl ?_
                        refine o_keep (.c 2 rfl (.c 6 rfl (.c 7 rfl (.c 8 rfl (.c 9 rfl (.c 10 rfl (.c 11 rfl (.c 12 rfl (.c 13 rfl .n))))))))) ?_
                        refine r_end ?_
                        refine r_join_2 ((holdS s1 x.deal x.w).2) ((holdS s1 x.deal x.w).1) ?_ (Keep.app (.c 13 rfl .n) (.c 2 rfl (.c 6 rfl (.c 7 rfl (.c 8 rfl (.c 9 rfl (.c 10 rfl (.c 11 rfl (.c 12 rfl .n))))))))) ?_
                        · exact ⟨by rw [hse], by rw [hse]⟩
                        · first | exact Ent.rfl | (repeat (first | exact Ent.rfl | refine Ent.c (SelB.ent) ?_ | refine Ent.c (SelS.ent) ?_ | refine Ent.cN ?_ | refine Ent.c (SelX.ent) ?_ | refine Ent.dropR ?_))
                      · skip
                        have hx0 : ¬ x.d = 0 := of_decide_eq_false h7
                        refine r_seq ?_
                        refine r_region ?_
                        refine p_eql rfl rfl rfl ?_
                        refine p_as rfl rfl ?_
                        refine o_keep (.c 2 rfl (.c 6 rfl (.c 7 rfl (.c 8 rfl (.c 9 rfl (.c 10 rfl (.c 11 rfl (.c 12 rfl (.c 13 rfl (.c 59 rfl .n)))))))))) ?_
                        refine r_cond _ rfl (fun h8 => ?_) (fun h8 => ?_)
                        · skip
                          have hx1 : x.d = 1 := of_decide_eq_true h8
                          have hse : stepSh s1 x = endS s1 x.deal x.done := by unfold stepSh; rw [if_neg hx0, if_pos hx1]
                          refine r_region ?_
                          refine p_mv rfl rfl ?_
                          refine p_fa fa_63_1 rfl rfl ?_
                          refine p_ldc tc_3 rfl (by rfl) rfl ?_
                          refine p_fa fa_63_3 rfl rfl ?_
                          refine p_ldc tc_4 rfl (by rfl) rfl ?_
                          refine p_callc cf_33 (.c rfl (.c rfl (.c rfl .n))) rfl (shop_End _ _ s1 (by omega) (by omega) h1c x.deal x.done) ?_
                          refine p_as rfl rfl ?_
                          refine o_keep (.c 2 rfl (.c 6 rfl (.c 7 rfl (.c 8 rfl (.c 9 rfl (.c 10 rfl (.c 11 rfl (.c 12 rfl (.c 13 rfl .n))))))))) ?_
                          refine r_end ?_
                          refine r_join_2 ((endS s1 x.deal x.done).2) ((endS s1 x.deal x.done).1) ?_ (Keep.app (.c 13 rfl .n) (.c 2 rfl (.c 6 rfl (.c 7 rfl (.c 8 rfl (.c 9 rfl (.c 10 rfl (.c 11 rfl (.c 12 rfl .n))))))))) ?_
                          · exact ⟨by rw [hse], by rw [hse]⟩
                          · first | exact Ent.rfl | (repeat (first | exact Ent.rfl | refine Ent.c (SelB.ent) ?_ | refine Ent.c (SelS.ent) ?_ | refine Ent.cN ?_ | refine Ent.c (SelX.ent) ?_ | refine Ent.dropR ?_))
                        · skip
                          have hx1 : ¬ x.d = 1 := of_decide_eq_false h8
                          have hse : stepSh s1 x = (s1, 0) := by unfold stepSh; rw [if_neg hx0, if_neg hx1]
                          refine r_skip ?_
                          refine r_end ?_
                          refine r_join_2 (0) (s1) ?_ (Keep.app (.c 13 rfl .n) (.c 2 rfl (.c 6 rfl (.c 7 rfl (.c 8 rfl (.c 9 rfl (.c 10 rfl (.c 11 rfl (.c 12 rfl .n))))))))) ?_
                          · exact ⟨by rw [hse], by rw [hse]⟩
                          · first | exact Ent.rfl | (repeat (first | exact Ent.rfl | refine Ent.c (SelB.ent) ?_ | refine Ent.c (SelS.ent) ?_ | refine Ent.cN ?_ | refine Ent.c (SelX.ent) ?_ | refine Ent.dropR ?_))
                    obtain ⟨rfl, rfl⟩ := hI
                    have hS3 := hS1.stp x
                    have h3a := hS3.holds_le
                    have h3b := hS3.over_le
                    refine r_seq ?_
                    by_cases hce : s1.c0 = (stepSh s1 x).1.c0 ∧ s1.c1 = (stepSh s1 x).1.c1
                    · skip
                      refine r_plan _ [] mo (.c 2 rfl (.c 6 rfl (.c 7 rfl (.c 8 rfl (.c 9 rfl (.c 10 rfl (.c 11 rfl (.c 12 rfl (.c 13 rfl .n))))))))) Ent.rfl ?_
                      refine qm_q (i := 0) (l := [.k 11]) rfl rfl rfl rfl (by kernel_rfl) rfl (fun He => RV.rq (q_lda ta_52 (.n rfl) rfl rfl (fun _ => rfl) (by exact (Tk.all rfl)))) ?_
                      refine qm_q (i := 1) (l := [.k 7]) rfl rfl rfl rfl (by kernel_rfl) rfl (fun He => PV.rq (pv_mv (.n rfl) rfl rfl (fun _ => rfl))) ?_
                      refine qm_q (i := 2) (l := [.o 1]) rfl rfl rfl rfl (by kernel_rfl) rfl (fun He => rq_call cf_27 (.n rfl) rfl (.c rfl (fun _ => rfl) .n) (fun hg => (shop_Counts _ _ (stepSh s1 x).1).q)) ?_
                      refine qm_q (i := 3) (l := [.o 0, .o 2]) rfl rfl rfl rfl (by kernel_rfl) rfl (fun He => PV.rq (pv_to (pv_aeq eq_Cnts (.n rfl) rfl rfl rfl (fun _ => ⟨rfl, rfl⟩)) (show _ = Value.bool true by simp [hce]))) ?_
                      refine qm_q (i := 4) (l := [.o 3]) rfl rfl rfl rfl (by kernel_rfl) rfl (fun He => PV.rq (pv_mv (.n rfl) rfl rfl (fun _ => rfl))) ?_
                      refine qm_q (i := 5) (l := [.k 12, .o 4]) rfl rfl rfl rfl (by kernel_rfl) rfl (fun He => PV.rq (pv_mv (.s rfl rfl rfl) rfl rfl (by first | exact fun _ => rfl | exact id | exact fun h => (Bool.and_eq_true_iff.1 h).1 | simp_all))) ?_
                      refine qm_q (i := 6) (l := [.k 7, .o 4]) rfl rfl rfl rfl (by kernel_rfl) rfl (fun He => PV.rq (pv_mv (.s rfl rfl rfl) rfl rfl (by first | exact fun _ => rfl | exact id | exact fun h => (Bool.and_eq_true_iff.1 h).1 | simp_all))) ?_
                      refine qm_calln (i := 7) [.o 6, .o 4] (by kernel_rfl) (by kernel_rfl) rfl rfl rfl rfl (by kernel_rfl) (by kernel_rfl) ⟨_, .s rfl rfl rfl, rfl⟩ cf_30 rfl (.c rfl .n) (shop_HoldsN _ _ (stepSh s1 x).1 (by omega) (by omega)) fun hv2 => ?_
                      refine qm_cat ?_
                      refine qm_rd hv2 fun hr2 => ?_
                      refine qm_keep ?_
                      refine qm_q (i := 8) (l := [.o 5, .o 7, .o 4]) rfl rfl rfl rfl (by kernel_rfl) rfl (fun He => rq_call cf_29 (.s rfl rfl rfl) rfl (.c rfl (by first | exact fun _ => rfl | exact id | exact fun h => (Bool.and_eq_true_iff.1 h).1 | simp_all) (.c rfl (by first | exact fun _ => rfl | exact id | exact fun h => (Bool.and_eq_true_iff.1 h).1 | simp_all) .n)) (fun hg => ref_SameHolds _ _ _ _ s1.holds (stepSh s1 x).1.holds hr1.own hr2.own (by omega))) ?_
                      refine qm_q (i := 9) (l := [.o 4, .o 8]) rfl rfl rfl rfl (by kernel_rfl) rfl (fun He => PV.rq (pv_and (.n rfl) rfl rfl rfl (fun _ => ⟨rfl, fun hc => by first | rfl | (rw [hc]; rfl) | simp_all⟩))) ?_
                      refine qm_q (i := 10) (l := [.o 9]) rfl rfl rfl rfl (by kernel_rfl) rfl (fun He => PV.rq (pv_as (.n rfl) rfl rfl (fun _ => rfl))) ?_
                      refine qm_n (by kernel_rfl) (by kernel_rfl) (by kernel_rfl) (by kernel_rfl) (.c 2 rfl (.c 6 rfl (.c 7 rfl (.c 8 rfl (.c 9 rfl (.c 10 rfl (.c 13 rfl (.c 14 rfl .n)))))))) ?_
                      refine r_seq ?_
                      refine r_seq ?_
                      refine r_region ?_
                      refine p_mv rfl rfl ?_
                      refine p_neq rfl rfl rfl ?_
                      refine p_mv rfl rfl ?_
                      refine l_op (x_p (pv_mv (.s rfl rfl rfl) rfl rfl (by first | exact fun _ => rfl | exact id | exact fun h => (Bool.and_eq_true_iff.1 h).1 | simp_all)) rfl rfl ?_)
                      refine l_op (x_p (pv_not (.s rfl rfl rfl) rfl rfl (by first | exact fun _ => rfl | exact id | exact fun h => (Bool.and_eq_true_iff.1 h).1 | simp_all)) rfl rfl ?_)
                      refine l_op (x_p (pv_and (.n rfl) rfl rfl rfl (fun _ => ⟨rfl, fun hc => by first | rfl | (rw [hc]; rfl) | simp_all⟩)) rfl rfl ?_)
                      refine p_mv rfl rfl ?_
                      refine l_op (x_p (pv_mv (.s rfl rfl rfl) rfl rfl (by first | exact fun _ => rfl | exact id | exact fun h => (Bool.and_eq_true_iff.1 h).1 | simp_all)) rfl rfl ?_)
                      refine l_op (x_p (pv_eql (.s rfl rfl rfl) rfl rfl rfl (by refine fun h => ⟨?_, ?_⟩ <;> first | rfl | exact h | exact (Bool.and_eq_true_iff.1 h).1 | simp_all)) rfl rfl ?_)
                      refine l_op (x_p (pv_mv (.s rfl rfl rfl) rfl rfl (by first | exact fun _ => rfl | exact id | exact fun h => (Bool.and_eq_true_iff.1 h).1 | simp_all)) rfl rfl ?_)
                      refine l_op (x_p (pv_mv (.s rfl rfl rfl) rfl rfl (by first | exact fun _ => rfl | exact id | exact fun h => (Bool.and_eq_true_iff.1 h).1 | simp_all)) rfl rfl ?_)
                      refine l_op (x_p (pv_not (.s rfl rfl rfl) rfl rfl (by first | exact fun _ => rfl | exact id | exact fun h => (Bool.and_eq_true_iff.1 h).1 | simp_all)) rfl rfl ?_)
                      refine l_op (x_p (pv_mv (.s rfl rfl rfl) rfl rfl (by first | exact fun _ => rfl | exact id | exact fun h => (Bool.and_eq_true_iff.1 h).1 | simp_all)) rfl rfl ?_)
                      refine l_op (x_p (pv_mv (.s rfl rfl rfl) rfl rfl (by first | exact fun _ => rfl | exact id | exact fun h => (Bool.and_eq_true_iff.1 h).1 | simp_all)) rfl rfl ?_)
                      refine l_op (x_p (pv_neq (.s rfl rfl rfl) rfl rfl rfl (by refine fun h => ⟨?_, ?_⟩ <;> first | rfl | exact h | exact (Bool.and_eq_true_iff.1 h).1 | simp_all)) rfl rfl ?_)
                      refine l_op (x_p (pv_or (.s rfl rfl rfl) rfl rfl rfl (by intro hg; refine ⟨?_, fun hc => ?_⟩ <;> first | rfl | (rw [hc]; rfl) | simp_all)) rfl rfl ?_)
                      refine l_op (x_p (pv_and (.s rfl rfl rfl) rfl rfl rfl (by intro hg; refine ⟨?_, fun hc => ?_⟩ <;> first | rfl | (rw [hc]; rfl) | simp_all)) rfl rfl ?_)
                      refine l_op (x_p (pv_or (.n rfl) rfl rfl rfl (fun _ => ⟨rfl, fun hc => by first | rfl | (rw [hc]; rfl) | simp_all⟩)) rfl rfl ?_)
                      refine o_keep (.c 2 rfl (.c 6 rfl (.c 7 rfl (.c 8 rfl (.c 9 rfl (.c 10 rfl (.c 13 rfl (.c 94 rfl .n)))))))) ?_
                      refine r_cond _ rfl (fun h9 => ?_) (fun h9 => ?_)
                      · exfalso; exact if he : (stepSh s1 x).2 = 0 then (if hk1 : k = 1 then (by have ha := hag hk1; simp [ha, hk1] at h9) else (by have hk2 : ¬ ((k : Int) = 1) := (by omega); simp [he, hk2] at h9)) else (by have ha := stepSh_err he; have hk2 : ¬ ((k : Int) = 1) := fun h1 => he (by rw [hag (by omega)]); simp [ha, hk2] at h9)
                      · skip
                        refine r_skip ?_
                        refine r_seq ?_
                        refine r_region ?_
                        refine p_mv rfl rfl ?_
                        refine p_neq rfl rfl rfl ?_
                        refine o_keep (.c 2 rfl (.c 6 rfl (.c 7 rfl (.c 8 rfl (.c 9 rfl (.c 10 rfl (.c 96 rfl .n))))))) ?_
                        refine r_cond _ rfl (fun h10 => ?_) (fun h10 => ?_)
                        · skip
                          refine r_exit rfl ?_
                          refine r_join_1 ((stepSh s1 x).1) ?_ (Keep.app (.n) (.c 2 rfl (.c 6 rfl (.c 7 rfl (.c 8 rfl (.c 9 rfl .n)))))) ?_
                          · exact ⟨hS1.stp x, stepSh_over⟩
                          · first | exact Ent.rfl | (repeat (first | exact Ent.rfl | refine Ent.c (SelB.ent) ?_ | refine Ent.c (SelS.ent) ?_ | refine Ent.cN ?_ | refine Ent.c (SelX.ent) ?_ | refine Ent.dropR ?_))
                        · skip
                          have he0 : (stepSh s1 x).2 = 0 := by simpa using h10
                          have hnext : (stepSh s1 x).1 = (stepSh s x).1 ∧ (stepSh s x).2 = 0 := hst.elim (fun q => by rw [q.2] at he0 ⊢; exact ⟨rfl, he0⟩) (fun q => by rw [hag (by have := q.1; omega)]; exact ⟨q.2.1, q.2.2⟩)
                          refine r_skip ?_
                          refine r_end ?_
                          refine r_region ?_
                          refine p_mv rfl rfl ?_
                          refine p_add rfl rfl (by omega) rfl ?_
                          refine p_as rfl rfl ?_
                          refine o_keep (.c 2 rfl (.c 6 rfl (.c 7 rfl (.c 8 rfl (.c 9 rfl (.c 10 rfl .n)))))) ?_
                          refine r_back_2 (k + 1) ((stepSh s1 x).1) ?_ ?_ (Keep.app (.c 10 rfl .n) (.c 2 rfl (.c 6 rfl (.c 7 rfl (.c 8 rfl (.c 9 rfl .n)))))) ?_
                          · exact ⟨by omega, hS3, .inr ⟨by omega, hnext.1, hnext.2⟩⟩
                          · omega
                          · first | exact Ent.rfl | (repeat (first | exact Ent.rfl | refine Ent.c (SelB.ent) ?_ | refine Ent.c (SelS.ent) ?_ | refine Ent.cN ?_ | refine Ent.c (SelX.ent) ?_ | refine Ent.dropR ?_))
                    · skip
                      refine r_plan _ [] mo (.c 2 rfl (.c 6 rfl (.c 7 rfl (.c 8 rfl (.c 9 rfl (.c 10 rfl (.c 11 rfl (.c 12 rfl (.c 13 rfl .n))))))))) Ent.rfl ?_
                      refine qm_q (i := 0) (l := [.k 11]) rfl rfl rfl rfl (by kernel_rfl) rfl (fun He => RV.rq (q_lda ta_52 (.n rfl) rfl rfl (fun _ => rfl) (by exact (Tk.all rfl)))) ?_
                      refine qm_q (i := 1) (l := [.k 7]) rfl rfl rfl rfl (by kernel_rfl) rfl (fun He => PV.rq (pv_mv (.n rfl) rfl rfl (fun _ => rfl))) ?_
                      refine qm_q (i := 2) (l := [.o 1]) rfl rfl rfl rfl (by kernel_rfl) rfl (fun He => rq_call cf_27 (.n rfl) rfl (.c rfl (fun _ => rfl) .n) (fun hg => (shop_Counts _ _ (stepSh s1 x).1).q)) ?_
                      refine qm_q (i := 3) (l := [.o 0, .o 2]) rfl rfl rfl rfl (by kernel_rfl) rfl (fun He => PV.rq (pv_to (pv_aeq eq_Cnts (.n rfl) rfl rfl rfl (fun _ => ⟨rfl, rfl⟩)) (show _ = Value.bool false by simp [hce]))) ?_
                      refine qm_q (i := 4) (l := [.o 3]) rfl rfl rfl rfl (by kernel_rfl) rfl (fun He => PV.rq (pv_mv (.n rfl) rfl rfl (fun _ => rfl))) ?_
                      refine qm_q (i := 5) (l := [.k 12, .o 4]) rfl rfl rfl rfl (by kernel_rfl) rfl (fun He => rq_no (v := .bool false) (.s rfl rfl rfl) rfl) ?_
                      refine qm_q (i := 6) (l := [.k 7, .o 4]) rfl rfl rfl rfl (by kernel_rfl) rfl (fun He => rq_no (v := .bool false) (.s rfl rfl rfl) rfl) ?_
                      refine qm_q (i := 7) (l := [.o 6, .o 4]) rfl rfl rfl rfl (by kernel_rfl) rfl (fun He => rq_no (v := .bool false) (.s rfl rfl rfl) rfl) ?_
                      refine qm_q (i := 8) (l := [.o 5, .o 7, .o 4]) rfl rfl rfl rfl (by kernel_rfl) rfl (fun He => rq_no (v := .bool false) (.s rfl rfl rfl) rfl) ?_
                      refine qm_q (i := 9) (l := [.o 4, .o 8]) rfl rfl rfl rfl (by kernel_rfl) rfl (fun He => PV.rq (pv_andf (.n rfl) rfl rfl (fun _ => rfl))) ?_
                      refine qm_q (i := 10) (l := [.o 9]) rfl rfl rfl rfl (by kernel_rfl) rfl (fun He => PV.rq (pv_as (.n rfl) rfl rfl (fun _ => rfl))) ?_
                      refine qm_n (by kernel_rfl) (by kernel_rfl) (by kernel_rfl) (by kernel_rfl) (.c 2 rfl (.c 6 rfl (.c 7 rfl (.c 8 rfl (.c 9 rfl (.c 10 rfl (.c 13 rfl (.c 14 rfl .n)))))))) ?_
                      refine r_seq ?_
                      refine r_seq ?_
                      refine r_region ?_
                      refine p_mv rfl rfl ?_
                      refine p_neq rfl rfl rfl ?_
                      refine p_mv rfl rfl ?_
                      refine l_op (x_p (pv_mv (.s rfl rfl rfl) rfl rfl (by first | exact fun _ => rfl | exact id | exact fun h => (Bool.and_eq_true_iff.1 h).1 | simp_all)) rfl rfl ?_)
                      refine l_op (x_p (pv_not (.s rfl rfl rfl) rfl rfl (by first | exact fun _ => rfl | exact id | exact fun h => (Bool.and_eq_true_iff.1 h).1 | simp_all)) rfl rfl ?_)
                      refine l_op (x_p (pv_and (.n rfl) rfl rfl rfl (fun _ => ⟨rfl, fun hc => by first | rfl | (rw [hc]; rfl) | simp_all⟩)) rfl rfl ?_)
                      refine p_mv rfl rfl ?_
                      refine l_op (x_p (pv_mv (.s rfl rfl rfl) rfl rfl (by first | exact fun _ => rfl | exact id | exact fun h => (Bool.and_eq_true_iff.1 h).1 | simp_all)) rfl rfl ?_)
                      refine l_op (x_p (pv_eql (.s rfl rfl rfl) rfl rfl rfl (by refine fun h => ⟨?_, ?_⟩ <;> first | rfl | exact h | exact (Bool.and_eq_true_iff.1 h).1 | simp_all)) rfl rfl ?_)
                      refine l_op (x_p (pv_mv (.s rfl rfl rfl) rfl rfl (by first | exact fun _ => rfl | exact id | exact fun h => (Bool.and_eq_true_iff.1 h).1 | simp_all)) rfl rfl ?_)
                      refine l_op (x_p (pv_mv (.s rfl rfl rfl) rfl rfl (by first | exact fun _ => rfl | exact id | exact fun h => (Bool.and_eq_true_iff.1 h).1 | simp_all)) rfl rfl ?_)
                      refine l_op (x_p (pv_not (.s rfl rfl rfl) rfl rfl (by first | exact fun _ => rfl | exact id | exact fun h => (Bool.and_eq_true_iff.1 h).1 | simp_all)) rfl rfl ?_)
                      refine l_op (x_p (pv_mv (.s rfl rfl rfl) rfl rfl (by first | exact fun _ => rfl | exact id | exact fun h => (Bool.and_eq_true_iff.1 h).1 | simp_all)) rfl rfl ?_)
                      refine l_op (x_p (pv_mv (.s rfl rfl rfl) rfl rfl (by first | exact fun _ => rfl | exact id | exact fun h => (Bool.and_eq_true_iff.1 h).1 | simp_all)) rfl rfl ?_)
                      refine l_op (x_p (pv_neq (.s rfl rfl rfl) rfl rfl rfl (by refine fun h => ⟨?_, ?_⟩ <;> first | rfl | exact h | exact (Bool.and_eq_true_iff.1 h).1 | simp_all)) rfl rfl ?_)
                      refine l_op (x_p (pv_or (.s rfl rfl rfl) rfl rfl rfl (by intro hg; refine ⟨?_, fun hc => ?_⟩ <;> first | rfl | (rw [hc]; rfl) | simp_all)) rfl rfl ?_)
                      refine l_op (x_p (pv_and (.s rfl rfl rfl) rfl rfl rfl (by intro hg; refine ⟨?_, fun hc => ?_⟩ <;> first | rfl | (rw [hc]; rfl) | simp_all)) rfl rfl ?_)
                      refine l_op (x_p (pv_or (.n rfl) rfl rfl rfl (fun _ => ⟨rfl, fun hc => by first | rfl | (rw [hc]; rfl) | simp_all⟩)) rfl rfl ?_)
                      refine o_keep (.c 2 rfl (.c 6 rfl (.c 7 rfl (.c 8 rfl (.c 9 rfl (.c 10 rfl (.c 13 rfl (.c 94 rfl .n)))))))) ?_
                      refine r_cond _ rfl (fun h11 => ?_) (fun h11 => ?_)
                      · exfalso; exact if he : (stepSh s1 x).2 = 0 then (if hk1 : k = 1 then (by have ha := hag hk1; rw [ha] at hce; exact hce ⟨rfl, rfl⟩) else (by have hk2 : ¬ ((k : Int) = 1) := (by omega); simp [he, hk2] at h11)) else (by have ha := stepSh_err he; rw [ha] at hce; exact hce ⟨rfl, rfl⟩)
                      · skip
                        refine r_skip ?_
                        refine r_seq ?_
                        refine r_region ?_
                        refine p_mv rfl rfl ?_
                        refine p_neq rfl rfl rfl ?_
                        refine o_keep (.c 2 rfl (.c 6 rfl (.c 7 rfl (.c 8 rfl (.c 9 rfl (.c 10 rfl (.c 96 rfl .n))))))) ?_
                        refine r_cond _ rfl (fun h12 => ?_) (fun h12 => ?_)
                        · skip
                          refine r_exit rfl ?_
                          refine r_join_1 ((stepSh s1 x).1) ?_ (Keep.app (.n) (.c 2 rfl (.c 6 rfl (.c 7 rfl (.c 8 rfl (.c 9 rfl .n)))))) ?_
                          · exact ⟨hS1.stp x, stepSh_over⟩
                          · first | exact Ent.rfl | (repeat (first | exact Ent.rfl | refine Ent.c (SelB.ent) ?_ | refine Ent.c (SelS.ent) ?_ | refine Ent.cN ?_ | refine Ent.c (SelX.ent) ?_ | refine Ent.dropR ?_))
                        · skip
                          have he0 : (stepSh s1 x).2 = 0 := by simpa using h12
                          have hnext : (stepSh s1 x).1 = (stepSh s x).1 ∧ (stepSh s x).2 = 0 := hst.elim (fun q => by rw [q.2] at he0 ⊢; exact ⟨rfl, he0⟩) (fun q => by rw [hag (by have := q.1; omega)]; exact ⟨q.2.1, q.2.2⟩)
                          refine r_skip ?_
                          refine r_end ?_
                          refine r_region ?_
                          refine p_mv rfl rfl ?_
                          refine p_add rfl rfl (by omega) rfl ?_
                          refine p_as rfl rfl ?_
                          refine o_keep (.c 2 rfl (.c 6 rfl (.c 7 rfl (.c 8 rfl (.c 9 rfl (.c 10 rfl .n)))))) ?_
                          refine r_back_2 (k + 1) ((stepSh s1 x).1) ?_ ?_ (Keep.app (.c 10 rfl .n) (.c 2 rfl (.c 6 rfl (.c 7 rfl (.c 8 rfl (.c 9 rfl .n)))))) ?_
                          · exact ⟨by omega, hS3, .inr ⟨by omega, hnext.1, hnext.2⟩⟩
                          · omega
                          · first | exact Ent.rfl | (repeat (first | exact Ent.rfl | refine Ent.c (SelB.ent) ?_ | refine Ent.c (SelS.ent) ?_ | refine Ent.cN ?_ | refine Ent.c (SelX.ent) ?_ | refine Ent.dropR ?_))
                  · skip
                    have hk2 : ¬ k < 2 := by have := of_decide_eq_false h6; omega
                    refine r_exit rfl ?_
                    refine r_join_1 (s1) ?_ (Keep.app (.n) (.c 2 rfl (.c 6 rfl (.c 7 rfl (.c 8 rfl (.c 9 rfl .n)))))) ?_
                    · exact ⟨hS1, fun a b c => hst.elim (fun q => by have := q.1; omega) (fun q => by rw [q.2.1]; exact stepSh_over a b c)⟩
                    · first | exact Ent.rfl | (repeat (first | exact Ent.rfl | refine Ent.c (SelB.ent) ?_ | refine Ent.c (SelS.ent) ?_ | refine Ent.cN ?_ | refine Ent.c (SelX.ent) ?_ | refine Ent.dropR ?_))
              obtain ⟨hS2, hov2⟩ := hI
              have h2a := hS2.holds_le
              have h2b := hS2.over_le
              have h2c : ∀ h ∈ s2.holds, 0 ≤ h.ctr := fun h hm => by have := hS2.h h hm; have := hS2.no0; omega
              refine r_seq ?_
              refine r_region ?_
              refine p_mv rfl rfl ?_
              refine p_calle cf_30 (.c rfl .n) rfl (shop_Holds _ _ s2 (by omega) (by omega)) fun hv3 => ?_
              refine o_cat ?_
              refine o_rd hv3 fun hr3 => ?_
              refine p_as rfl rfl ?_
              refine o_keep (.c 2 rfl (.c 6 rfl (.c 7 rfl (.c 8 rfl (.c 9 rfl (.c 15 rfl .n)))))) ?_
              refine r_seq ?_
              refine r_seq ?_
              refine r_region ?_
              refine p_as rfl rfl ?_
              refine o_keep (.c 2 rfl (.c 6 rfl (.c 7 rfl (.c 8 rfl (.c 9 rfl (.c 15 rfl (.c 16 rfl .n))))))) ?_
              refine r_block ?_
              refine r_loop_1 (fun (j : Nat) => [(16, true, .int .i64 (j : Int))]) (.c 2 rfl (.c 6 rfl (.c 7 rfl (.c 8 rfl (.c 9 rfl (.c 15 rfl .n)))))) (fun (j : Nat) => shopP b7 s2 :: sl hv3 67 3 (s2.holds.map rH) :: blk b9 (rSS x) 63 :: blk b4 (ws.map vI) 42 :: H) (fun (j : Nat) => j ≤ s2.holds.length) (fun (j : Nat) => s2.holds.length - j) (0) ?_ (.c 16 rfl .n) ?_ (fun j hI => ?_)
              · exact Nat.zero_le _
              · first | exact Ent.rfl | (repeat (first | exact Ent.rfl | refine Ent.c (SelB.ent) ?_ | refine Ent.c (SelS.ent) ?_ | refine Ent.cN ?_ | refine Ent.c (SelX.ent) ?_ | refine Ent.dropR ?_))
              · skip
                refine r_seq ?_
                refine r_seq ?_
                refine r_region ?_
                refine p_mv rfl rfl ?_
                refine p_mv rfl rfl ?_
                refine l_op (x_p (pv_lens (Rd.len hr3) ⟨_, Try.underlying55⟩ (.n rfl) rfl rfl rfl rfl (fun _ => rfl)) rfl rfl ?_)
                refine p_lss rfl rfl rfl ?_
                refine o_keep (.c 2 rfl (.c 6 rfl (.c 7 rfl (.c 8 rfl (.c 9 rfl (.c 15 rfl (.c 16 rfl (.c 102 rfl .n)))))))) ?_
                refine r_cond _ rfl (fun h13 => ?_) (fun h13 => ?_)
                · skip
                  have hj : j < s2.holds.length := by have := of_decide_eq_true h13; omega
                  obtain ⟨hd, hh⟩ := getlt hj
                  refine r_skip ?_
                  refine r_seq ?_
                  refine r_block ?_
                  refine r_seq ?_
                  refine r_region ?_
                  refine p_mv rfl rfl ?_
                  refine p_mv rfl rfl ?_
                  refine p_mv rfl rfl ?_
                  refine p_idx Try.underlying55 (.ofA ta_67) hr3 rfl (mapget hh) rfl rfl rfl ?_
                  refine p_faat fa_67_0 (Rd.sh hr3 (mapget hh)) rfl rfl ?_
                  refine p_ldat 0 tc_3 (Rd.ent hr3 (by repeat (first | exact Ent.rfl | exact Ent.one Ent.h | exact Ent.one (SelS.ent) | exact Ent.nil | exact Ent.left | refine Ent.dropR ?_ | refine Ent.tr Ent.skip ?_))) (mapget hh) rfl rfl rfl rfl ?_
                  refine p_callv cf_25 (.c rfl (.c rfl .n)) rfl ((shop_Over _ _ s2 (by omega) (by omega) hd.deal).q) ?_
                  refine p_mv rfl rfl ?_
                  refine p_ext rfl rfl rfl ?_
                  refine p_ext rfl rfl rfl ?_
                  refine p_as rfl rfl ?_
                  refine p_as rfl rfl ?_
                  refine o_keep (.c 2 rfl (.c 6 rfl (.c 7 rfl (.c 8 rfl (.c 9 rfl (.c 15 rfl (.c 16 rfl (.c 17 rfl .n)))))))) ?_
                  refine r_seq ?_
                  refine r_region ?_
                  refine p_mv rfl rfl ?_
                  refine o_keep (.c 2 rfl (.c 6 rfl (.c 7 rfl (.c 8 rfl (.c 9 rfl (.c 15 rfl (.c 16 rfl (.c 115 rfl .n)))))))) ?_
                  refine r_cond _ rfl (fun h14 => ?_) (fun h14 => ?_)
                  · exfalso; rw [(hS2.h hd (List.mem_of_getElem? hh)).2.2.2.2] at h14; cases h14
                  · skip
                    refine r_skip ?_
                    refine r_end ?_
                    refine r_region ?_
                    refine p_mv rfl rfl ?_
                    refine p_add rfl rfl (by omega) rfl ?_
                    refine p_as rfl rfl ?_
                    refine o_keep (.c 2 rfl (.c 6 rfl (.c 7 rfl (.c 8 rfl (.c 9 rfl (.c 15 rfl (.c 16 rfl .n))))))) ?_
                    refine r_back_1 (j + 1) ?_ ?_ (Keep.app (.c 16 rfl .n) (.c 2 rfl (.c 6 rfl (.c 7 rfl (.c 8 rfl (.c 9 rfl (.c 15 rfl .n))))))) ?_
                    · omega
                    · omega
                    · first | exact Ent.rfl | (repeat (first | exact Ent.rfl | refine Ent.c (SelB.ent) ?_ | refine Ent.c (SelS.ent) ?_ | refine Ent.cN ?_ | refine Ent.c (SelX.ent) ?_ | refine Ent.dropR ?_))
                · skip
                  refine r_exit rfl ?_
                  refine r_seq ?_
                  refine r_region ?_
                  refine p_mv rfl rfl ?_
                  refine p_fa fa_63_1 rfl rfl ?_
                  refine p_ldc tc_3 rfl (by rfl) rfl ?_
                  refine p_callv cf_25 (.c rfl (.c rfl .n)) rfl ((shop_Over _ _ s2 (by omega) (by omega) x.deal).q) ?_
                  refine p_mv rfl rfl ?_
                  refine p_ext rfl rfl rfl ?_
                  refine p_ext rfl rfl rfl ?_
                  refine p_as rfl rfl ?_
                  refine p_as rfl rfl ?_
                  refine o_keep (.c 2 rfl (.c 6 rfl (.c 7 rfl (.c 8 rfl (.c 9 rfl (.c 19 rfl (.c 20 rfl .n))))))) ?_
                  refine r_seq ?_
                  refine r_region ?_
                  refine p_fa fa_63_0 rfl rfl ?_
                  refine p_ldc tc_3 rfl (by rfl) rfl ?_
                  refine p_eql rfl rfl rfl ?_
                  refine p_mv rfl rfl ?_
                  refine l_op (x_p (pv_fa fa_63_1 (.s rfl rfl rfl) rfl rfl (by first | exact fun _ => rfl | exact id | exact fun h => (Bool.and_eq_true_iff.1 h).1 | simp_all)) rfl rfl ?_)
                  refine l_op (x_r (q_ldc tc_3 (.s rfl rfl rfl) rfl rfl (by first | exact fun _ => rfl | exact id | exact fun h => (Bool.and_eq_true_iff.1 h).1 | simp_all) (by rfl)) rfl rfl ?_)
                  refine l_op (x_p (pv_geq (.s rfl rfl rfl) rfl rfl rfl (by refine fun h => ⟨?_, ?_⟩ <;> first | rfl | exact h | exact (Bool.and_eq_true_iff.1 h).1 | simp_all)) rfl rfl ?_)
                  refine l_op (x_p (pv_and (.n rfl) rfl rfl rfl (fun _ => ⟨rfl, fun hc => by first | rfl | (rw [hc]; rfl) | simp_all⟩)) rfl rfl ?_)
                  refine p_mv rfl rfl ?_
                  refine l_op (x_p (pv_fa fa_63_1 (.s rfl rfl rfl) rfl rfl (by first | exact fun _ => rfl | exact id | exact fun h => (Bool.and_eq_true_iff.1 h).1 | simp_all)) rfl rfl ?_)
                  refine l_op (x_r (q_ldc tc_3 (.s rfl rfl rfl) rfl rfl (by first | exact fun _ => rfl | exact id | exact fun h => (Bool.and_eq_true_iff.1 h).1 | simp_all) (by rfl)) rfl rfl ?_)
                  refine l_op (x_p (pv_lss (.s rfl rfl rfl) rfl rfl rfl (by refine fun h => ⟨?_, ?_⟩ <;> first | rfl | exact h | exact (Bool.and_eq_true_iff.1 h).1 | simp_all)) rfl rfl ?_)
                  refine l_op (x_p (pv_and (.n rfl) rfl rfl rfl (fun _ => ⟨rfl, fun hc => by first | rfl | (rw [hc]; rfl) | simp_all⟩)) rfl rfl ?_)
                  refine p_mv rfl rfl ?_
                  refine o_split (t := 136) rfl (fun g15 => ?_) (fun g15 => ?_)
                  · skip
                    have hin : x.d = 1 ∧ 0 ≤ x.deal ∧ x.deal < 8 := by simp at g15; omega
                    have hovs := hov2 hin.1 hin.2.1 hin.2.2
                    obtain ⟨dd, hdd⟩ := Option.isSome_iff_exists.1 hovs
                    have he9 : endS s2 x.deal (!(overL s2.over x.deal).getD false) = (s2, 9) := by rw [endS_2 (by omega) hdd, hdd]; cases dd <;> simp
                    refine o_g (.s rfl rfl rfl) rfl ?_
                    refine p_mv rfl rfl ?_
                    refine o_g (.s rfl rfl rfl) rfl ?_
                    refine p_not rfl rfl ?_
                    refine o_g (.s rfl rfl rfl) rfl ?_
                    refine p_mv rfl rfl ?_
                    refine o_split (t := 139) rfl (fun g16 => ?_) (fun g16 => ?_)
                    · exfalso; simp [hovs] at g16
                    · skip
                      refine o_g (.s rfl rfl rfl) rfl ?_
                      refine p_mv rfl rfl ?_
                      refine o_g (.s rfl rfl rfl) rfl ?_
                      refine p_fa fa_63_1 rfl rfl ?_
                      refine o_g (.s rfl rfl rfl) rfl ?_
                      refine p_ldc tc_3 rfl (by rfl) rfl ?_
                      refine o_g (.s rfl rfl rfl) rfl ?_
                      refine p_mv rfl rfl ?_
                      refine o_g (.s rfl rfl rfl) rfl ?_
                      refine p_not rfl rfl ?_
                      refine o_g (.s rfl rfl rfl) rfl ?_
                      refine p_callc cf_33 (.c rfl (.c rfl (.c rfl .n))) rfl (shop_End _ _ s2 (by omega) (by omega) h2c x.deal (!(overL s2.over x.deal).getD false)) ?_
                      rw [he9]
                      refine o_g (.s rfl rfl rfl) rfl ?_
                      refine p_neq rfl rfl rfl ?_
                      refine o_g (.s rfl rfl rfl) rfl ?_
                      refine l_op (x_p (pv_or (.n rfl) rfl rfl rfl (fun _ => ⟨rfl, fun hc => by first | rfl | (rw [hc]; rfl) | simp_all⟩)) rfl rfl ?_)
                      refine l_op (x_p (pv_and (.n rfl) rfl rfl rfl (fun _ => ⟨rfl, fun hc => by first | rfl | (rw [hc]; rfl) | simp_all⟩)) rfl rfl ?_)
                      refine o_keep (.c 2 rfl (.c 6 rfl (.c 7 rfl (.c 8 rfl (.c 148 rfl .n))))) ?_
                      refine r_cond _ rfl (fun h17 => ?_) (fun h17 => ?_)
                      · exfalso; simp at h17
                      · skip
                        refine r_skip ?_
                        refine r_end ?_
                        refine r_region ?_
                        refine p_mv rfl rfl ?_
                        refine p_add rfl rfl (by omega) rfl ?_
                        refine p_as rfl rfl ?_
                        refine o_keep (.c 2 rfl (.c 6 rfl (.c 7 rfl (.c 8 rfl .n)))) ?_
                        refine r_back_2 (i + 1) (s2) ?_ ?_ (Keep.app (.c 8 rfl .n) (.c 2 rfl (.c 6 rfl (.c 7 rfl .n)))) ?_
                        · exact ⟨by omega, hS2⟩
                        · omega
                        · first | exact Ent.rfl | (repeat (first | exact Ent.rfl | refine Ent.c (SelB.ent) ?_ | refine Ent.c (SelS.ent) ?_ | refine Ent.cN ?_ | refine Ent.c (SelX.ent) ?_ | refine Ent.dropR ?_))
                  · skip
                    have hin := g15
                    refine o_ng (.s rfl rfl rfl) rfl rfl ?_
                    refine o_ng (.s rfl rfl rfl) rfl rfl ?_
                    refine o_ng (.s rfl rfl rfl) rfl rfl ?_
                    refine o_ng (.s rfl rfl rfl) rfl rfl ?_
                    refine o_ng (.s rfl rfl rfl) rfl rfl ?_
                    refine o_ng (.s rfl rfl rfl) rfl rfl ?_
                    refine o_ng (.s rfl rfl rfl) rfl rfl ?_
                    refine o_ng (.s rfl rfl rfl) rfl rfl ?_
                    refine o_ng (.s rfl rfl rfl) rfl rfl ?_
                    refine o_ng (.s rfl rfl rfl) rfl rfl ?_
                    refine o_ng (.s rfl rfl rfl) rfl rfl ?_
                    refine l_op (x_p (pv_andf (.n rfl) rfl rfl (fun _ => rfl)) rfl rfl ?_)
                    refine o_keep (.c 2 rfl (.c 6 rfl (.c 7 rfl (.c 8 rfl (.c 148 rfl .n))))) ?_
                    refine r_cond _ rfl (fun h18 => ?_) (fun h18 => ?_)
                    · exfalso; simp at h18
                    · skip
                      refine r_skip ?_
                      refine r_end ?_
                      refine r_region ?_
                      refine p_mv rfl rfl ?_
                      refine p_add rfl rfl (by omega) rfl ?_
                      refine p_as rfl rfl ?_
                      refine o_keep (.c 2 rfl (.c 6 rfl (.c 7 rfl (.c 8 rfl .n)))) ?_
                      refine r_back_2 (i + 1) (s2) ?_ ?_ (Keep.app (.c 8 rfl .n) (.c 2 rfl (.c 6 rfl (.c 7 rfl .n)))) ?_
                      · exact ⟨by omega, hS2⟩
                      · omega
                      · first | exact Ent.rfl | (repeat (first | exact Ent.rfl | refine Ent.c (SelB.ent) ?_ | refine Ent.c (SelS.ent) ?_ | refine Ent.cN ?_ | refine Ent.c (SelX.ent) ?_ | refine Ent.dropR ?_))
            · skip
              refine r_exit rfl ?_
              refine r_seq ?_
              refine r_region ?_
              refine p_as rfl rfl ?_
              refine o_keep (.c 6 rfl .n) ?_
              refine r_retv hF rfl (.c (.t rfl) .n) ?_ ?_
              · first | exact Ent.rfl | (repeat (first | exact Ent.rfl | refine Ent.c (SelB.ent) ?_ | refine Ent.c (SelS.ent) ?_ | refine Ent.cN ?_ | refine Ent.c (SelX.ent) ?_ | refine Ent.dropR ?_))
              · rfl

theorem law_ShopSums (M : Amb) (H : List HP) (no : Int) (ws : List Int) (h6 : ws.length = 6) (lv : Value) (ls : List SStep) (hl : Rd M [] lv 5 (ls.map rSS)) : FnV Try.prog M H 5 [.int .i64 no, .agg (ws.map vI).toArray, lv] (.bool true) := by
  refine fn_intro Try.func5 rfl Try.ntmps5 rfl fun F hF => ?_
  refine r_seq ?_
  refine r_region ?_
  refine p_box rfl rfl rfl fun b4 => ?_
  refine p_as rfl rfl ?_
  refine o_keep (.c 0 rfl (.c 2 rfl (.c 4 rfl (.c 6 rfl .n)))) ?_
  refine r_seq ?_
  refine r_seq ?_
  refine r_region ?_
  refine p_callv cf_23 (.n) rfl (law_shopBegun _ _) ?_
  refine p_not rfl rfl ?_
  refine o_keep (.c 0 rfl (.c 2 rfl (.c 4 rfl (.c 6 rfl (.c 23 rfl .n))))) ?_
  refine r_cond _ rfl (fun h1 => ?_) (fun h1 => ?_)
  · simp at h1
  · skip
    refine r_skip ?_
    refine r_seq ?_
    refine r_seq ?_
    refine r_region ?_
    refine p_mv rfl rfl ?_
    refine l_op (x_p (pv_lens hl.len ⟨_, Try.underlying43⟩ (.n rfl) rfl rfl rfl rfl (fun _ => rfl)) rfl rfl ?_)
    refine p_gtr rfl rfl rfl ?_
    refine o_keep (.c 0 rfl (.c 2 rfl (.c 4 rfl (.c 6 rfl (.c 26 rfl .n))))) ?_
    refine r_cond _ rfl (fun h2 => ?_) (fun h2 => ?_)
    · skip
      refine r_seq ?_
      refine r_region ?_
      refine p_as rfl rfl ?_
      refine o_keep (.c 0 rfl (.c 2 rfl (.c 4 rfl (.c 6 rfl .n)))) ?_
      refine r_retv hF rfl (.c (.t rfl) .n) ?_ ?_
      · first | exact Ent.rfl | (repeat (first | exact Ent.rfl | refine Ent.c (SelB.ent) ?_ | refine Ent.c (SelS.ent) ?_ | refine Ent.cN ?_ | refine Ent.c (SelX.ent) ?_ | refine Ent.dropR ?_))
      · rfl
    · skip
      have hL := of_decide_eq_false h2
      refine r_skip ?_
      refine r_seq ?_
      rcases hn : newS no ws with _ | s0
      · skip
        refine r_region ?_
        refine p_mv rfl rfl ?_
        refine p_lda ta_42 rfl (by exact (Tk.all (by first | rfl | assumption | (simp only [List.drop_zero, List.length_map]; assumption) | (simp [*]; done)))) rfl ?_
        refine p_callc cf_31 (.c rfl (.c rfl .n)) rfl (shop_New_none _ no ws h6 hn) ?_
        refine p_as rfl rfl ?_
        refine o_keep (.c 0 rfl (.c 2 rfl (.c 4 rfl (.c 6 rfl (.c 7 rfl .n))))) ?_
        refine r_seq ?_
        refine r_seq ?_
        refine r_region ?_
        refine p_mv rfl rfl ?_
        refine l_op (x_p (pv_peqn Try.underlying44 (.n rfl) rfl rfl rfl (fun _ => ⟨rfl, rfl⟩)) rfl rfl ?_)
        refine o_keep (.c 0 rfl (.c 2 rfl (.c 4 rfl (.c 6 rfl (.c 7 rfl (.c 31 rfl .n)))))) ?_
        refine r_cond _ rfl (fun h3 => ?_) (fun h3 => ?_)
        · skip
          refine r_seq ?_
          refine r_region ?_
          refine p_as rfl rfl ?_
          refine o_keep (.c 0 rfl (.c 2 rfl (.c 4 rfl (.c 6 rfl (.c 7 rfl .n))))) ?_
          refine r_retv hF rfl (.c (.t rfl) .n) ?_ ?_
          · first | exact Ent.rfl | (repeat (first | exact Ent.rfl | refine Ent.c (SelB.ent) ?_ | refine Ent.c (SelS.ent) ?_ | refine Ent.cN ?_ | refine Ent.c (SelX.ent) ?_ | refine Ent.dropR ?_))
          · rfl
        · simp at h3
      · skip
        refine r_region ?_
        refine p_mv rfl rfl ?_
        refine p_lda ta_42 rfl (by exact (Tk.all (by first | rfl | assumption | (simp only [List.drop_zero, List.length_map]; assumption) | (simp [*]; done)))) rfl ?_
        refine p_calle cf_31 (.c rfl (.c rfl .n)) rfl (shop_New_some _ no ws h6 hn) fun b7 => ?_
        refine o_cat ?_
        refine p_as rfl rfl ?_
        refine o_keep (.c 0 rfl (.c 2 rfl (.c 4 rfl (.c 6 rfl (.c 7 rfl .n))))) ?_
        refine r_seq ?_
        refine r_seq ?_
        refine r_region ?_
        refine p_mv rfl rfl ?_
        refine l_op (x_p (pv_peqn Try.underlying44 (.n rfl) rfl rfl rfl (fun _ => ⟨rfl, rfl⟩)) rfl rfl ?_)
        refine o_keep (.c 0 rfl (.c 2 rfl (.c 4 rfl (.c 6 rfl (.c 7 rfl (.c 31 rfl .n)))))) ?_
        refine r_cond _ rfl (fun h4 => ?_) (fun h4 => ?_)
        · simp at h4
        · skip
          obtain ⟨hs0, hno, _, _, hc0, hc1⟩ := newS_ok hn
          refine r_skip ?_
          refine r_seq ?_
          refine r_seq ?_
          refine r_region ?_
          refine p_mv rfl rfl ?_
          refine p_lss rfl rfl rfl ?_
          refine p_mv rfl rfl ?_
          refine l_op (x_p (pv_mv (.s rfl rfl rfl) rfl rfl (by first | exact fun _ => rfl | exact id | exact fun h => (Bool.and_eq_true_iff.1 h).1 | simp_all)) rfl rfl ?_)
          refine l_op (x_p (pv_geq (.s rfl rfl rfl) rfl rfl rfl (by refine fun h => ⟨?_, ?_⟩ <;> first | rfl | exact h | exact (Bool.and_eq_true_iff.1 h).1 | simp_all)) rfl rfl ?_)
          refine l_op (x_p (pv_or (.n rfl) rfl rfl rfl (fun _ => ⟨rfl, fun hc => by first | rfl | (rw [hc]; rfl) | simp_all⟩)) rfl rfl ?_)
          refine o_keep (.c 0 rfl (.c 2 rfl (.c 4 rfl (.c 6 rfl (.c 7 rfl (.c 37 rfl .n)))))) ?_
          refine r_cond _ rfl (fun h5 => ?_) (fun h5 => ?_)
          · exfalso; have := hs0.no0; have := hs0.no3; simp at h5; omega
          · skip
            refine r_skip ?_
            refine r_seq ?_
            refine r_region ?_
            refine p_alloc zr_57 rfl fun b8 => ?_
            refine o_keep (.c 0 rfl (.c 2 rfl (.c 4 rfl (.c 6 rfl (.c 7 rfl (.c 8 rfl .n)))))) ?_
            refine r_seq ?_
            refine r_seq ?_
            refine r_region ?_
            refine p_as rfl rfl ?_
            refine o_keep (.c 0 rfl (.c 2 rfl (.c 4 rfl (.c 6 rfl (.c 7 rfl (.c 8 rfl (.c 9 rfl .n))))))) ?_
            refine r_block ?_
            refine r_loop_3 (fun (k : Nat) (a c : Int) => [(9, true, .int .i64 (k : Int))]) (.c 0 rfl (.c 2 rfl (.c 4 rfl (.c 6 rfl (.c 7 rfl (.c 8 rfl .n)))))) (fun (k : Nat) (a c : Int) => blk b8 [.int .i64 a, .int .i64 c] 57 :: shopP b7 s0 :: blk b4 (ws.map vI) 42 :: H) (fun (k : Nat) (a c : Int) => (k = 0 ∧ a = 0 ∧ c = 0) ∨ (k = 1 ∧ a = (ws.getD (no * 2).toNat 0) ∧ c = 0) ∨ (k = 2 ∧ a = (ws.getD (no * 2).toNat 0) ∧ c = (ws.getD (no * 2 + 1).toNat 0))) (fun (k : Nat) (a c : Int) => 2 - k) (0) (0) (0) ?_ (.c 9 rfl .n) ?_ (fun k a c hI => ?_)
            · exact .inl ⟨rfl, rfl, rfl⟩
            · first | exact Ent.rfl | (repeat (first | exact Ent.rfl | refine Ent.c (SelB.ent) ?_ | refine Ent.c (SelS.ent) ?_ | refine Ent.cN ?_ | refine Ent.c (SelX.ent) ?_ | refine Ent.dropR ?_))
            · skip
              have hs00 := hs0.no0
              have hs03 := hs0.no3
              refine r_seq ?_
              refine r_seq ?_
              refine r_region ?_
              refine p_mv rfl rfl ?_
              refine p_lss rfl rfl rfl ?_
              refine o_keep (.c 0 rfl (.c 2 rfl (.c 4 rfl (.c 6 rfl (.c 7 rfl (.c 8 rfl (.c 9 rfl (.c 39 rfl .n)))))))) ?_
              refine r_cond _ rfl (fun h6 => ?_) (fun h6 => ?_)
              · skip
                have hk2 : k < 2 := by have := of_decide_eq_true h6; omega
                refine r_skip ?_
                refine r_seq ?_
                refine r_block ?_
                rcases (show (k = 0 ∧ a = 0 ∧ c = 0) ∨ (k = 1 ∧ a = (ws.getD (no * 2).toNat 0) ∧ c = 0) by rcases hI with h | h | h; exact .inl h; exact .inr h; omega) with ⟨rfl, rfl, rfl⟩ | ⟨rfl, rfl, rfl⟩
                · skip
                  refine r_region ?_
                  refine p_mv rfl rfl ?_
                  refine p_mv rfl rfl ?_
                  refine p_mul rfl rfl (by omega) rfl ?_
                  refine p_mv rfl rfl ?_
                  refine p_add rfl rfl (by omega) rfl ?_
                  refine l_op (x_p (pv_aidx (i := (no * 2).toNat) Try.underlying42 (.ofC tc_3) (fun hg => ⟨by omega, by omega⟩) (.n rfl) rfl rfl rfl (fun _ => ⟨rfl, rfl⟩)) rfl rfl ?_)
                  refine l_op (x_r (q_ldci (i := (no * 2).toNat) tc_3 (.n rfl) rfl rfl (fun _ => rfl) (by omega) (wget (by omega))) rfl rfl ?_)
                  refine l_op (x_p (pv_aidx (i := 0) Try.underlying57 (.ofC tc_3) (fun hg => ⟨by omega, by omega⟩) (.n rfl) rfl rfl rfl (fun _ => ⟨rfl, rfl⟩)) rfl rfl ?_)
                  refine p_store (.ofC tc_3) rfl rfl rfl rfl rfl (by repeat constructor) ?_
                  refine o_keep (.c 0 rfl (.c 2 rfl (.c 4 rfl (.c 6 rfl (.c 7 rfl (.c 8 rfl (.c 9 rfl .n))))))) ?_
                  refine r_end ?_
                  refine r_region ?_
                  refine p_mv rfl rfl ?_
                  refine p_add rfl rfl (by omega) rfl ?_
                  refine p_as rfl rfl ?_
                  refine o_keep (.c 0 rfl (.c 2 rfl (.c 4 rfl (.c 6 rfl (.c 7 rfl (.c 8 rfl (.c 9 rfl .n))))))) ?_
                  refine r_back_3 (1) ((ws.getD (no * 2).toNat 0)) (0) ?_ ?_ (Keep.app (.c 9 rfl .n) (.c 0 rfl (.c 2 rfl (.c 4 rfl (.c 6 rfl (.c 7 rfl (.c 8 rfl .n))))))) ?_
                  · exact .inr (.inl ⟨rfl, rfl, rfl⟩)
                  · omega
                  · first | exact Ent.rfl | (repeat (first | exact Ent.rfl | refine Ent.c (SelB.ent) ?_ | refine Ent.c (SelS.ent) ?_ | refine Ent.cN ?_ | refine Ent.c (SelX.ent) ?_ | refine Ent.dropR ?_))
                · skip
                  refine r_region ?_
                  refine p_mv rfl rfl ?_
                  refine p_mv rfl rfl ?_
                  refine p_mul rfl rfl (by omega) rfl ?_
                  refine p_mv rfl rfl ?_
                  refine p_add rfl rfl (by omega) rfl ?_
                  refine l_op (x_p (pv_aidx (i := (no * 2 + 1).toNat) Try.underlying42 (.ofC tc_3) (fun hg => ⟨by omega, by omega⟩) (.n rfl) rfl rfl rfl (fun _ => ⟨rfl, rfl⟩)) rfl rfl ?_)
                  refine l_op (x_r (q_ldci (i := (no * 2 + 1).toNat) tc_3 (.n rfl) rfl rfl (fun _ => rfl) (by omega) (wget (by omega))) rfl rfl ?_)
                  refine l_op (x_p (pv_aidx (i := 1) Try.underlying57 (.ofC tc_3) (fun hg => ⟨by omega, by omega⟩) (.n rfl) rfl rfl rfl (fun _ => ⟨rfl, rfl⟩)) rfl rfl ?_)
                  refine p_store (.ofC tc_3) rfl rfl rfl rfl rfl (by repeat constructor) ?_
                  refine o_keep (.c 0 rfl (.c 2 rfl (.c 4 rfl (.c 6 rfl (.c 7 rfl (.c 8 rfl (.c 9 rfl .n))))))) ?_
                  refine r_end ?_
                  refine r_region ?_
                  refine p_mv rfl rfl ?_
                  refine p_add rfl rfl (by omega) rfl ?_
                  refine p_as rfl rfl ?_
                  refine o_keep (.c 0 rfl (.c 2 rfl (.c 4 rfl (.c 6 rfl (.c 7 rfl (.c 8 rfl (.c 9 rfl .n))))))) ?_
                  refine r_back_3 (2) ((ws.getD (no * 2).toNat 0)) ((ws.getD (no * 2 + 1).toNat 0)) ?_ ?_ (Keep.app (.c 9 rfl .n) (.c 0 rfl (.c 2 rfl (.c 4 rfl (.c 6 rfl (.c 7 rfl (.c 8 rfl .n))))))) ?_
                  · exact .inr (.inr ⟨rfl, rfl, rfl⟩)
                  · omega
                  · first | exact Ent.rfl | (repeat (first | exact Ent.rfl | refine Ent.c (SelB.ent) ?_ | refine Ent.c (SelS.ent) ?_ | refine Ent.cN ?_ | refine Ent.c (SelX.ent) ?_ | refine Ent.dropR ?_))
              · skip
                have hk2 : ¬ k < 2 := by have := of_decide_eq_false h6; omega
                obtain ⟨rfl, rfl, rfl⟩ : k = 2 ∧ a = (ws.getD (no * 2).toNat 0) ∧ c = (ws.getD (no * 2 + 1).toNat 0) := by rcases hI with h | h | h; omega; omega; exact h
                refine r_exit rfl ?_
                refine r_seq ?_
                refine r_seq ?_
                refine r_region ?_
                refine p_as rfl rfl ?_
                refine o_keep (.c 0 rfl (.c 2 rfl (.c 6 rfl (.c 7 rfl (.c 8 rfl (.c 10 rfl .n)))))) ?_
                refine r_block ?_
                refine r_loop_2 (fun (i : Nat) (s : ShopS) => [(10, true, .int .i64 (i : Int))]) (.c 0 rfl (.c 2 rfl (.c 6 rfl (.c 7 rfl (.c 8 rfl .n))))) (fun (i : Nat) (s : ShopS) => blk b8 [.int .i64 s.c0.v, .int .i64 s.c1.v] 57 :: shopP b7 s :: blk b4 (ws.map vI) 42 :: H) (fun (i : Nat) (s : ShopS) => i ≤ ls.length ∧ ShInv s ∧ s.no = no) (fun (i : Nat) (s : ShopS) => ls.length - i) (0) (s0) ?_ (.c 10 rfl .n) ?_ (fun i s hI => ?_)
                · exact ⟨Nat.zero_le _, hs0, hno⟩
                · rw [hc0, hc1]; first | exact Ent.rfl | (repeat (first | exact Ent.rfl | refine Ent.c (SelB.ent) ?_ | refine Ent.c (SelS.ent) ?_ | refine Ent.cN ?_ | refine Ent.c (SelX.ent) ?_ | refine Ent.dropR ?_))
                · skip
                  obtain ⟨hil, hS, hno1⟩ := hI
                  have hh1 := hS.holds_le
                  have hh2 := hS.over_le
                  have hno0 := hS.no0
                  have hno3 := hS.no3
                  have hcc : ∀ h ∈ s.holds, 0 ≤ h.ctr := fun h hm => by have := hS.h h hm; omega
                  refine r_seq ?_
                  refine r_seq ?_
                  refine r_region ?_
                  refine p_mv rfl rfl ?_
                  refine p_mv rfl rfl ?_
                  refine l_op (x_p (pv_lens hl.len ⟨_, Try.underlying43⟩ (.n rfl) rfl rfl rfl rfl (fun _ => rfl)) rfl rfl ?_)
                  refine p_lss rfl rfl rfl ?_
                  refine o_keep (.c 0 rfl (.c 2 rfl (.c 6 rfl (.c 7 rfl (.c 8 rfl (.c 10 rfl (.c 53 rfl .n))))))) ?_
                  refine r_cond _ rfl (fun h7 => ?_) (fun h7 => ?_)
                  · skip
                    have hi : i < ls.length := by have := of_decide_eq_true h7; omega
                    obtain ⟨x, hx⟩ := getlt hi
                    have hv := stepSh_v (x := x) hS
                    refine r_skip ?_
                    refine r_seq ?_
                    refine r_block ?_
                    refine r_seq ?_
                    refine r_region ?_
                    refine p_mv rfl rfl ?_
                    refine p_mv rfl rfl ?_
                    refine p_idx Try.underlying43 (.ofA ta_63) hl rfl (mapget hx) rfl rfl rfl ?_
                    refine p_ldats 0 ta_63 (Rd.ent hl (by repeat (first | exact Ent.rfl | exact Ent.one Ent.h | exact Ent.one (SelS.ent) | exact Ent.nil | exact Ent.left | refine Ent.dropR ?_ | refine Ent.tr Ent.skip ?_))) (mapget hx) rfl rfl (.s (.s (.s (.s (.s .z))))) rfl ?_
                    refine p_alloc zr_63 rfl fun b11 => ?_
                    refine p_store (.ofA ta_63) rfl rfl rfl rfl rfl (by repeat constructor) ?_
                    refine o_keep (.c 0 rfl (.c 2 rfl (.c 6 rfl (.c 7 rfl (.c 8 rfl (.c 10 rfl (.c 11 rfl .n))))))) ?_
                    refine r_seq ?_
                    refine r_region ?_
                    refine p_mv rfl rfl ?_
                    refine p_calle cf_30 (.c rfl .n) rfl (shop_Holds _ _ s (by omega) (by omega)) fun hv1 => ?_
                    refine o_cat ?_
                    refine o_rd hv1 fun hr1 => ?_
                    refine p_as rfl rfl ?_
                    refine o_keep (.c 0 rfl (.c 2 rfl (.c 6 rfl (.c 7 rfl (.c 8 rfl (.c 10 rfl (.c 11 rfl (.c 12 rfl .n)))))))) ?_
                    refine r_seq ?_
                    refine r_seq ?_
                    refine r_region ?_
                    refine p_fa fa_63_0 rfl rfl ?_
                    refine p_ldc tc_3 rfl (by rfl) rfl ?_
                    refine o_keep (.c 0 rfl (.c 2 rfl (.c 6 rfl (.c 7 rfl (.c 8 rfl (.c 10 rfl (.c 11 rfl (.c 12 rfl (.c 63 rfl .n))))))))) ?_
                    refine r_cut_1 (fun (s2 : ShopS) => []) (.c 0 rfl (.c 2 rfl (.c 6 rfl (.c 7 rfl (.c 8 rfl (.c 10 rfl .n)))))) (fun (s2 : ShopS) => blk b8 [.int .i64 s2.c0.v, .int .i64 s2.c1.v] 57 :: shopP b7 s2 :: blk b11 (rSS x) 63 :: blk b4 (ws.map vI) 42 :: H) (fun (s2 : ShopS) => s2 = (stepSh s x).1) ?_ (fun s2 hI => ?_)
                    · skip
                      refine r_block ?_
                      refine r_seq ?_
                      refine r_region ?_
                      refine p_eql rfl rfl rfl ?_
                      refine p_as rfl rfl ?_
                      refine o_keep (.c 0 rfl (.c 2 rfl (.c 6 rfl (.c 7 rfl (.c 8 rfl (.c 10 rfl (.c 11 rfl (.c 12 rfl (.c 63 rfl (.c 64 rfl .n)))))))))) ?_
                      refine r_cond _ rfl (fun h8 => ?_) (fun h8 => ?_)
                      · skip
                        have hx0 : x.d = 0 := of_decide_eq_true h8
                        have hse : stepSh s x = holdS s x.deal x.w := by unfold stepSh; rw [if_pos hx0]
                        have hvn := hv.2.2 (fun q => by have := q.1; omega)
                        rw [hse] at hvn
                        refine r_region ?_
                        refine p_mv rfl rfl ?_
                        refine p_fa fa_63_1 rfl rfl ?_
                        refine p_ldc tc_3 rfl (by rfl) rfl ?_
                        refine p_fa fa_63_2 rfl rfl ?_
                        refine p_lda ta_35 rfl (by exact (.s (.s .z))) rfl ?_
                        refine p_callc cf_32 (.c rfl (.c rfl (.c rfl .n))) rfl (shop_Hold _ _ s (by omega) (by omega) hno0 x.deal x.w) ?_
                        refine o_keep (.c 0 rfl (.c 2 rfl (.c 6 rfl (.c 7 rfl (.c 8 rfl (.c 10 rfl .n)))))) ?_
                        refine r_end ?_
                        refine r_join_1 ((holdS s x.deal x.w).1) ?_ (Keep.app (.n) (.c 0 rfl (.c 2 rfl (.c 6 rfl (.c 7 rfl (.c 8 rfl (.c 10 rfl .n))))))) ?_
                        · rw [hse]
                        · rw [hvn.1, hvn.2]; first | exact Ent.rfl | (repeat (first | exact Ent.rfl | refine Ent.c (SelB.ent) ?_ | refine Ent.c (SelS.ent) ?_ | refine Ent.cN ?_ | refine Ent.c (SelX.ent) ?_ | refine Ent.dropR ?_))
                      · skip
                        have hx0 : ¬ x.d = 0 := of_decide_eq_false h8
                        refine r_seq ?_
                        refine r_region ?_
                        refine p_eql rfl rfl rfl ?_
                        refine p_as rfl rfl ?_
                        refine o_keep (.c 0 rfl (.c 2 rfl (.c 6 rfl (.c 7 rfl (.c 8 rfl (.c 10 rfl (.c 11 rfl (.c 12 rfl (.c 72 rfl .n))))))))) ?_
                        refine r_cond _ rfl (fun h9 => ?_) (fun h9 => ?_)
                        · skip
                          have hx1 : x.d = 1 := of_decide_eq_true h9
                          have hse : stepSh s x = endS s x.deal x.done := by unfold stepSh; rw [if_neg hx0, if_pos hx1]
                          rw [hse] at hv
                          refine r_seq ?_
                          refine r_region ?_
                          refine p_mv rfl rfl ?_
                          refine p_fa fa_63_1 rfl rfl ?_
                          refine p_ldc tc_3 rfl (by rfl) rfl ?_
                          refine p_callv cf_25 (.c rfl (.c rfl .n)) rfl ((shop_Over _ _ s (by omega) (by omega) x.deal).q) ?_
                          refine p_mv rfl rfl ?_
                          refine p_ext rfl rfl rfl ?_
                          refine p_ext rfl rfl rfl ?_
                          refine p_as rfl rfl ?_
                          refine p_as rfl rfl ?_
                          refine o_keep (.c 0 rfl (.c 2 rfl (.c 6 rfl (.c 7 rfl (.c 8 rfl (.c 10 rfl (.c 11 rfl (.c 12 rfl (.c 13 rfl .n))))))))) ?_
                          refine r_seq ?_
                          refine r_region ?_
                          refine p_mv rfl rfl ?_
                          refine p_fa fa_63_1 rfl rfl ?_
                          refine p_ldc tc_3 rfl (by rfl) rfl ?_
                          refine p_fa fa_63_3 rfl rfl ?_
                          refine p_ldc tc_4 rfl (by rfl) rfl ?_
                          refine p_callc cf_33 (.c rfl (.c rfl (.c rfl .n))) rfl (shop_End _ _ s (by omega) (by omega) hcc x.deal x.done) ?_
                          refine p_eql rfl rfl rfl ?_
                          refine p_mv rfl rfl ?_
                          refine l_op (x_p (pv_mv (.s rfl rfl rfl) rfl rfl (by first | exact fun _ => rfl | exact id | exact fun h => (Bool.and_eq_true_iff.1 h).1 | simp_all)) rfl rfl ?_)
                          refine l_op (x_p (pv_not (.s rfl rfl rfl) rfl rfl (by first | exact fun _ => rfl | exact id | exact fun h => (Bool.and_eq_true_iff.1 h).1 | simp_all)) rfl rfl ?_)
                          refine l_op (x_p (pv_and (.n rfl) rfl rfl rfl (fun _ => ⟨rfl, fun hc => by first | rfl | (rw [hc]; rfl) | simp_all⟩)) rfl rfl ?_)
                          refine p_mv rfl rfl ?_
                          refine l_op (x_p (pv_fa fa_63_3 (.s rfl rfl rfl) rfl rfl (by first | exact fun _ => rfl | exact id | exact fun h => (Bool.and_eq_true_iff.1 h).1 | simp_all)) rfl rfl ?_)
                          refine l_op (x_r (q_ldc tc_4 (.s rfl rfl rfl) rfl rfl (by first | exact fun _ => rfl | exact id | exact fun h => (Bool.and_eq_true_iff.1 h).1 | simp_all) (by rfl)) rfl rfl ?_)
                          refine l_op (x_p (pv_and (.n rfl) rfl rfl rfl (fun _ => ⟨rfl, fun hc => by first | rfl | (rw [hc]; rfl) | simp_all⟩)) rfl rfl ?_)
                          refine o_keep (.c 0 rfl (.c 2 rfl (.c 6 rfl (.c 7 rfl (.c 8 rfl (.c 10 rfl (.c 11 rfl (.c 12 rfl (.c 95 rfl .n))))))))) ?_
                          refine r_cond _ rfl (fun h10 => ?_) (fun h10 => ?_)
                          · skip
                            have hvy := hv.2.1 ⟨hx1, by simp at h10; exact h10.1.1, by simp at h10; simp [h10.1.2], by simp at h10; exact h10.2⟩
                            refine r_seq ?_
                            refine r_region ?_
                            refine p_as rfl rfl ?_
                            refine o_keep (.c 0 rfl (.c 2 rfl (.c 6 rfl (.c 7 rfl (.c 8 rfl (.c 10 rfl (.c 11 rfl (.c 12 rfl (.c 15 rfl .n))))))))) ?_
                            refine r_block ?_
                            refine r_loop_1 (fun (j : Nat) => [(15, true, .int .i64 (j : Int))]) (.c 0 rfl (.c 2 rfl (.c 6 rfl (.c 7 rfl (.c 8 rfl (.c 10 rfl (.c 11 rfl (.c 12 rfl .n)))))))) (fun (j : Nat) => blk b8 [.int .i64 (s.c0.v + sumH (2 * s.no) x.deal (s.holds.take j)), .int .i64 (s.c1.v + sumH (2 * s.no + 1) x.deal (s.holds.take j))] 57 :: shopP b7 (endS s x.deal x.done).1 :: sl hv1 67 3 (s.holds.map rH) :: blk b11 (rSS x) 63 :: blk b4 (ws.map vI) 42 :: H) (fun (j : Nat) => j ≤ s.holds.length) (fun (j : Nat) => s.holds.length - j) (0) ?_ (.c 15 rfl .n) ?_ (fun j hI => ?_)
                            · exact Nat.zero_le _
                            · simp only [List.take_zero, sumH, Int.add_zero]; first | exact Ent.rfl | (repeat (first | exact Ent.rfl | refine Ent.c (SelB.ent) ?_ | refine Ent.c (SelS.ent) ?_ | refine Ent.cN ?_ | refine Ent.c (SelX.ent) ?_ | refine Ent.dropR ?_))
                            · skip
                              refine r_seq ?_
                              refine r_seq ?_
                              refine r_region ?_
                              refine p_mv rfl rfl ?_
                              refine p_mv rfl rfl ?_
                              refine l_op (x_p (pv_lens (Rd.len hr1) ⟨_, Try.underlying55⟩ (.n rfl) rfl rfl rfl rfl (fun _ => rfl)) rfl rfl ?_)
                              refine p_lss rfl rfl rfl ?_
                              refine o_keep (.c 0 rfl (.c 2 rfl (.c 6 rfl (.c 7 rfl (.c 8 rfl (.c 10 rfl (.c 11 rfl (.c 12 rfl (.c 15 rfl (.c 99 rfl .n)))))))))) ?_
                              refine r_cond _ rfl (fun h11 => ?_) (fun h11 => ?_)
                              · skip
                                have hj : j < s.holds.length := by have := of_decide_eq_true h11; omega
                                obtain ⟨hh0, hh⟩ := getlt hj
                                have hhk := hS.h hh0 (List.mem_of_getElem? hh)
                                have hdl0 := hS.dl hh0 (List.mem_of_getElem? hh)
                                have hsm0 := sumH_take hh (2 * s.no) x.deal
                                have hsm1 := sumH_take hh (2 * s.no + 1) x.deal
                                have hbd0 := sumH_le (l := s.holds.take j) (fun y hy => hS.dl y (List.mem_of_mem_take hy)) (2 * s.no) x.deal
                                have hbd1 := sumH_le (l := s.holds.take j) (fun y hy => hS.dl y (List.mem_of_mem_take hy)) (2 * s.no + 1) x.deal
                                have htl := take_len (l := s.holds) (i := j) (by omega)
                                have hck0 := chk_ok hS.k0
                                have hck1 := chk_ok hS.k1
                                have hso : shopOf hh0.ctr = no := by rw [shopOf_ok (by omega) (by omega)]; omega
                                refine r_skip ?_
                                refine r_seq ?_
                                refine r_block ?_
                                refine r_seq ?_
                                refine r_plan _ [] mo (.c 0 rfl (.c 2 rfl (.c 6 rfl (.c 7 rfl (.c 8 rfl (.c 10 rfl (.c 11 rfl (.c 12 rfl (.c 15 rfl .n))))))))) Ent.rfl ?_
                                refine qm_q (i := 0) (l := [.k 12]) rfl rfl rfl rfl (by kernel_rfl) rfl (fun He => PV.rq (pv_mv (.n rfl) rfl rfl (fun _ => rfl))) ?_
                                refine qm_q (i := 1) (l := [.k 15]) rfl rfl rfl rfl (by kernel_rfl) rfl (fun He => PV.rq (pv_mv (.n rfl) rfl rfl (fun _ => rfl))) ?_
                                refine qm_q (i := 2) (l := [.o 0, .o 1]) rfl rfl rfl rfl (by kernel_rfl) rfl (fun He => PV.rq (pv_idx Try.underlying55 (.ofA ta_67) hr1 (fun hg => ⟨rfl, (mapget hh)⟩) (.n rfl) rfl rfl rfl (fun _ => ⟨rfl, rfl⟩))) ?_
                                refine qm_q (i := 3) (l := [.o 2]) rfl rfl rfl rfl (by kernel_rfl) rfl (fun He => PV.rq (pv_faat fa_67_0 (fun hg => Rd.sh hr1 (mapget hh)) (.n rfl) rfl rfl (fun _ => rfl))) ?_
                                refine qm_q (i := 4) (l := [.o 3]) rfl rfl rfl rfl (by kernel_rfl) rfl (fun He => RV.rq (rv_ldat (j := 0) tc_3 (Rd.ent hr1 (by repeat (first | exact Ent.rfl | exact Ent.one Ent.h | exact Ent.one (SelS.ent) | exact Ent.nil | exact Ent.left | refine Ent.dropR ?_ | refine Ent.tr Ent.skip ?_))) (fun hg => (mapget hh)) (.n rfl) rfl rfl (fun _ => rfl) rfl (fun _ => rfl))) ?_
                                refine qm_q (i := 5) (l := [.k 11]) rfl rfl rfl rfl (by kernel_rfl) rfl (fun He => PV.rq (pv_fa fa_63_1 (.n rfl) rfl rfl (fun _ => rfl))) ?_
                                refine qm_q (i := 6) (l := [.o 5]) rfl rfl rfl rfl (by kernel_rfl) rfl (fun He => RV.rq (q_ldc tc_3 (.n rfl) rfl rfl (fun _ => rfl) (by rfl))) ?_
                                refine qm_q (i := 7) (l := [.o 4, .o 6]) rfl rfl rfl rfl (by kernel_rfl) rfl (fun He => PV.rq (pv_eql (.n rfl) rfl rfl rfl (fun _ => ⟨rfl, rfl⟩))) ?_
                                refine qm_q (i := 8) (l := [.o 7]) rfl rfl rfl rfl (by kernel_rfl) rfl (fun He => PV.rq (pv_mv (.n rfl) rfl rfl (fun _ => rfl))) ?_
                                refine qm_q (i := 9) (l := [.k 12, .o 8]) rfl rfl rfl rfl (by kernel_rfl) rfl (fun He => PV.rq (pv_mv (.s rfl rfl rfl) rfl rfl (by first | exact fun _ => rfl | exact id | exact fun h => (Bool.and_eq_true_iff.1 h).1 | simp_all))) ?_
                                refine qm_q (i := 10) (l := [.k 15, .o 8]) rfl rfl rfl rfl (by kernel_rfl) rfl (fun He => PV.rq (pv_mv (.s rfl rfl rfl) rfl rfl (by first | exact fun _ => rfl | exact id | exact fun h => (Bool.and_eq_true_iff.1 h).1 | simp_all))) ?_
                                refine qm_q (i := 11) (l := [.o 9, .o 10, .o 8]) rfl rfl rfl rfl (by kernel_rfl) rfl (fun He => PV.rq (pv_idx Try.underlying55 (.ofA ta_67) hr1 (fun hg => ⟨rfl, (mapget hh)⟩) (.s rfl rfl rfl) rfl rfl rfl (by refine fun h => ⟨?_, ?_⟩ <;> first | rfl | exact h | exact (Bool.and_eq_true_iff.1 h).1 | simp_all))) ?_
                                refine qm_q (i := 12) (l := [.o 11, .o 8]) rfl rfl rfl rfl (by kernel_rfl) rfl (fun He => PV.rq (pv_faat fa_67_1 (fun hg => Rd.sh hr1 (mapget hh)) (.s rfl rfl rfl) rfl rfl (by first | exact fun _ => rfl | exact id | exact fun h => (Bool.and_eq_true_iff.1 h).1 | simp_all))) ?_
                                refine qm_q (i := 13) (l := [.o 12, .o 8]) rfl rfl rfl rfl (by kernel_rfl) rfl (fun He => RV.rq (rv_ldat (j := 1) tc_3 (Rd.ent hr1 (by repeat (first | exact Ent.rfl | exact Ent.one Ent.h | exact Ent.one (SelS.ent) | exact Ent.nil | exact Ent.left | refine Ent.dropR ?_ | refine Ent.tr Ent.skip ?_))) (fun hg => (mapget hh)) (.s rfl rfl rfl) rfl rfl (by first | exact fun _ => rfl | exact id | exact fun h => (Bool.and_eq_true_iff.1 h).1 | simp_all) rfl (fun _ => rfl))) ?_
                                refine qm_q (i := 14) (l := [.o 13, .o 8]) rfl rfl rfl rfl (by kernel_rfl) rfl (fun He => rq_call cf_34 (.s rfl rfl rfl) rfl (.c rfl (by first | exact fun _ => rfl | exact id | exact fun h => (Bool.and_eq_true_iff.1 h).1 | simp_all) .n) (fun hg => ref_ShopOf _ _ _)) ?_
                                refine qm_q (i := 15) (l := [.k 0, .o 8]) rfl rfl rfl rfl (by kernel_rfl) rfl (fun He => PV.rq (pv_mv (.s rfl rfl rfl) rfl rfl (by first | exact fun _ => rfl | exact id | exact fun h => (Bool.and_eq_true_iff.1 h).1 | simp_all))) ?_
                                refine qm_q (i := 16) (l := [.o 14, .o 15, .o 8]) rfl rfl rfl rfl (by kernel_rfl) rfl (fun He => PV.rq (pv_eql (.s rfl rfl rfl) rfl rfl rfl (by refine fun h => ⟨?_, ?_⟩ <;> first | rfl | exact h | exact (Bool.and_eq_true_iff.1 h).1 | simp_all))) ?_
                                refine qm_q (i := 17) (l := [.o 8, .o 16]) rfl rfl rfl rfl (by kernel_rfl) rfl (fun He => PV.rq (pv_and (.n rfl) rfl rfl rfl (fun _ => ⟨rfl, fun hc => by first | rfl | (rw [hc]; rfl) | simp_all⟩))) ?_
                                refine qm_n (by kernel_rfl) (by kernel_rfl) (by kernel_rfl) (by kernel_rfl) (.c 0 rfl (.c 2 rfl (.c 6 rfl (.c 7 rfl (.c 8 rfl (.c 10 rfl (.c 11 rfl (.c 12 rfl (.c 15 rfl (.c 119 rfl .n)))))))))) ?_
                                refine r_cond _ rfl (fun h12 => ?_) (fun h12 => ?_)
                                · skip
                                  have hde : hh0.deal = x.deal := by simp at h12; exact h12.1
                                  rcases hhk.2.2.2.1 with hc | hc
                                  · skip
                                    have hsa := hsm0
                                    rw [if_pos ⟨hc, hde⟩] at hsa
                                    have hsb := hsm1
                                    rw [if_neg (fun q => by have := q.1; omega)] at hsb
                                    refine r_plan _ [] mo (.c 0 rfl (.c 2 rfl (.c 6 rfl (.c 7 rfl (.c 8 rfl (.c 10 rfl (.c 11 rfl (.c 12 rfl (.c 15 rfl .n))))))))) Ent.rfl ?_
                                    refine qm_q (i := 0) (l := [.k 12]) rfl rfl rfl rfl (by kernel_rfl) rfl (fun He => PV.rq (pv_mv (.n rfl) rfl rfl (fun _ => rfl))) ?_
                                    refine qm_q (i := 1) (l := [.k 15]) rfl rfl rfl rfl (by kernel_rfl) rfl (fun He => PV.rq (pv_mv (.n rfl) rfl rfl (fun _ => rfl))) ?_
                                    refine qm_q (i := 2) (l := [.o 0, .o 1]) rfl rfl rfl rfl (by kernel_rfl) rfl (fun He => PV.rq (pv_idx Try.underlying55 (.ofA ta_67) hr1 (fun hg => ⟨rfl, (mapget hh)⟩) (.n rfl) rfl rfl rfl (fun _ => ⟨rfl, rfl⟩))) ?_
                                    refine qm_q (i := 3) (l := [.o 2]) rfl rfl rfl rfl (by kernel_rfl) rfl (fun He => PV.rq (pv_faat fa_67_1 (fun hg => Rd.sh hr1 (mapget hh)) (.n rfl) rfl rfl (fun _ => rfl))) ?_
                                    refine qm_q (i := 4) (l := [.o 3]) rfl rfl rfl rfl (by kernel_rfl) rfl (fun He => RV.rq (rv_ldat (j := 1) tc_3 (Rd.ent hr1 (by repeat (first | exact Ent.rfl | exact Ent.one Ent.h | exact Ent.one (SelS.ent) | exact Ent.nil | exact Ent.left | refine Ent.dropR ?_ | refine Ent.tr Ent.skip ?_))) (fun hg => (mapget hh)) (.n rfl) rfl rfl (fun _ => rfl) rfl (fun _ => rfl))) ?_
                                    refine qm_q (i := 5) (l := [.k 0]) rfl rfl rfl rfl (by kernel_rfl) rfl (fun He => PV.rq (pv_mv (.n rfl) rfl rfl (fun _ => rfl))) ?_
                                    refine qm_q (i := 6) (l := [.o 5]) rfl rfl rfl rfl (by kernel_rfl) rfl (fun He => PV.rq (pv_mul (fun _ => by omega) (.n rfl) rfl rfl rfl (fun _ => ⟨rfl, rfl⟩))) ?_
                                    refine qm_q (i := 7) (l := [.o 4, .o 6]) rfl rfl rfl rfl (by kernel_rfl) rfl (fun He => PV.rq (pv_sub (fun _ => by omega) (.n rfl) rfl rfl rfl (fun _ => ⟨rfl, rfl⟩))) ?_
                                    refine qm_q (i := 8) (l := [.k 8, .o 7]) rfl rfl rfl rfl (by kernel_rfl) rfl (fun He => PV.rq (pv_aidx (i := 0) Try.underlying57 (.ofC tc_3) (fun hg => ⟨by omega, by omega⟩) (.n rfl) rfl rfl rfl (fun _ => ⟨rfl, rfl⟩))) ?_
                                    refine qm_q (i := 9) (l := [.o 8]) rfl rfl rfl rfl (by kernel_rfl) rfl (fun He => RV.rq (q_ldc tc_3 (.n rfl) rfl rfl (fun _ => rfl) (by rfl))) ?_
                                    refine qm_q (i := 10) (l := [.k 12]) rfl rfl rfl rfl (by kernel_rfl) rfl (fun He => PV.rq (pv_mv (.n rfl) rfl rfl (fun _ => rfl))) ?_
                                    refine qm_q (i := 11) (l := [.k 15]) rfl rfl rfl rfl (by kernel_rfl) rfl (fun He => PV.rq (pv_mv (.n rfl) rfl rfl (fun _ => rfl))) ?_
                                    refine qm_q (i := 12) (l := [.o 10, .o 11]) rfl rfl rfl rfl (by kernel_rfl) rfl (fun He => PV.rq (pv_idx Try.underlying55 (.ofA ta_67) hr1 (fun hg => ⟨rfl, (mapget hh)⟩) (.n rfl) rfl rfl rfl (fun _ => ⟨rfl, rfl⟩))) ?_
                                    refine qm_q (i := 13) (l := [.o 12]) rfl rfl rfl rfl (by kernel_rfl) rfl (fun He => PV.rq (pv_faat fa_67_2 (fun hg => Rd.sh hr1 (mapget hh)) (.n rfl) rfl rfl (fun _ => rfl))) ?_
                                    refine qm_q (i := 14) (l := [.o 13]) rfl rfl rfl rfl (by kernel_rfl) rfl (fun He => RV.rq (rv_ldat (j := 2) tc_3 (Rd.ent hr1 (by repeat (first | exact Ent.rfl | exact Ent.one Ent.h | exact Ent.one (SelS.ent) | exact Ent.nil | exact Ent.left | refine Ent.dropR ?_ | refine Ent.tr Ent.skip ?_))) (fun hg => (mapget hh)) (.n rfl) rfl rfl (fun _ => rfl) rfl (fun _ => rfl))) ?_
                                    refine qm_q (i := 15) (l := [.o 9, .o 14]) rfl rfl rfl rfl (by kernel_rfl) rfl (fun He => PV.rq (pv_add (fun _ => by omega) (.n rfl) rfl rfl rfl (fun _ => ⟨rfl, rfl⟩))) ?_
                                    refine qm_q (i := 16) (l := [.k 8, .o 7]) rfl rfl rfl rfl (by kernel_rfl) rfl (fun He => PV.rq (pv_aidx (i := 0) Try.underlying57 (.ofC tc_3) (fun hg => ⟨by omega, by omega⟩) (.n rfl) rfl rfl rfl (fun _ => ⟨rfl, rfl⟩))) ?_
                                    refine qb_store (.ofC tc_3) (i := 17) [.o 16, .o 15] (by kernel_rfl) (by kernel_rfl) rfl rfl rfl (by kernel_rfl) (by kernel_rfl) (by kernel_rfl) ⟨_, .n rfl, rfl⟩ rfl rfl rfl rfl rfl rfl (by repeat constructor) ?_
                                    refine qm_n (by kernel_rfl) (by kernel_rfl) (by kernel_rfl) (by kernel_rfl) (.c 0 rfl (.c 2 rfl (.c 6 rfl (.c 7 rfl (.c 8 rfl (.c 10 rfl (.c 11 rfl (.c 12 rfl (.c 15 rfl .n))))))))) ?_
                                    refine r_end ?_
                                    refine r_region ?_
                                    refine p_mv rfl rfl ?_
                                    refine p_add rfl rfl (by omega) rfl ?_
                                    refine p_as rfl rfl ?_
                                    refine o_keep (.c 0 rfl (.c 2 rfl (.c 6 rfl (.c 7 rfl (.c 8 rfl (.c 10 rfl (.c 11 rfl (.c 12 rfl (.c 15 rfl .n))))))))) ?_
                                    refine r_back_1 (j + 1) ?_ ?_ (Keep.app (.c 15 rfl .n) (.c 0 rfl (.c 2 rfl (.c 6 rfl (.c 7 rfl (.c 8 rfl (.c 10 rfl (.c 11 rfl (.c 12 rfl .n))))))))) ?_
                                    · omega
                                    · omega
                                    · rw [hsa, hsb]; simp only [Int.add_zero, ← Int.add_assoc]; first | exact Ent.rfl | (repeat (first | exact Ent.rfl | refine Ent.c (SelB.ent) ?_ | refine Ent.c (SelS.ent) ?_ | refine Ent.cN ?_ | refine Ent.c (SelX.ent) ?_ | refine Ent.dropR ?_))
                                  · skip
                                    have hsa := hsm0
                                    rw [if_neg (fun q => by have := q.1; omega)] at hsa
                                    have hsb := hsm1
                                    rw [if_pos ⟨hc, hde⟩] at hsb
                                    refine r_plan _ [] mo (.c 0 rfl (.c 2 rfl (.c 6 rfl (.c 7 rfl (.c 8 rfl (.c 10 rfl (.c 11 rfl (.c 12 rfl (.c 15 rfl .n))))))))) Ent.rfl ?_
                                    refine qm_q (i := 0) (l := [.k 12]) rfl rfl rfl rfl (by kernel_rfl) rfl (fun He => PV.rq (pv_mv (.n rfl) rfl rfl (fun _ => rfl))) ?_
                                    refine qm_q (i := 1) (l := [.k 15]) rfl rfl rfl rfl (by kernel_rfl) rfl (fun He => PV.rq (pv_mv (.n rfl) rfl rfl (fun _ => rfl))) ?_
                                    refine qm_q (i := 2) (l := [.o 0, .o 1]) rfl rfl rfl rfl (by kernel_rfl) rfl (fun He => PV.rq (pv_idx Try.underlying55 (.ofA ta_67) hr1 (fun hg => ⟨rfl, (mapget hh)⟩) (.n rfl) rfl rfl rfl (fun _ => ⟨rfl, rfl⟩))) ?_
                                    refine qm_q (i := 3) (l := [.o 2]) rfl rfl rfl rfl (by kernel_rfl) rfl (fun He => PV.rq (pv_faat fa_67_1 (fun hg => Rd.sh hr1 (mapget hh)) (.n rfl) rfl rfl (fun _ => rfl))) ?_
                                    refine qm_q (i := 4) (l := [.o 3]) rfl rfl rfl rfl (by kernel_rfl) rfl (fun He => RV.rq (rv_ldat (j := 1) tc_3 (Rd.ent hr1 (by repeat (first | exact Ent.rfl | exact Ent.one Ent.h | exact Ent.one (SelS.ent) | exact Ent.nil | exact Ent.left | refine Ent.dropR ?_ | refine Ent.tr Ent.skip ?_))) (fun hg => (mapget hh)) (.n rfl) rfl rfl (fun _ => rfl) rfl (fun _ => rfl))) ?_
                                    refine qm_q (i := 5) (l := [.k 0]) rfl rfl rfl rfl (by kernel_rfl) rfl (fun He => PV.rq (pv_mv (.n rfl) rfl rfl (fun _ => rfl))) ?_
                                    refine qm_q (i := 6) (l := [.o 5]) rfl rfl rfl rfl (by kernel_rfl) rfl (fun He => PV.rq (pv_mul (fun _ => by omega) (.n rfl) rfl rfl rfl (fun _ => ⟨rfl, rfl⟩))) ?_
                                    refine qm_q (i := 7) (l := [.o 4, .o 6]) rfl rfl rfl rfl (by kernel_rfl) rfl (fun He => PV.rq (pv_sub (fun _ => by omega) (.n rfl) rfl rfl rfl (fun _ => ⟨rfl, rfl⟩))) ?_
                                    refine qm_q (i := 8) (l := [.k 8, .o 7]) rfl rfl rfl rfl (by kernel_rfl) rfl (fun He => PV.rq (pv_aidx (i := 1) Try.underlying57 (.ofC tc_3) (fun hg => ⟨by omega, by omega⟩) (.n rfl) rfl rfl rfl (fun _ => ⟨rfl, rfl⟩))) ?_
                                    refine qm_q (i := 9) (l := [.o 8]) rfl rfl rfl rfl (by kernel_rfl) rfl (fun He => RV.rq (q_ldc tc_3 (.n rfl) rfl rfl (fun _ => rfl) (by rfl))) ?_
                                    refine qm_q (i := 10) (l := [.k 12]) rfl rfl rfl rfl (by kernel_rfl) rfl (fun He => PV.rq (pv_mv (.n rfl) rfl rfl (fun _ => rfl))) ?_
                                    refine qm_q (i := 11) (l := [.k 15]) rfl rfl rfl rfl (by kernel_rfl) rfl (fun He => PV.rq (pv_mv (.n rfl) rfl rfl (fun _ => rfl))) ?_
                                    refine qm_q (i := 12) (l := [.o 10, .o 11]) rfl rfl rfl rfl (by kernel_rfl) rfl (fun He => PV.rq (pv_idx Try.underlying55 (.ofA ta_67) hr1 (fun hg => ⟨rfl, (mapget hh)⟩) (.n rfl) rfl rfl rfl (fun _ => ⟨rfl, rfl⟩))) ?_
                                    refine qm_q (i := 13) (l := [.o 12]) rfl rfl rfl rfl (by kernel_rfl) rfl (fun He => PV.rq (pv_faat fa_67_2 (fun hg => Rd.sh hr1 (mapget hh)) (.n rfl) rfl rfl (fun _ => rfl))) ?_
                                    refine qm_q (i := 14) (l := [.o 13]) rfl rfl rfl rfl (by kernel_rfl) rfl (fun He => RV.rq (rv_ldat (j := 2) tc_3 (Rd.ent hr1 (by repeat (first | exact Ent.rfl | exact Ent.one Ent.h | exact Ent.one (SelS.ent) | exact Ent.nil | exact Ent.left | refine Ent.dropR ?_ | refine Ent.tr Ent.skip ?_))) (fun hg => (mapget hh)) (.n rfl) rfl rfl (fun _ => rfl) rfl (fun _ => rfl))) ?_
                                    refine qm_q (i := 15) (l := [.o 9, .o 14]) rfl rfl rfl rfl (by kernel_rfl) rfl (fun He => PV.rq (pv_add (fun _ => by omega) (.n rfl) rfl rfl rfl (fun _ => ⟨rfl, rfl⟩))) ?_
                                    refine qm_q (i := 16) (l := [.k 8, .o 7]) rfl rfl rfl rfl (by kernel_rfl) rfl (fun He => PV.rq (pv_aidx (i := 1) Try.underlying57 (.ofC tc_3) (fun hg => ⟨by omega, by omega⟩) (.n rfl) rfl rfl rfl (fun _ => ⟨rfl, rfl⟩))) ?_
                                    refine qb_store (.ofC tc_3) (i := 17) [.o 16, .o 15] (by kernel_rfl) (by kernel_rfl) rfl rfl rfl (by kernel_rfl) (by kernel_rfl) (by kernel_rfl) ⟨_, .n rfl, rfl⟩ rfl rfl rfl rfl rfl rfl (by repeat constructor) ?_
                                    refine qm_n (by kernel_rfl) (by kernel_rfl) (by kernel_rfl) (by kernel_rfl) (.c 0 rfl (.c 2 rfl (.c 6 rfl (.c 7 rfl (.c 8 rfl (.c 10 rfl (.c 11 rfl (.c 12 rfl (.c 15 rfl .n))))))))) ?_
                                    refine r_end ?_
                                    refine r_region ?_
                                    refine p_mv rfl rfl ?_
                                    refine p_add rfl rfl (by omega) rfl ?_
                                    refine p_as rfl rfl ?_
                                    refine o_keep (.c 0 rfl (.c 2 rfl (.c 6 rfl (.c 7 rfl (.c 8 rfl (.c 10 rfl (.c 11 rfl (.c 12 rfl (.c 15 rfl .n))))))))) ?_
                                    refine r_back_1 (j + 1) ?_ ?_ (Keep.app (.c 15 rfl .n) (.c 0 rfl (.c 2 rfl (.c 6 rfl (.c 7 rfl (.c 8 rfl (.c 10 rfl (.c 11 rfl (.c 12 rfl .n))))))))) ?_
                                    · omega
                                    · omega
                                    · rw [hsa, hsb]; simp only [Int.add_zero, ← Int.add_assoc]; first | exact Ent.rfl | (repeat (first | exact Ent.rfl | refine Ent.c (SelB.ent) ?_ | refine Ent.c (SelS.ent) ?_ | refine Ent.cN ?_ | refine Ent.c (SelX.ent) ?_ | refine Ent.dropR ?_))
                                · skip
                                  have hde : ¬ hh0.deal = x.deal := fun q => by simp [q, hso] at h12
                                  rw [if_neg (fun q => hde q.2)] at hsm0 hsm1
                                  refine r_skip ?_
                                  refine r_end ?_
                                  refine r_region ?_
                                  refine p_mv rfl rfl ?_
                                  refine p_add rfl rfl (by omega) rfl ?_
                                  refine p_as rfl rfl ?_
                                  refine o_keep (.c 0 rfl (.c 2 rfl (.c 6 rfl (.c 7 rfl (.c 8 rfl (.c 10 rfl (.c 11 rfl (.c 12 rfl (.c 15 rfl .n))))))))) ?_
                                  refine r_back_1 (j + 1) ?_ ?_ (Keep.app (.c 15 rfl .n) (.c 0 rfl (.c 2 rfl (.c 6 rfl (.c 7 rfl (.c 8 rfl (.c 10 rfl (.c 11 rfl (.c 12 rfl .n))))))))) ?_
                                  · omega
                                  · omega
                                  · rw [hsm0, hsm1]; simp only [Int.add_zero]; first | exact Ent.rfl | (repeat (first | exact Ent.rfl | refine Ent.c (SelB.ent) ?_ | refine Ent.c (SelS.ent) ?_ | refine Ent.cN ?_ | refine Ent.c (SelX.ent) ?_ | refine Ent.dropR ?_))
                              · skip
                                have hj : s.holds.length ≤ j := by have := of_decide_eq_false h11; omega
                                rw [List.take_of_length_le hj]
                                refine r_exit rfl ?_
                                refine r_end ?_
                                refine r_join_1 ((endS s x.deal x.done).1) ?_ (Keep.app (.n) (.c 0 rfl (.c 2 rfl (.c 6 rfl (.c 7 rfl (.c 8 rfl (.c 10 rfl .n))))))) ?_
                                · rw [hse]
                                · rw [hvy.1, hvy.2]; first | exact Ent.rfl | (repeat (first | exact Ent.rfl | refine Ent.c (SelB.ent) ?_ | refine Ent.c (SelS.ent) ?_ | refine Ent.cN ?_ | refine Ent.c (SelX.ent) ?_ | refine Ent.dropR ?_))
                          · skip
                            have hvn := hv.2.2 (fun q => by obtain ⟨_, q1, q2, q3⟩ := q; rw [show decide ((endS s x.deal x.done).2 = 0) = true from decide_eq_true q1, q2, q3] at h10; cases h10)
                            refine r_skip ?_
                            refine r_end ?_
                            refine r_join_1 ((endS s x.deal x.done).1) ?_ (Keep.app (.n) (.c 0 rfl (.c 2 rfl (.c 6 rfl (.c 7 rfl (.c 8 rfl (.c 10 rfl .n))))))) ?_
                            · rw [hse]
                            · rw [hvn.1, hvn.2]; first | exact Ent.rfl | (repeat (first | exact Ent.rfl | refine Ent.c (SelB.ent) ?_ | refine Ent.c (SelS.ent) ?_ | refine Ent.cN ?_ | refine Ent.c (SelX.ent) ?_ | refine Ent.dropR ?_))
                        · skip
                          have hx1 : ¬ x.d = 1 := of_decide_eq_false h9
                          have hse : stepSh s x = (s, 0) := by unfold stepSh; rw [if_neg hx0, if_neg hx1]
                          refine r_skip ?_
                          refine r_end ?_
                          refine r_join_1 (s) ?_ (Keep.app (.n) (.c 0 rfl (.c 2 rfl (.c 6 rfl (.c 7 rfl (.c 8 rfl (.c 10 rfl .n))))))) ?_
                          · rw [hse]
                          · first | exact Ent.rfl | (repeat (first | exact Ent.rfl | refine Ent.c (SelB.ent) ?_ | refine Ent.c (SelS.ent) ?_ | refine Ent.cN ?_ | refine Ent.c (SelX.ent) ?_ | refine Ent.dropR ?_))
                    have hS2 := hS.stp x
                    rw [← hI] at hS2 hv
                    have hno2 := hv.1
                    have h2a := hS2.holds_le
                    have h2b := hS2.over_le
                    have hchk0 := hS2.k0
                    have hchk1 := hS2.k1
                    refine r_seq ?_
                    refine r_region ?_
                    refine p_mv rfl rfl ?_
                    refine p_callv cf_27 (.c rfl .n) rfl ((shop_Counts _ _ s2).q) ?_
                    refine p_mv rfl rfl ?_
                    refine p_calle cf_30 (.c rfl .n) rfl (shop_Holds _ _ s2 (by omega) (by omega)) fun hv2 => ?_
                    refine o_cat ?_
                    refine o_rd hv2 fun hr2 => ?_
                    refine p_alloc zr_52 rfl fun b16 => ?_
                    refine p_store (.ofA ta_52) rfl rfl rfl (by first | rfl | exact rfl) (by first | rfl | exact (by first | rfl | simp [vI, Value.oneCell'])) (Ins.whole (by first | rfl | (simp only [List.length_map, List.length_cons, List.length_nil]; omega) | (simp [*]; done) | (simp [*]; rfl))) ?_
                    refine p_as rfl rfl ?_
                    refine o_keep (.c 0 rfl (.c 2 rfl (.c 6 rfl (.c 7 rfl (.c 8 rfl (.c 10 rfl (.c 16 rfl (.c 17 rfl .n)))))))) ?_
                    refine r_seq ?_
                    refine r_region ?_
                    refine p_as rfl rfl ?_
                    refine o_keep (.c 0 rfl (.c 2 rfl (.c 6 rfl (.c 7 rfl (.c 8 rfl (.c 10 rfl (.c 16 rfl (.c 17 rfl (.c 18 rfl .n))))))))) ?_
                    refine r_block ?_
                    refine r_loop_1 (fun (k : Nat) => [(18, true, .int .i64 (k : Int))]) (.c 0 rfl (.c 2 rfl (.c 6 rfl (.c 7 rfl (.c 8 rfl (.c 10 rfl (.c 16 rfl (.c 17 rfl .n)))))))) (fun (k : Nat) => blk b16 (cntL s2.c0 ++ cntL s2.c1) 52 :: sl hv2 67 3 (s2.holds.map rH) :: blk b8 [.int .i64 s2.c0.v, .int .i64 s2.c1.v] 57 :: shopP b7 s2 :: blk b11 (rSS x) 63 :: blk b4 (ws.map vI) 42 :: H) (fun (k : Nat) => k ≤ 2) (fun (k : Nat) => 2 - k) (0) ?_ (.c 18 rfl .n) ?_ (fun k hI => ?_)
                    · omega
                    · first | exact Ent.rfl | (repeat (first | exact Ent.rfl | refine Ent.c (SelB.ent) ?_ | refine Ent.c (SelS.ent) ?_ | refine Ent.cN ?_ | refine Ent.c (SelX.ent) ?_ | refine Ent.dropR ?_))
                    · skip
                      refine r_seq ?_
                      refine r_seq ?_
                      refine r_region ?_
                      refine p_mv rfl rfl ?_
                      refine p_lss rfl rfl rfl ?_
                      refine o_keep (.c 0 rfl (.c 2 rfl (.c 6 rfl (.c 7 rfl (.c 8 rfl (.c 10 rfl (.c 16 rfl (.c 17 rfl (.c 18 rfl (.c 142 rfl .n)))))))))) ?_
                      refine r_cond _ rfl (fun h13 => ?_) (fun h13 => ?_)
                      · skip
                        have hk2 : k < 2 := by have := of_decide_eq_true h13; omega
                        refine r_skip ?_
                        refine r_seq ?_
                        refine r_block ?_
                        refine r_seq ?_
                        refine r_region ?_
                        refine p_as rfl rfl ?_
                        refine p_as rfl rfl ?_
                        refine o_keep (.c 0 rfl (.c 2 rfl (.c 6 rfl (.c 7 rfl (.c 8 rfl (.c 10 rfl (.c 16 rfl (.c 17 rfl (.c 18 rfl (.c 19 rfl (.c 20 rfl .n))))))))))) ?_
                        refine r_seq ?_
                        refine r_seq ?_
                        refine r_region ?_
                        refine p_as rfl rfl ?_
                        refine o_keep (.c 0 rfl (.c 2 rfl (.c 6 rfl (.c 7 rfl (.c 8 rfl (.c 10 rfl (.c 16 rfl (.c 17 rfl (.c 18 rfl (.c 19 rfl (.c 20 rfl (.c 21 rfl .n)))))))))))) ?_
                        refine r_block ?_
                        refine r_loop_3 (fun (j : Nat) (o n : Int) => [(21, true, .int .i64 (j : Int)), (19, true, .int .i64 o), (20, true, .int .i64 n)]) (.c 0 rfl (.c 2 rfl (.c 6 rfl (.c 7 rfl (.c 8 rfl (.c 10 rfl (.c 16 rfl (.c 17 rfl (.c 18 rfl .n))))))))) (fun (j : Nat) (o n : Int) => blk b16 (cntL s2.c0 ++ cntL s2.c1) 52 :: sl hv2 67 3 (s2.holds.map rH) :: blk b8 [.int .i64 s2.c0.v, .int .i64 s2.c1.v] 57 :: shopP b7 s2 :: blk b11 (rSS x) 63 :: blk b4 (ws.map vI) 42 :: H) (fun (j : Nat) (o n : Int) => j ≤ s2.holds.length ∧ o = outH (2 * s2.no + k) (s2.holds.take j) ∧ n = inH (2 * s2.no + k) (s2.holds.take j)) (fun (j : Nat) (o n : Int) => s2.holds.length - j) (0) (0) (0) ?_ (.c 21 rfl (.c 19 rfl (.c 20 rfl .n))) ?_ (fun j o n hI => ?_)
                        · exact ⟨Nat.zero_le _, rfl, rfl⟩
                        · first | exact Ent.rfl | (repeat (first | exact Ent.rfl | refine Ent.c (SelB.ent) ?_ | refine Ent.c (SelS.ent) ?_ | refine Ent.cN ?_ | refine Ent.c (SelX.ent) ?_ | refine Ent.dropR ?_))
                        · skip
                          obtain ⟨hjl, rfl, rfl⟩ := hI
                          refine r_seq ?_
                          refine r_seq ?_
                          refine r_region ?_
                          refine p_mv rfl rfl ?_
                          refine p_mv rfl rfl ?_
                          refine l_op (x_p (pv_lens (Rd.len hr2) ⟨_, Try.underlying55⟩ (.n rfl) rfl rfl rfl rfl (fun _ => rfl)) rfl rfl ?_)
                          refine p_lss rfl rfl rfl ?_
                          refine o_keep (.c 0 rfl (.c 2 rfl (.c 6 rfl (.c 7 rfl (.c 8 rfl (.c 10 rfl (.c 16 rfl (.c 17 rfl (.c 18 rfl (.c 19 rfl (.c 20 rfl (.c 21 rfl (.c 148 rfl .n))))))))))))) ?_
                          refine r_cond _ rfl (fun h14 => ?_) (fun h14 => ?_)
                          · skip
                            have hj : j < s2.holds.length := by have := of_decide_eq_true h14; omega
                            obtain ⟨hh0, hh⟩ := getlt hj
                            obtain ⟨hta, htb⟩ := outH_take hh (2 * s2.no + k)
                            have hdl0 := hS2.dl hh0 (List.mem_of_getElem? hh)
                            have hbo := outH_le (l := s2.holds.take j) (fun y hy => hS2.dl y (List.mem_of_mem_take hy)) (2 * s2.no + k)
                            have hbn := outH_nn (2 * s2.no + k) (s2.holds.take j)
                            have hbm := inH_nn (2 * s2.no + k) (s2.holds.take j)
                            have htl := take_len (l := s2.holds) (i := j) (by omega)
                            refine r_skip ?_
                            refine r_seq ?_
                            refine r_block ?_
                            refine r_seq ?_
                            refine r_seq ?_
                            refine r_region ?_
                            refine p_mv rfl rfl ?_
                            refine p_mv rfl rfl ?_
                            refine p_idx Try.underlying55 (.ofA ta_67) hr2 rfl (mapget hh) rfl rfl rfl ?_
                            refine p_faat fa_67_1 (Rd.sh hr2 (mapget hh)) rfl rfl ?_
                            refine p_ldat 1 tc_3 (Rd.ent hr2 (by repeat (first | exact Ent.rfl | exact Ent.one Ent.h | exact Ent.one (SelS.ent) | exact Ent.nil | exact Ent.left | refine Ent.dropR ?_ | refine Ent.tr Ent.skip ?_))) (mapget hh) rfl rfl rfl rfl ?_
                            refine p_mv rfl rfl ?_
                            refine p_mul rfl rfl (by omega) rfl ?_
                            refine p_mv rfl rfl ?_
                            refine p_add rfl rfl (by omega) rfl ?_
                            refine p_neq rfl rfl rfl ?_
                            refine o_keep (.c 0 rfl (.c 2 rfl (.c 6 rfl (.c 7 rfl (.c 8 rfl (.c 10 rfl (.c 16 rfl (.c 17 rfl (.c 18 rfl (.c 19 rfl (.c 20 rfl (.c 21 rfl (.c 160 rfl .n))))))))))))) ?_
                            refine r_cond _ rfl (fun h15 => ?_) (fun h15 => ?_)
                            · skip
                              have hcn : ¬ hh0.ctr = 2 * s2.no + k := by simp at h15; omega
                              rw [if_neg (fun q => hcn q.1)] at hta htb
                              refine r_exit rfl ?_
                              refine r_region ?_
                              refine p_mv rfl rfl ?_
                              refine p_add rfl rfl (by omega) rfl ?_
                              refine p_as rfl rfl ?_
                              refine o_keep (.c 0 rfl (.c 2 rfl (.c 6 rfl (.c 7 rfl (.c 8 rfl (.c 10 rfl (.c 16 rfl (.c 17 rfl (.c 18 rfl (.c 19 rfl (.c 20 rfl (.c 21 rfl .n)))))))))))) ?_
                              refine r_back_3 (j + 1) (_) (_) ?_ ?_ (Keep.app (.c 21 rfl (.c 19 rfl (.c 20 rfl .n))) (.c 0 rfl (.c 2 rfl (.c 6 rfl (.c 7 rfl (.c 8 rfl (.c 10 rfl (.c 16 rfl (.c 17 rfl (.c 18 rfl .n)))))))))) ?_
                              · exact ⟨by omega, by omega, by omega⟩
                              · omega
                              · first | exact Ent.rfl | (repeat (first | exact Ent.rfl | refine Ent.c (SelB.ent) ?_ | refine Ent.c (SelS.ent) ?_ | refine Ent.cN ?_ | refine Ent.c (SelX.ent) ?_ | refine Ent.dropR ?_))
                            · skip
                              have hcy : hh0.ctr = 2 * s2.no + k := by simp at h15; omega
                              refine r_skip ?_
                              refine r_seq ?_
                              refine r_region ?_
                              refine p_mv rfl rfl ?_
                              refine p_mv rfl rfl ?_
                              refine p_idx Try.underlying55 (.ofA ta_67) hr2 rfl (mapget hh) rfl rfl rfl ?_
                              refine p_faat fa_67_2 (Rd.sh hr2 (mapget hh)) rfl rfl ?_
                              refine p_ldat 2 tc_3 (Rd.ent hr2 (by repeat (first | exact Ent.rfl | exact Ent.one Ent.h | exact Ent.one (SelS.ent) | exact Ent.nil | exact Ent.left | refine Ent.dropR ?_ | refine Ent.tr Ent.skip ?_))) (mapget hh) rfl rfl rfl rfl ?_
                              refine p_lss rfl rfl rfl ?_
                              refine o_keep (.c 0 rfl (.c 2 rfl (.c 6 rfl (.c 7 rfl (.c 8 rfl (.c 10 rfl (.c 16 rfl (.c 17 rfl (.c 18 rfl (.c 19 rfl (.c 20 rfl (.c 21 rfl (.c 166 rfl .n))))))))))))) ?_
                              refine r_cond _ rfl (fun h16 => ?_) (fun h16 => ?_)
                              · skip
                                have hng := of_decide_eq_true h16
                                rw [if_pos ⟨hcy, hng⟩] at hta
                                rw [if_neg (fun q => q.2 hng)] at htb
                                refine r_region ?_
                                refine p_mv rfl rfl ?_
                                refine p_mv rfl rfl ?_
                                refine p_mv rfl rfl ?_
                                refine p_idx Try.underlying55 (.ofA ta_67) hr2 rfl (mapget hh) rfl rfl rfl ?_
                                refine p_faat fa_67_2 (Rd.sh hr2 (mapget hh)) rfl rfl ?_
                                refine p_ldat 2 tc_3 (Rd.ent hr2 (by repeat (first | exact Ent.rfl | exact Ent.one Ent.h | exact Ent.one (SelS.ent) | exact Ent.nil | exact Ent.left | refine Ent.dropR ?_ | refine Ent.tr Ent.skip ?_))) (mapget hh) rfl rfl rfl rfl ?_
                                refine p_sub rfl rfl (by omega) rfl ?_
                                refine p_as rfl rfl ?_
                                refine o_keep (.c 0 rfl (.c 2 rfl (.c 6 rfl (.c 7 rfl (.c 8 rfl (.c 10 rfl (.c 16 rfl (.c 17 rfl (.c 18 rfl (.c 19 rfl (.c 20 rfl (.c 21 rfl .n)))))))))))) ?_
                                refine r_end ?_
                                refine r_region ?_
                                refine p_mv rfl rfl ?_
                                refine p_add rfl rfl (by omega) rfl ?_
                                refine p_as rfl rfl ?_
                                refine o_keep (.c 0 rfl (.c 2 rfl (.c 6 rfl (.c 7 rfl (.c 8 rfl (.c 10 rfl (.c 16 rfl (.c 17 rfl (.c 18 rfl (.c 19 rfl (.c 20 rfl (.c 21 rfl .n)))))))))))) ?_
                                refine r_back_3 (j + 1) (_) (_) ?_ ?_ (Keep.app (.c 21 rfl (.c 19 rfl (.c 20 rfl .n))) (.c 0 rfl (.c 2 rfl (.c 6 rfl (.c 7 rfl (.c 8 rfl (.c 10 rfl (.c 16 rfl (.c 17 rfl (.c 18 rfl .n)))))))))) ?_
                                · exact ⟨by omega, by omega, by omega⟩
                                · omega
                                · first | exact Ent.rfl | (repeat (first | exact Ent.rfl | refine Ent.c (SelB.ent) ?_ | refine Ent.c (SelS.ent) ?_ | refine Ent.cN ?_ | refine Ent.c (SelX.ent) ?_ | refine Ent.dropR ?_))
                              · skip
                                have hng := of_decide_eq_false h16
                                rw [if_neg (fun q => hng q.2)] at hta
                                rw [if_pos ⟨hcy, hng⟩] at htb
                                refine r_region ?_
                                refine p_mv rfl rfl ?_
                                refine p_mv rfl rfl ?_
                                refine p_mv rfl rfl ?_
                                refine p_idx Try.underlying55 (.ofA ta_67) hr2 rfl (mapget hh) rfl rfl rfl ?_
                                refine p_faat fa_67_2 (Rd.sh hr2 (mapget hh)) rfl rfl ?_
                                refine p_ldat 2 tc_3 (Rd.ent hr2 (by repeat (first | exact Ent.rfl | exact Ent.one Ent.h | exact Ent.one (SelS.ent) | exact Ent.nil | exact Ent.left | refine Ent.dropR ?_ | refine Ent.tr Ent.skip ?_))) (mapget hh) rfl rfl rfl rfl ?_
                                refine p_add rfl rfl (by omega) rfl ?_
                                refine p_as rfl rfl ?_
                                refine o_keep (.c 0 rfl (.c 2 rfl (.c 6 rfl (.c 7 rfl (.c 8 rfl (.c 10 rfl (.c 16 rfl (.c 17 rfl (.c 18 rfl (.c 19 rfl (.c 20 rfl (.c 21 rfl .n)))))))))))) ?_
                                refine r_end ?_
                                refine r_region ?_
                                refine p_mv rfl rfl ?_
                                refine p_add rfl rfl (by omega) rfl ?_
                                refine p_as rfl rfl ?_
                                refine o_keep (.c 0 rfl (.c 2 rfl (.c 6 rfl (.c 7 rfl (.c 8 rfl (.c 10 rfl (.c 16 rfl (.c 17 rfl (.c 18 rfl (.c 19 rfl (.c 20 rfl (.c 21 rfl .n)))))))))))) ?_
                                refine r_back_3 (j + 1) (_) (_) ?_ ?_ (Keep.app (.c 21 rfl (.c 19 rfl (.c 20 rfl .n))) (.c 0 rfl (.c 2 rfl (.c 6 rfl (.c 7 rfl (.c 8 rfl (.c 10 rfl (.c 16 rfl (.c 17 rfl (.c 18 rfl .n)))))))))) ?_
                                · exact ⟨by omega, by omega, by omega⟩
                                · omega
                                · first | exact Ent.rfl | (repeat (first | exact Ent.rfl | refine Ent.c (SelB.ent) ?_ | refine Ent.c (SelS.ent) ?_ | refine Ent.cN ?_ | refine Ent.c (SelX.ent) ?_ | refine Ent.dropR ?_))
                          · skip
                            have hj : s2.holds.length ≤ j := by have := of_decide_eq_false h14; omega
                            rw [List.take_of_length_le hj]
                            refine r_exit rfl ?_
                            refine r_seq ?_
                            rcases (by omega : k = 0 ∨ k = 1) with rfl | rfl
                            · skip
                              refine r_plan _ [] mo (.c 0 rfl (.c 2 rfl (.c 6 rfl (.c 7 rfl (.c 8 rfl (.c 10 rfl (.c 16 rfl (.c 17 rfl (.c 18 rfl (.c 19 rfl (.c 20 rfl .n))))))))))) Ent.rfl ?_
                              refine qm_q (i := 0) (l := [.k 18]) rfl rfl rfl rfl (by kernel_rfl) rfl (fun He => PV.rq (pv_mv (.n rfl) rfl rfl (fun _ => rfl))) ?_
                              refine qm_q (i := 1) (l := [.k 16, .o 0]) rfl rfl rfl rfl (by kernel_rfl) rfl (fun He => PV.rq (pv_aidx (i := 0) Try.underlying52 (.ofA ta_51) (fun hg => ⟨by omega, by omega⟩) (.n rfl) rfl rfl rfl (fun _ => ⟨rfl, rfl⟩))) ?_
                              refine qm_q (i := 2) (l := [.o 1]) rfl rfl rfl rfl (by kernel_rfl) rfl (fun He => RV.rq (q_lda ta_51 (.n rfl) rfl rfl (fun _ => rfl) (by exact (.s (.s (.s .z)))))) ?_
                              refine qm_q (i := 3) (l := [.k 18]) rfl rfl rfl rfl (by kernel_rfl) rfl (fun He => PV.rq (pv_mv (.n rfl) rfl rfl (fun _ => rfl))) ?_
                              refine qm_q (i := 4) (l := [.k 8, .o 3]) rfl rfl rfl rfl (by kernel_rfl) rfl (fun He => PV.rq (pv_aidx (i := 0) Try.underlying57 (.ofC tc_3) (fun hg => ⟨by omega, by omega⟩) (.n rfl) rfl rfl rfl (fun _ => ⟨rfl, rfl⟩))) ?_
                              refine qm_q (i := 5) (l := [.o 4]) rfl rfl rfl rfl (by kernel_rfl) rfl (fun He => RV.rq (q_ldc tc_3 (.n rfl) rfl rfl (fun _ => rfl) (by rfl))) ?_
                              refine qm_q (i := 6) (l := [.k 19]) rfl rfl rfl rfl (by kernel_rfl) rfl (fun He => PV.rq (pv_mv (.n rfl) rfl rfl (fun _ => rfl))) ?_
                              refine qm_q (i := 7) (l := [.k 20]) rfl rfl rfl rfl (by kernel_rfl) rfl (fun He => PV.rq (pv_mv (.n rfl) rfl rfl (fun _ => rfl))) ?_
                              refine qm_q (i := 8) (l := [.o 5, .o 6, .o 7]) rfl rfl rfl rfl (by kernel_rfl) rfl (fun He => PV.rq (pv_build zr_51 pl_51 (.n rfl) rfl (.c rfl (fun _ => rfl) rfl rfl rfl (by repeat constructor) (.c rfl (fun _ => rfl) rfl rfl rfl (by repeat constructor) (.c rfl (fun _ => rfl) rfl rfl rfl (by repeat constructor) .n))))) ?_
                              refine qm_q (i := 9) (l := [.o 2, .o 8]) rfl rfl rfl rfl (by kernel_rfl) rfl (fun He => PV.rq (pv_to (pv_ane (eq_Cnt (m := s2.c0) (n := ⟨s2.c0.v, outH (2 * s2.no + (0 : Nat)) s2.holds, inH (2 * s2.no + (0 : Nat)) s2.holds⟩)) (.n rfl) rfl rfl rfl (fun _ => ⟨rfl, rfl⟩)) (show _ = Value.bool false by rw [show (⟨s2.c0.v, outH (2 * s2.no + (0 : Nat)) s2.holds, inH (2 * s2.no + (0 : Nat)) s2.holds⟩ : Cnt) = s2.c0 by have a := hS2.o0; have b := hS2.i0; simp only [Int.natCast_zero, Int.add_zero]; rw [← a, ← b]]; simp))) ?_
                              refine qm_q (i := 10) (l := [.o 9]) rfl rfl rfl rfl (by kernel_rfl) rfl (fun He => PV.rq (pv_mv (.n rfl) rfl rfl (fun _ => rfl))) ?_
                              refine qm_q (i := 11) (l := [.k 18, .o 10]) rfl rfl rfl rfl (by kernel_rfl) rfl (fun He => PV.rq (pv_mv (.s rfl rfl rfl) rfl rfl (by first | exact fun _ => rfl | exact id | exact fun h => (Bool.and_eq_true_iff.1 h).1 | simp_all))) ?_
                              refine qm_q (i := 12) (l := [.k 16, .o 11, .o 10]) rfl rfl rfl rfl (by kernel_rfl) rfl (fun He => PV.rq (pv_aidx (i := 0) Try.underlying52 (.ofA ta_51) (fun hg => ⟨by omega, by omega⟩) (.s rfl rfl rfl) rfl rfl rfl (by refine fun h => ⟨?_, ?_⟩ <;> first | rfl | exact h | exact (Bool.and_eq_true_iff.1 h).1 | simp_all))) ?_
                              refine qm_q (i := 13) (l := [.o 12, .o 10]) rfl rfl rfl rfl (by kernel_rfl) rfl (fun He => RV.rq (q_lda ta_51 (.s rfl rfl rfl) rfl rfl (by first | exact fun _ => rfl | exact id | exact fun h => (Bool.and_eq_true_iff.1 h).1 | simp_all) (by exact (.s (.s (.s .z)))))) ?_
                              refine qm_q (i := 14) (l := [.o 13, .o 10]) rfl rfl rfl rfl (by kernel_rfl) rfl (fun He => rq_call cf_35 (.s rfl rfl rfl) rfl (.c rfl (by first | exact fun _ => rfl | exact id | exact fun h => (Bool.and_eq_true_iff.1 h).1 | simp_all) .n) (fun hg => count_Check _ _ _ _ _)) ?_
                              refine qm_q (i := 15) (l := [.o 14, .o 10]) rfl rfl rfl rfl (by kernel_rfl) rfl (fun He => PV.rq (pv_neq (.s rfl rfl rfl) rfl rfl rfl (by refine fun h => ⟨?_, ?_⟩ <;> first | rfl | exact h | exact (Bool.and_eq_true_iff.1 h).1 | simp_all))) ?_
                              refine qm_q (i := 16) (l := [.o 10, .o 15]) rfl rfl rfl rfl (by kernel_rfl) rfl (fun He => PV.rq (pv_or (.n rfl) rfl rfl rfl (fun _ => ⟨rfl, fun hc => by first | rfl | (rw [hc]; rfl) | simp_all⟩))) ?_
                              refine qm_n (by kernel_rfl) (by kernel_rfl) (by kernel_rfl) (by kernel_rfl) (.c 0 rfl (.c 2 rfl (.c 6 rfl (.c 7 rfl (.c 8 rfl (.c 10 rfl (.c 16 rfl (.c 17 rfl (.c 18 rfl (.c 197 rfl .n)))))))))) ?_
                              refine r_cond _ rfl (fun h17 => ?_) (fun h17 => ?_)
                              · exfalso; simp [hchk0] at h17
                              · skip
                                refine r_skip ?_
                                refine r_end ?_
                                refine r_region ?_
                                refine p_mv rfl rfl ?_
                                refine p_add rfl rfl (by omega) rfl ?_
                                refine p_as rfl rfl ?_
                                refine o_keep (.c 0 rfl (.c 2 rfl (.c 6 rfl (.c 7 rfl (.c 8 rfl (.c 10 rfl (.c 16 rfl (.c 17 rfl (.c 18 rfl .n))))))))) ?_
                                refine r_back_1 (1) ?_ ?_ (Keep.app (.c 18 rfl .n) (.c 0 rfl (.c 2 rfl (.c 6 rfl (.c 7 rfl (.c 8 rfl (.c 10 rfl (.c 16 rfl (.c 17 rfl .n))))))))) ?_
                                · omega
                                · omega
                                · first | exact Ent.rfl | (repeat (first | exact Ent.rfl | refine Ent.c (SelB.ent) ?_ | refine Ent.c (SelS.ent) ?_ | refine Ent.cN ?_ | refine Ent.c (SelX.ent) ?_ | refine Ent.dropR ?_))
                            · skip
                              refine r_plan _ [] mo (.c 0 rfl (.c 2 rfl (.c 6 rfl (.c 7 rfl (.c 8 rfl (.c 10 rfl (.c 16 rfl (.c 17 rfl (.c 18 rfl (.c 19 rfl (.c 20 rfl .n))))))))))) Ent.rfl ?_
                              refine qm_q (i := 0) (l := [.k 18]) rfl rfl rfl rfl (by kernel_rfl) rfl (fun He => PV.rq (pv_mv (.n rfl) rfl rfl (fun _ => rfl))) ?_
                              refine qm_q (i := 1) (l := [.k 16, .o 0]) rfl rfl rfl rfl (by kernel_rfl) rfl (fun He => PV.rq (pv_aidx (i := 1) Try.underlying52 (.ofA ta_51) (fun hg => ⟨by omega, by omega⟩) (.n rfl) rfl rfl rfl (fun _ => ⟨rfl, rfl⟩))) ?_
                              refine qm_q (i := 2) (l := [.o 1]) rfl rfl rfl rfl (by kernel_rfl) rfl (fun He => RV.rq (q_lda ta_51 (.n rfl) rfl rfl (fun _ => rfl) (by exact (.s (.s (.s .z)))))) ?_
                              refine qm_q (i := 3) (l := [.k 18]) rfl rfl rfl rfl (by kernel_rfl) rfl (fun He => PV.rq (pv_mv (.n rfl) rfl rfl (fun _ => rfl))) ?_
                              refine qm_q (i := 4) (l := [.k 8, .o 3]) rfl rfl rfl rfl (by kernel_rfl) rfl (fun He => PV.rq (pv_aidx (i := 1) Try.underlying57 (.ofC tc_3) (fun hg => ⟨by omega, by omega⟩) (.n rfl) rfl rfl rfl (fun _ => ⟨rfl, rfl⟩))) ?_
                              refine qm_q (i := 5) (l := [.o 4]) rfl rfl rfl rfl (by kernel_rfl) rfl (fun He => RV.rq (q_ldc tc_3 (.n rfl) rfl rfl (fun _ => rfl) (by rfl))) ?_
                              refine qm_q (i := 6) (l := [.k 19]) rfl rfl rfl rfl (by kernel_rfl) rfl (fun He => PV.rq (pv_mv (.n rfl) rfl rfl (fun _ => rfl))) ?_
                              refine qm_q (i := 7) (l := [.k 20]) rfl rfl rfl rfl (by kernel_rfl) rfl (fun He => PV.rq (pv_mv (.n rfl) rfl rfl (fun _ => rfl))) ?_
                              refine qm_q (i := 8) (l := [.o 5, .o 6, .o 7]) rfl rfl rfl rfl (by kernel_rfl) rfl (fun He => PV.rq (pv_build zr_51 pl_51 (.n rfl) rfl (.c rfl (fun _ => rfl) rfl rfl rfl (by repeat constructor) (.c rfl (fun _ => rfl) rfl rfl rfl (by repeat constructor) (.c rfl (fun _ => rfl) rfl rfl rfl (by repeat constructor) .n))))) ?_
                              refine qm_q (i := 9) (l := [.o 2, .o 8]) rfl rfl rfl rfl (by kernel_rfl) rfl (fun He => PV.rq (pv_to (pv_ane (eq_Cnt (m := s2.c1) (n := ⟨s2.c1.v, outH (2 * s2.no + (1 : Nat)) s2.holds, inH (2 * s2.no + (1 : Nat)) s2.holds⟩)) (.n rfl) rfl rfl rfl (fun _ => ⟨rfl, rfl⟩)) (show _ = Value.bool false by rw [show (⟨s2.c1.v, outH (2 * s2.no + (1 : Nat)) s2.holds, inH (2 * s2.no + (1 : Nat)) s2.holds⟩ : Cnt) = s2.c1 by have a := hS2.o1; have b := hS2.i1; rw [show (2 * s2.no + ((1 : Nat) : Int)) = 2 * s2.no + 1 from rfl, ← a, ← b]]; simp))) ?_
                              refine qm_q (i := 10) (l := [.o 9]) rfl rfl rfl rfl (by kernel_rfl) rfl (fun He => PV.rq (pv_mv (.n rfl) rfl rfl (fun _ => rfl))) ?_
                              refine qm_q (i := 11) (l := [.k 18, .o 10]) rfl rfl rfl rfl (by kernel_rfl) rfl (fun He => PV.rq (pv_mv (.s rfl rfl rfl) rfl rfl (by first | exact fun _ => rfl | exact id | exact fun h => (Bool.and_eq_true_iff.1 h).1 | simp_all))) ?_
                              refine qm_q (i := 12) (l := [.k 16, .o 11, .o 10]) rfl rfl rfl rfl (by kernel_rfl) rfl (fun He => PV.rq (pv_aidx (i := 1) Try.underlying52 (.ofA ta_51) (fun hg => ⟨by omega, by omega⟩) (.s rfl rfl rfl) rfl rfl rfl (by refine fun h => ⟨?_, ?_⟩ <;> first | rfl | exact h | exact (Bool.and_eq_true_iff.1 h).1 | simp_all))) ?_
                              refine qm_q (i := 13) (l := [.o 12, .o 10]) rfl rfl rfl rfl (by kernel_rfl) rfl (fun He => RV.rq (q_lda ta_51 (.s rfl rfl rfl) rfl rfl (by first | exact fun _ => rfl | exact id | exact fun h => (Bool.and_eq_true_iff.1 h).1 | simp_all) (by exact (.s (.s (.s .z)))))) ?_
                              refine qm_q (i := 14) (l := [.o 13, .o 10]) rfl rfl rfl rfl (by kernel_rfl) rfl (fun He => rq_call cf_35 (.s rfl rfl rfl) rfl (.c rfl (by first | exact fun _ => rfl | exact id | exact fun h => (Bool.and_eq_true_iff.1 h).1 | simp_all) .n) (fun hg => count_Check _ _ _ _ _)) ?_
                              refine qm_q (i := 15) (l := [.o 14, .o 10]) rfl rfl rfl rfl (by kernel_rfl) rfl (fun He => PV.rq (pv_neq (.s rfl rfl rfl) rfl rfl rfl (by refine fun h => ⟨?_, ?_⟩ <;> first | rfl | exact h | exact (Bool.and_eq_true_iff.1 h).1 | simp_all))) ?_
                              refine qm_q (i := 16) (l := [.o 10, .o 15]) rfl rfl rfl rfl (by kernel_rfl) rfl (fun He => PV.rq (pv_or (.n rfl) rfl rfl rfl (fun _ => ⟨rfl, fun hc => by first | rfl | (rw [hc]; rfl) | simp_all⟩))) ?_
                              refine qm_n (by kernel_rfl) (by kernel_rfl) (by kernel_rfl) (by kernel_rfl) (.c 0 rfl (.c 2 rfl (.c 6 rfl (.c 7 rfl (.c 8 rfl (.c 10 rfl (.c 16 rfl (.c 17 rfl (.c 18 rfl (.c 197 rfl .n)))))))))) ?_
                              refine r_cond _ rfl (fun h18 => ?_) (fun h18 => ?_)
                              · exfalso; simp [hchk1] at h18
                              · skip
                                refine r_skip ?_
                                refine r_end ?_
                                refine r_region ?_
                                refine p_mv rfl rfl ?_
                                refine p_add rfl rfl (by omega) rfl ?_
                                refine p_as rfl rfl ?_
                                refine o_keep (.c 0 rfl (.c 2 rfl (.c 6 rfl (.c 7 rfl (.c 8 rfl (.c 10 rfl (.c 16 rfl (.c 17 rfl (.c 18 rfl .n))))))))) ?_
                                refine r_back_1 (2) ?_ ?_ (Keep.app (.c 18 rfl .n) (.c 0 rfl (.c 2 rfl (.c 6 rfl (.c 7 rfl (.c 8 rfl (.c 10 rfl (.c 16 rfl (.c 17 rfl .n))))))))) ?_
                                · omega
                                · omega
                                · first | exact Ent.rfl | (repeat (first | exact Ent.rfl | refine Ent.c (SelB.ent) ?_ | refine Ent.c (SelS.ent) ?_ | refine Ent.cN ?_ | refine Ent.c (SelX.ent) ?_ | refine Ent.dropR ?_))
                      · skip
                        refine r_exit rfl ?_
                        refine r_end ?_
                        refine r_region ?_
                        refine p_mv rfl rfl ?_
                        refine p_add rfl rfl (by omega) rfl ?_
                        refine p_as rfl rfl ?_
                        refine o_keep (.c 0 rfl (.c 2 rfl (.c 6 rfl (.c 7 rfl (.c 8 rfl (.c 10 rfl .n)))))) ?_
                        refine r_back_2 (i + 1) (s2) ?_ ?_ (Keep.app (.c 10 rfl .n) (.c 0 rfl (.c 2 rfl (.c 6 rfl (.c 7 rfl (.c 8 rfl .n)))))) ?_
                        · exact ⟨by omega, hS2, by omega⟩
                        · omega
                        · first | exact Ent.rfl | (repeat (first | exact Ent.rfl | refine Ent.c (SelB.ent) ?_ | refine Ent.c (SelS.ent) ?_ | refine Ent.cN ?_ | refine Ent.c (SelX.ent) ?_ | refine Ent.dropR ?_))
                  · skip
                    refine r_exit rfl ?_
                    refine r_seq ?_
                    refine r_region ?_
                    refine p_as rfl rfl ?_
                    refine o_keep (.c 6 rfl .n) ?_
                    refine r_retv hF rfl (.c (.t rfl) .n) ?_ ?_
                    · first | exact Ent.rfl | (repeat (first | exact Ent.rfl | refine Ent.c (SelB.ent) ?_ | refine Ent.c (SelS.ent) ?_ | refine Ent.cN ?_ | refine Ent.c (SelX.ent) ?_ | refine Ent.dropR ?_))
                    · rfl

end Go.Proofs.Ytmakdilmibjpbab
