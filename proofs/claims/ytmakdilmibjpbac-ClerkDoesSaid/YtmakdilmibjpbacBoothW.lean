/- The walks of BoothW: written by a program of ours (gen.py) over the engine. -/
import Derived.Test.YtmakdilmibjpbacPlain
import Derived.Test.YtmakdilmibjpbacFacts
import Derived.Test.YtmakdilmibjpbacBoothP
import Derived.Test.YtmakdilmibjpbacKeepW
namespace Go.Proofs.Ytmakdilmibjpbac
open Go Go.RowKit
set_option linter.unusedVariables false
set_option linter.unusedSimpArgs false
set_option maxRecDepth 20000

theorem hold_v {c : Cnt} {n : Int} (h : (hold c n).2 = 0) : (hold c n).1.v = c.v := by
  rcases (hold_ok h).2.2 with ⟨_, _, e⟩ | ⟨_, _, e⟩ <;> rw [e]
def boNewP (o : Option ShopS) (x : Nat) : List HP := match o with | none => [] | some s => [boothP x s]
theorem chk_v {n : Int} : chk ⟨n, 0, 0⟩ ≠ 0 ↔ (n < 0 ∨ 100 < n) := by
  constructor
  · intro h
    by_cases h1 : n < 0 ∨ 100 < n
    · exact h1
    · exact absurd (chk_of (by omega)) h
  · intro h e
    have := chk_ok e; dsimp only at this; omega

theorem booth_New (M : Amb) (no : Int) (ws : List Int) (h6 : ws.length = 6) : FnE (α := Nat) Try.prog M 54 [.int .i64 no, .agg (ws.map vI).toArray] [] (fun x => newVal (newS no ws) x) (fun x => boNewP (newS no ws) x) := by
  refine fne_intro Try.func54 rfl Try.ntmps54 rfl fun R F hF => ?_
  show Run _ _ _ _ _ _ R
  refine r_seq ?_
  refine r_region ?_
  refine p_box rfl rfl rfl fun b3 => ?_
  refine p_as rfl rfl ?_
  refine o_keep (.c 0 rfl (.c 3 rfl (.c 4 rfl .n))) ?_
  refine r_seq ?_
  refine r_seq ?_
  refine r_region ?_
  refine p_mv rfl rfl ?_
  refine p_lss rfl rfl rfl ?_
  refine p_mv rfl rfl ?_
  refine l_op (x_p (pv_mv (.s rfl rfl rfl) rfl rfl (by first | exact fun _ => rfl | exact id | exact fun h => (Bool.and_eq_true_iff.1 h).1 | simp_all)) rfl rfl ?_)
  refine l_op (x_p (pv_geq (.s rfl rfl rfl) rfl rfl rfl (by refine fun h => ⟨?_, ?_⟩ <;> first | rfl | exact h | exact (Bool.and_eq_true_iff.1 h).1 | simp_all)) rfl rfl ?_)
  refine l_op (x_p (pv_or (.n rfl) rfl rfl rfl (fun _ => ⟨rfl, fun hc => by first | rfl | (rw [hc]; rfl) | simp_all⟩)) rfl rfl ?_)
  refine o_keep (.c 0 rfl (.c 3 rfl (.c 4 rfl (.c 13 rfl .n)))) ?_
  refine r_cond _ rfl (fun h1 => ?_) (fun h1 => ?_)
  · try simp only [Bool.and_eq_true, Bool.or_eq_true, Bool.or_eq_false_iff, Bool.not_eq_true', Bool.not_eq_false', decide_eq_true_eq, decide_eq_false_iff_not, Bool.and_eq_false_iff] at h1
    have hn := newS_1 (ws := ws) (no := no) h1
    refine r_seq ?_
    refine r_region ?_
    refine p_as rfl rfl ?_
    refine o_keep (.c 0 rfl (.c 3 rfl (.c 4 rfl .n))) ?_
    refine r_rete (0) hF rfl (.c (.t rfl) .n) ?_ ?_
    · show Ent _ (boNewP _ _ ++ R); rw [hn]; show Ent _ R; first | exact Ent.rfl | (repeat (first | exact Ent.rfl | refine Ent.c (SelB.ent) ?_ | refine Ent.c (SelS.ent) ?_ | refine Ent.cN ?_ | refine Ent.c (SelX.ent) ?_ | refine Ent.dropR ?_))
    · rw [hn]; rfl
  · try simp only [Bool.and_eq_true, Bool.or_eq_true, Bool.or_eq_false_iff, Bool.not_eq_true', Bool.not_eq_false', decide_eq_true_eq, decide_eq_false_iff_not, Bool.and_eq_false_iff] at h1
    have hno : ¬ (no < 0 ∨ 3 ≤ no) := by omega
    refine r_skip ?_
    refine r_seq ?_
    refine r_region ?_
    refine p_mv rfl rfl ?_
    refine p_build zr_64 pl_64 (.c rfl (fun _ => rfl) rfl rfl rfl (by repeat constructor) .n) rfl ?_
    refine p_box rfl rfl rfl fun b16 => ?_
    refine p_as rfl rfl ?_
    refine o_keep (.c 0 rfl (.c 3 rfl (.c 4 rfl (.c 5 rfl .n)))) ?_
    refine r_seq ?_
    refine r_seq ?_
    refine r_region ?_
    refine p_as rfl rfl ?_
    refine o_keep (.c 0 rfl (.c 3 rfl (.c 4 rfl (.c 5 rfl (.c 6 rfl .n))))) ?_
    refine r_block ?_
    refine r_loop_3 (fun (k : Nat) (a c : Int) => [(6, true, .int .i64 (k : Int))]) (.c 0 rfl (.c 3 rfl (.c 4 rfl (.c 5 rfl .n)))) (fun (k : Nat) (a c : Int) => blk b16 [.int .i64 no, .int .i64 a, .int .i64 c, .slice Option.none 0 0, .slice Option.none 0 0, .slice Option.none 0 0] 64 :: blk b3 (ws.map vI) 23 :: R) (fun (k : Nat) (a c : Int) => (k = 0 ∧ a = 0 ∧ c = 0) ∨ (k = 1 ∧ a = (ws.getD (no * 2).toNat 0) ∧ c = 0 ∧ chk ⟨(ws.getD (no * 2).toNat 0), 0, 0⟩ = 0) ∨ (k = 2 ∧ a = (ws.getD (no * 2).toNat 0) ∧ c = (ws.getD (no * 2 + 1).toNat 0) ∧ chk ⟨(ws.getD (no * 2).toNat 0), 0, 0⟩ = 0 ∧ chk ⟨(ws.getD (no * 2 + 1).toNat 0), 0, 0⟩ = 0)) (fun (k : Nat) (a c : Int) => 2 - k) (0) (0) (0) ?_ (.c 6 rfl .n) ?_ (fun k a c hI => ?_)
    · exact .inl ⟨rfl, rfl, rfl⟩
    · first | exact Ent.rfl | (repeat (first | exact Ent.rfl | refine Ent.c (SelB.ent) ?_ | refine Ent.c (SelS.ent) ?_ | refine Ent.cN ?_ | refine Ent.c (SelX.ent) ?_ | refine Ent.dropR ?_))
    · skip
      refine r_seq ?_
      refine r_seq ?_
      refine r_region ?_
      refine p_mv rfl rfl ?_
      refine p_lss rfl rfl rfl ?_
      refine o_keep (.c 0 rfl (.c 3 rfl (.c 4 rfl (.c 5 rfl (.c 6 rfl (.c 18 rfl .n)))))) ?_
      refine r_cond _ rfl (fun h2 => ?_) (fun h2 => ?_)
      · try simp only [Bool.and_eq_true, Bool.or_eq_true, Bool.or_eq_false_iff, Bool.not_eq_true', Bool.not_eq_false', decide_eq_true_eq, decide_eq_false_iff_not, Bool.and_eq_false_iff] at h2
        have hk2 : k < 2 := by omega
        refine r_skip ?_
        refine r_seq ?_
        refine r_block ?_
        refine r_seq ?_
        rcases (show (k = 0 ∧ a = 0 ∧ c = 0) ∨ (k = 1 ∧ a = (ws.getD (no * 2).toNat 0) ∧ c = 0 ∧ chk ⟨(ws.getD (no * 2).toNat 0), 0, 0⟩ = 0) by rcases hI with h | h | h; exact .inl h; exact .inr h; omega) with ⟨rfl, rfl, rfl⟩ | ⟨rfl, rfl, rfl, hc0⟩
        · skip
          refine r_region ?_
          refine p_mv rfl rfl ?_
          refine p_mul rfl rfl (by omega) rfl ?_
          refine p_mv rfl rfl ?_
          refine p_add rfl rfl (by omega) rfl ?_
          refine l_op (x_p (pv_aidx (i := (no * 2).toNat) Try.underlying23 (.ofC tc_3) (fun hg => ⟨by omega, by omega⟩) (.n rfl) rfl rfl rfl (fun _ => ⟨rfl, rfl⟩)) rfl rfl ?_)
          refine l_op (x_r (q_ldci (i := (no * 2).toNat) tc_3 (.n rfl) rfl rfl (fun _ => rfl) (by omega) (wget (by omega))) rfl rfl ?_)
          refine p_as rfl rfl ?_
          refine o_keep (.c 0 rfl (.c 3 rfl (.c 4 rfl (.c 5 rfl (.c 6 rfl (.c 7 rfl .n)))))) ?_
          refine r_seq ?_
          refine r_seq ?_
          refine r_region ?_
          refine p_mv rfl rfl ?_
          refine p_lss rfl rfl rfl ?_
          refine p_mv rfl rfl ?_
          refine l_op (x_p (pv_mv (.s rfl rfl rfl) rfl rfl (by first | exact fun _ => rfl | exact id | exact fun h => (Bool.and_eq_true_iff.1 h).1 | simp_all)) rfl rfl ?_)
          refine l_op (x_p (pv_gtr (.s rfl rfl rfl) rfl rfl rfl (by refine fun h => ⟨?_, ?_⟩ <;> first | rfl | exact h | exact (Bool.and_eq_true_iff.1 h).1 | simp_all)) rfl rfl ?_)
          refine l_op (x_p (pv_or (.n rfl) rfl rfl rfl (fun _ => ⟨rfl, fun hc => by first | rfl | (rw [hc]; rfl) | simp_all⟩)) rfl rfl ?_)
          refine o_keep (.c 0 rfl (.c 3 rfl (.c 4 rfl (.c 5 rfl (.c 6 rfl (.c 7 rfl (.c 32 rfl .n))))))) ?_
          refine r_cond _ rfl (fun h3 => ?_) (fun h3 => ?_)
          · try simp only [Bool.and_eq_true, Bool.or_eq_true, Bool.or_eq_false_iff, Bool.not_eq_true', Bool.not_eq_false', decide_eq_true_eq, decide_eq_false_iff_not, Bool.and_eq_false_iff] at h3
            have hn := newS_2 (ws := ws) hno (chk_v.2 h3)
            refine r_seq ?_
            refine r_region ?_
            refine p_as rfl rfl ?_
            refine o_keep (.c 0 rfl (.c 3 rfl (.c 4 rfl (.c 5 rfl (.c 6 rfl (.c 7 rfl .n)))))) ?_
            refine r_rete (0) hF rfl (.c (.t rfl) .n) ?_ ?_
            · show Ent _ (boNewP _ _ ++ R); rw [hn]; show Ent _ R; first | exact Ent.rfl | (repeat (first | exact Ent.rfl | refine Ent.c (SelB.ent) ?_ | refine Ent.c (SelS.ent) ?_ | refine Ent.cN ?_ | refine Ent.c (SelX.ent) ?_ | refine Ent.dropR ?_))
            · rw [hn]; rfl
          · try simp only [Bool.and_eq_true, Bool.or_eq_true, Bool.or_eq_false_iff, Bool.not_eq_true', Bool.not_eq_false', decide_eq_true_eq, decide_eq_false_iff_not, Bool.and_eq_false_iff] at h3
            have hk0 : chk ⟨ws.getD (no * 2).toNat 0, 0, 0⟩ = 0 := chk_of (by omega)
            refine r_skip ?_
            refine r_region ?_
            refine p_mv rfl rfl ?_
            refine p_mv rfl rfl ?_
            refine p_mv rfl rfl ?_
            refine p_nil rfl rfl ?_
            refine p_fa fa_64_1 rfl rfl ?_
            refine l_op (x_p (pv_aidx (i := 0) Try.underlying61 (.ofC tc_3) (fun hg => ⟨rfl, by omega⟩) (.n rfl) rfl rfl rfl (fun _ => ⟨rfl, rfl⟩)) rfl rfl ?_)
            refine p_store (.ofC tc_3) rfl rfl rfl rfl rfl (by repeat constructor) ?_
            refine o_keep (.c 0 rfl (.c 3 rfl (.c 4 rfl (.c 5 rfl (.c 6 rfl .n))))) ?_
            refine r_end ?_
            refine r_region ?_
            refine p_mv rfl rfl ?_
            refine p_add rfl rfl (by omega) rfl ?_
            refine p_as rfl rfl ?_
            refine o_keep (.c 0 rfl (.c 3 rfl (.c 4 rfl (.c 5 rfl (.c 6 rfl .n))))) ?_
            refine r_back_3 (1) ((ws.getD (no * 2).toNat 0)) (0) ?_ ?_ (Keep.app (.c 6 rfl .n) (.c 0 rfl (.c 3 rfl (.c 4 rfl (.c 5 rfl .n))))) ?_
            · exact .inr (.inl ⟨rfl, rfl, rfl, hk0⟩)
            · omega
            · first | exact Ent.rfl | (repeat (first | exact Ent.rfl | refine Ent.c (SelB.ent) ?_ | refine Ent.c (SelS.ent) ?_ | refine Ent.cN ?_ | refine Ent.c (SelX.ent) ?_ | refine Ent.dropR ?_))
        · skip
          refine r_region ?_
          refine p_mv rfl rfl ?_
          refine p_mul rfl rfl (by omega) rfl ?_
          refine p_mv rfl rfl ?_
          refine p_add rfl rfl (by omega) rfl ?_
          refine l_op (x_p (pv_aidx (i := (no * 2 + 1).toNat) Try.underlying23 (.ofC tc_3) (fun hg => ⟨by omega, by omega⟩) (.n rfl) rfl rfl rfl (fun _ => ⟨rfl, rfl⟩)) rfl rfl ?_)
          refine l_op (x_r (q_ldci (i := (no * 2 + 1).toNat) tc_3 (.n rfl) rfl rfl (fun _ => rfl) (by omega) (wget (by omega))) rfl rfl ?_)
          refine p_as rfl rfl ?_
          refine o_keep (.c 0 rfl (.c 3 rfl (.c 4 rfl (.c 5 rfl (.c 6 rfl (.c 7 rfl .n)))))) ?_
          refine r_seq ?_
          refine r_seq ?_
          refine r_region ?_
          refine p_mv rfl rfl ?_
          refine p_lss rfl rfl rfl ?_
          refine p_mv rfl rfl ?_
          refine l_op (x_p (pv_mv (.s rfl rfl rfl) rfl rfl (by first | exact fun _ => rfl | exact id | exact fun h => (Bool.and_eq_true_iff.1 h).1 | simp_all)) rfl rfl ?_)
          refine l_op (x_p (pv_gtr (.s rfl rfl rfl) rfl rfl rfl (by refine fun h => ⟨?_, ?_⟩ <;> first | rfl | exact h | exact (Bool.and_eq_true_iff.1 h).1 | simp_all)) rfl rfl ?_)
          refine l_op (x_p (pv_or (.n rfl) rfl rfl rfl (fun _ => ⟨rfl, fun hc => by first | rfl | (rw [hc]; rfl) | simp_all⟩)) rfl rfl ?_)
          refine o_keep (.c 0 rfl (.c 3 rfl (.c 4 rfl (.c 5 rfl (.c 6 rfl (.c 7 rfl (.c 32 rfl .n))))))) ?_
          refine r_cond _ rfl (fun h4 => ?_) (fun h4 => ?_)
          · try simp only [Bool.and_eq_true, Bool.or_eq_true, Bool.or_eq_false_iff, Bool.not_eq_true', Bool.not_eq_false', decide_eq_true_eq, decide_eq_false_iff_not, Bool.and_eq_false_iff] at h4
            have hn := newS_3 (ws := ws) hno hc0 (chk_v.2 h4)
            refine r_seq ?_
            refine r_region ?_
            refine p_as rfl rfl ?_
            refine o_keep (.c 0 rfl (.c 3 rfl (.c 4 rfl (.c 5 rfl (.c 6 rfl (.c 7 rfl .n)))))) ?_
            refine r_rete (0) hF rfl (.c (.t rfl) .n) ?_ ?_
            · show Ent _ (boNewP _ _ ++ R); rw [hn]; show Ent _ R; first | exact Ent.rfl | (repeat (first | exact Ent.rfl | refine Ent.c (SelB.ent) ?_ | refine Ent.c (SelS.ent) ?_ | refine Ent.cN ?_ | refine Ent.c (SelX.ent) ?_ | refine Ent.dropR ?_))
            · rw [hn]; rfl
          · try simp only [Bool.and_eq_true, Bool.or_eq_true, Bool.or_eq_false_iff, Bool.not_eq_true', Bool.not_eq_false', decide_eq_true_eq, decide_eq_false_iff_not, Bool.and_eq_false_iff] at h4
            have hk1 : chk ⟨ws.getD (no * 2 + 1).toNat 0, 0, 0⟩ = 0 := chk_of (by omega)
            refine r_skip ?_
            refine r_region ?_
            refine p_mv rfl rfl ?_
            refine p_mv rfl rfl ?_
            refine p_mv rfl rfl ?_
            refine p_nil rfl rfl ?_
            refine p_fa fa_64_1 rfl rfl ?_
            refine l_op (x_p (pv_aidx (i := 1) Try.underlying61 (.ofC tc_3) (fun hg => ⟨rfl, by omega⟩) (.n rfl) rfl rfl rfl (fun _ => ⟨rfl, rfl⟩)) rfl rfl ?_)
            refine p_store (.ofC tc_3) rfl rfl rfl rfl rfl (by repeat constructor) ?_
            refine o_keep (.c 0 rfl (.c 3 rfl (.c 4 rfl (.c 5 rfl (.c 6 rfl .n))))) ?_
            refine r_end ?_
            refine r_region ?_
            refine p_mv rfl rfl ?_
            refine p_add rfl rfl (by omega) rfl ?_
            refine p_as rfl rfl ?_
            refine o_keep (.c 0 rfl (.c 3 rfl (.c 4 rfl (.c 5 rfl (.c 6 rfl .n))))) ?_
            refine r_back_3 (2) ((ws.getD (no * 2).toNat 0)) ((ws.getD (no * 2 + 1).toNat 0)) ?_ ?_ (Keep.app (.c 6 rfl .n) (.c 0 rfl (.c 3 rfl (.c 4 rfl (.c 5 rfl .n))))) ?_
            · exact .inr (.inr ⟨rfl, rfl, rfl, hc0, hk1⟩)
            · omega
            · first | exact Ent.rfl | (repeat (first | exact Ent.rfl | refine Ent.c (SelB.ent) ?_ | refine Ent.c (SelS.ent) ?_ | refine Ent.cN ?_ | refine Ent.c (SelX.ent) ?_ | refine Ent.dropR ?_))
      · try simp only [Bool.and_eq_true, Bool.or_eq_true, Bool.or_eq_false_iff, Bool.not_eq_true', Bool.not_eq_false', decide_eq_true_eq, decide_eq_false_iff_not, Bool.and_eq_false_iff] at h2
        have hk2 : ¬ k < 2 := by omega
        rcases hI with ⟨rfl, _⟩ | ⟨rfl, _⟩ | ⟨rfl, rfl, rfl, hc0, hc1⟩; omega; omega
        have hn := newS_4 (ws := ws) hno hc0 hc1
        refine r_exit rfl ?_
        refine r_seq ?_
        refine r_region ?_
        refine p_mv rfl rfl ?_
        refine p_as rfl rfl ?_
        refine o_keep (.c 4 rfl .n) ?_
        refine r_rete (b16) hF rfl (.c (.t rfl) .n) ?_ ?_
        · show Ent _ (boNewP _ _ ++ R); rw [hn]; show Ent _ (boothP b16 _ :: R); refine Ent.tr (Ent.slN (E := 3) (sz := 1)) (Ent.tr (Ent.slN (E := 3) (sz := 1)) (Ent.tr (Ent.slN (E := 54) (sz := 3)) ?_)); refine Ent.c (boothP_close (.slice Option.none 0 0) (.slice Option.none 0 0) (.slice Option.none 0 0) rfl rfl rfl rfl) ?_; first | exact Ent.rfl | (repeat (first | exact Ent.rfl | refine Ent.c (SelB.ent) ?_ | refine Ent.c (SelS.ent) ?_ | refine Ent.cN ?_ | refine Ent.c (SelX.ent) ?_ | refine Ent.dropR ?_))
        · rw [hn]; rfl

theorem booth_Over_o (M : Amb) (b : Nat) (s : ShopS) (hv ov dv : Value) (hb : s.over.length ≤ 1000) (d : Int) : FnC Try.prog M 104 [ptr b, .int .i64 d] (.tuple #[.bool (overL s.over d).isSome, .bool ((overL s.over d).getD false)]) (boL b s hv ov dv) (boL b s hv ov dv) := by
  refine fnc_intro Try.func104 rfl Try.ntmps104 rfl fun R F hF => ?_
  refine r_cat ?_
  refine r_rd ov fun hro => ?_
  refine r_rd dv fun hrd => ?_
  refine r_seq ?_
  refine r_region ?_
  refine p_as rfl rfl ?_
  refine p_as rfl rfl ?_
  refine o_keep (.c 0 rfl (.c 1 rfl (.c 4 rfl (.c 5 rfl .n)))) ?_
  refine r_seq ?_
  refine r_seq ?_
  refine r_region ?_
  refine p_as rfl rfl ?_
  refine o_keep (.c 0 rfl (.c 1 rfl (.c 4 rfl (.c 5 rfl (.c 6 rfl .n))))) ?_
  refine r_block ?_
  refine r_loop_1 (fun (i : Nat) => [(6, true, .int .i64 (i : Int))]) (.c 0 rfl (.c 1 rfl (.c 4 rfl (.c 5 rfl .n)))) (fun (i : Nat) => boL b s hv ov dv ++ R) (fun (i : Nat) => i ≤ s.over.length ∧ ∀ (j : Nat) x, j < i → s.over[j]? = some x → decide (x.deal = d) = false) (fun (i : Nat) => s.over.length - i) (0) ?_ (.c 6 rfl .n) ?_ (fun i hI => ?_)
  · exact ⟨Nat.zero_le _, fun j x hj => by omega⟩
  · refine Ent.catI ?_; first | exact Ent.rfl | (repeat (first | exact Ent.rfl | refine Ent.c (SelB.ent) ?_ | refine Ent.c (SelS.ent) ?_ | refine Ent.cN ?_ | refine Ent.c (SelX.ent) ?_ | refine Ent.dropR ?_))
  · skip
    obtain ⟨_, hI⟩ := hI
    refine r_cat ?_
    refine r_seq ?_
    refine r_seq ?_
    refine r_region ?_
    refine p_mv rfl rfl ?_
    refine p_mv rfl rfl ?_
    refine p_nil rfl rfl ?_
    refine p_fa fa_64_3 rfl rfl ?_
    refine p_ldc tc_62 rfl (by rfl) rfl ?_
    refine l_op (x_p (pv_lens (Rd.len hro) ⟨_, Try.underlying62⟩ (.n rfl) rfl rfl rfl rfl (fun _ => rfl)) rfl rfl ?_)
    refine p_lss rfl rfl rfl ?_
    refine o_keep (.c 0 rfl (.c 1 rfl (.c 4 rfl (.c 5 rfl (.c 6 rfl (.c 13 rfl .n)))))) ?_
    refine r_cond _ rfl (fun h1 => ?_) (fun h1 => ?_)
    · skip
      obtain ⟨o, ho⟩ := getlt (l := s.over) (i := i) (by have := of_decide_eq_true h1; simp at this; omega)
      have hil := (List.getElem?_eq_some_iff.1 ho).1
      refine r_skip ?_
      refine r_seq ?_
      refine r_block ?_
      refine r_seq ?_
      refine r_region ?_
      refine p_mv rfl rfl ?_
      refine p_nil rfl rfl ?_
      refine p_fa fa_64_3 rfl rfl ?_
      refine p_ldc tc_62 rfl (by rfl) rfl ?_
      refine p_mv rfl rfl ?_
      refine p_idx Try.underlying62 (.ofC tc_3) hro rfl (mapget (mapget ho)) rfl rfl rfl ?_
      refine p_ldat 0 tc_3 (Rd.ent hro (by repeat (first | exact Ent.rfl | exact Ent.one Ent.h | exact Ent.one (SelS.ent) | exact Ent.nil | exact Ent.left | refine Ent.dropR ?_ | refine Ent.tr Ent.skip ?_))) (mapget (mapget ho)) rfl rfl rfl rfl ?_
      refine p_mv rfl rfl ?_
      refine p_eql rfl rfl rfl ?_
      refine o_keep (.c 0 rfl (.c 1 rfl (.c 4 rfl (.c 5 rfl (.c 6 rfl (.c 24 rfl .n)))))) ?_
      refine r_cond _ rfl (fun h2 => ?_) (fun h2 => ?_)
      · skip
        have hoh := overL_hit ho (of_decide_eq_true h2) hI
        refine r_seq ?_
        refine r_plan _ [] mo (.c 0 rfl (.c 1 rfl (.c 6 rfl .n))) Ent.rfl ?_
        refine qm_q (i := 0) (l := [.k 0]) rfl rfl rfl rfl (by kernel_rfl) rfl (fun He => PV.rq (pv_mv (.n rfl) rfl rfl (fun _ => rfl))) ?_
        refine qm_q (i := 1) (l := [.o 0]) rfl rfl rfl rfl (by kernel_rfl) rfl (fun He => PV.rq (pv_nilp (.n rfl) rfl rfl (fun _ => rfl))) ?_
        refine qm_q (i := 2) (l := [.o 1]) rfl rfl rfl rfl (by kernel_rfl) rfl (fun He => PV.rq (pv_fa fa_64_4 (.n rfl) rfl rfl (fun _ => rfl))) ?_
        refine qm_q (i := 3) (l := [.o 2]) rfl rfl rfl rfl (by kernel_rfl) rfl (fun He => RV.rq (q_ldc tc_62 (.n rfl) rfl rfl (fun _ => rfl) (by rfl))) ?_
        refine qm_q (i := 4) (l := [.k 6]) rfl rfl rfl rfl (by kernel_rfl) rfl (fun He => PV.rq (pv_mv (.n rfl) rfl rfl (fun _ => rfl))) ?_
        refine qm_q (i := 5) (l := [.o 3, .o 4]) rfl rfl rfl rfl (by kernel_rfl) rfl (fun He => PV.rq (pv_idx Try.underlying62 (.ofC tc_3) hrd (fun hg => ⟨rfl, (mapget (mapget ho))⟩) (.n rfl) rfl rfl rfl (fun _ => ⟨rfl, rfl⟩))) ?_
        refine qm_q (i := 6) (l := [.o 5]) rfl rfl rfl rfl (by kernel_rfl) rfl (fun He => RV.rq (rv_ldat (j := 0) tc_3 (Rd.ent hrd (by repeat (first | exact Ent.rfl | exact Ent.one Ent.h | exact Ent.one (SelS.ent) | exact Ent.nil | exact Ent.left | refine Ent.dropR ?_ | refine Ent.tr Ent.skip ?_))) (fun hg => (mapget (mapget ho))) (.n rfl) rfl rfl (fun _ => rfl) rfl (fun _ => rfl))) ?_
        refine qm_q (i := 7) (l := [.o 6]) rfl rfl rfl rfl (by kernel_rfl) rfl (fun He => PV.rq (pv_eql (.n rfl) rfl rfl rfl (fun _ => ⟨rfl, rfl⟩))) ?_
        refine qm_q (i := 8) (l := []) rfl rfl rfl rfl (by kernel_rfl) rfl (fun He => PV.rq (pv_as (.n rfl) rfl rfl (fun _ => rfl))) ?_
        refine qm_q (i := 9) (l := [.o 7]) rfl rfl rfl rfl (by kernel_rfl) rfl (fun He => PV.rq (pv_as (.n rfl) rfl rfl (fun _ => rfl))) ?_
        refine qm_n (by kernel_rfl) (by kernel_rfl) (by kernel_rfl) (by kernel_rfl) (.c 0 rfl (.c 1 rfl (.c 4 rfl (.c 5 rfl (.c 6 rfl .n))))) ?_
        refine r_retv hF rfl (.c (.t rfl) (.c (.t rfl) .n)) ?_ ?_
        · refine Ent.catI ?_; first | exact Ent.rfl | (repeat (first | exact Ent.rfl | refine Ent.c (SelB.ent) ?_ | refine Ent.c (SelS.ent) ?_ | refine Ent.cN ?_ | refine Ent.c (SelX.ent) ?_ | refine Ent.dropR ?_))
        · exact tup2 (by rw [hoh]; rfl) (by rw [hoh, dnI_one]; rfl)
      · skip
        have hon := h2
        refine r_skip ?_
        refine r_end ?_
        refine r_region ?_
        refine p_mv rfl rfl ?_
        refine p_add rfl rfl (by omega) rfl ?_
        refine p_as rfl rfl ?_
        refine o_keep (.c 0 rfl (.c 1 rfl (.c 4 rfl (.c 5 rfl (.c 6 rfl .n))))) ?_
        refine r_back_1 (i + 1) ?_ ?_ (Keep.app (.c 6 rfl .n) (.c 0 rfl (.c 1 rfl (.c 4 rfl (.c 5 rfl .n))))) ?_
        · exact ⟨by omega, idx_step hI ho hon⟩
        · omega
        · refine Ent.catI ?_; first | exact Ent.rfl | (repeat (first | exact Ent.rfl | refine Ent.c (SelB.ent) ?_ | refine Ent.c (SelS.ent) ?_ | refine Ent.cN ?_ | refine Ent.c (SelX.ent) ?_ | refine Ent.dropR ?_))
    · skip
      have hil : s.over.length ≤ i := by have := of_decide_eq_false h1; simp at this; omega
      have hom := overL_miss (l := s.over) (d := d) fun j x hj => hI j x (by omega)
      refine r_exit rfl ?_
      refine r_seq ?_
      refine r_region ?_
      refine p_as rfl rfl ?_
      refine p_as rfl rfl ?_
      refine o_keep (.c 4 rfl (.c 5 rfl .n)) ?_
      refine r_retv hF rfl (.c (.t rfl) (.c (.t rfl) .n)) ?_ ?_
      · refine Ent.catI ?_; first | exact Ent.rfl | (repeat (first | exact Ent.rfl | refine Ent.c (SelB.ent) ?_ | refine Ent.c (SelS.ent) ?_ | refine Ent.cN ?_ | refine Ent.c (SelX.ent) ?_ | refine Ent.dropR ?_))
      · exact tup2 (by rw [hom]; rfl) (by rw [hom]; rfl)

theorem booth_Over (M : Amb) (b : Nat) (s : ShopS) (hb : s.over.length ≤ 1000) (d : Int) : FnC Try.prog M 104 [ptr b, .int .i64 d] (.tuple #[.bool (overL s.over d).isSome, .bool ((overL s.over d).getD false)]) [boothP b s] [boothP b s] :=
  FnC.ex3 fun hv ov dv => booth_Over_o M b s hv ov dv hb d

theorem booth_Counts_o (M : Amb) (b : Nat) (s : ShopS) (hS : ShInv s) (hv ov dv : Value) : FnC Try.prog M 26 [ptr b] (.agg (cntL s.c0 ++ cntL s.c1).toArray) (boL b s hv ov dv) (boL b s hv ov dv) := by
  have hh1 := hS.holds_le
  have hno0 := hS.no0
  have hno3 := hS.no3
  refine fnc_intro Try.func26 rfl Try.ntmps26 rfl fun R F hF => ?_
  refine r_cat ?_
  refine r_rd hv fun hrh => ?_
  refine r_seq ?_
  refine r_region ?_
  refine p_alloc zr_36 rfl fun b2 => ?_
  refine o_keep (.c 0 rfl (.c 2 rfl .n)) ?_
  refine r_seq ?_
  refine r_region ?_
  refine p_alloc zr_36 rfl fun b3 => ?_
  refine o_keep (.c 0 rfl (.c 2 rfl (.c 3 rfl .n))) ?_
  refine r_seq ?_
  refine r_seq ?_
  refine r_region ?_
  refine p_as rfl rfl ?_
  refine o_keep (.c 0 rfl (.c 2 rfl (.c 3 rfl (.c 4 rfl .n)))) ?_
  refine r_block ?_
  refine r_loop_2 (fun (k : Nat) (cs : List Value) => [(4, true, .int .i64 (k : Int))]) (.c 0 rfl (.c 2 rfl (.c 3 rfl .n))) (fun (k : Nat) (cs : List Value) => blk b3 cs 36 :: blk b2 ([.int .i64 0, .int .i64 0, .int .i64 0] ++ [.int .i64 0, .int .i64 0, .int .i64 0]) 36 :: (boL b s hv ov dv ++ R)) (fun (k : Nat) (cs : List Value) => (k = 0 ∧ cs = [.int .i64 0, .int .i64 0, .int .i64 0] ++ [.int .i64 0, .int .i64 0, .int .i64 0]) ∨ (k = 1 ∧ cs = cntL s.c0 ++ [.int .i64 0, .int .i64 0, .int .i64 0]) ∨ (k = 2 ∧ cs = cntL s.c0 ++ cntL s.c1)) (fun (k : Nat) (cs : List Value) => 2 - k) (0) ([.int .i64 0, .int .i64 0, .int .i64 0] ++ [.int .i64 0, .int .i64 0, .int .i64 0]) ?_ (.c 4 rfl .n) ?_ (fun k cs hI => ?_)
  · exact .inl ⟨rfl, rfl⟩
  · refine Ent.c (SelB.ent) ?_; refine Ent.c (SelB.ent) ?_; refine Ent.catI ?_; first | exact Ent.rfl | (repeat (first | exact Ent.rfl | refine Ent.c (SelB.ent) ?_ | refine Ent.c (SelS.ent) ?_ | refine Ent.cN ?_ | refine Ent.c (SelX.ent) ?_ | refine Ent.dropR ?_))
  · skip
    refine r_cat2 ?_
    refine r_seq ?_
    refine r_seq ?_
    refine r_region ?_
    refine p_mv rfl rfl ?_
    refine p_lss rfl rfl rfl ?_
    refine o_keep (.c 0 rfl (.c 2 rfl (.c 3 rfl (.c 4 rfl (.c 8 rfl .n))))) ?_
    refine r_cond _ rfl (fun h1 => ?_) (fun h1 => ?_)
    · skip
      have hk2 : k < 2 := by have := of_decide_eq_true h1; omega
      refine r_skip ?_
      refine r_seq ?_
      refine r_block ?_
      refine r_seq ?_
      rcases (show (k = 0 ∧ cs = [.int .i64 0, .int .i64 0, .int .i64 0] ++ [.int .i64 0, .int .i64 0, .int .i64 0]) ∨ (k = 1 ∧ cs = cntL s.c0 ++ [.int .i64 0, .int .i64 0, .int .i64 0]) by rcases hI with h | h | h; exact .inl h; exact .inr h; omega) with ⟨rfl, rfl⟩ | ⟨rfl, rfl⟩
      · skip
        refine r_region ?_
        refine p_mv rfl rfl ?_
        refine p_mv rfl rfl ?_
        refine p_mv rfl rfl ?_
        refine p_nil rfl rfl ?_
        refine p_fa fa_64_1 rfl rfl ?_
        refine l_op (x_p (pv_aidx (i := 0) Try.underlying61 (.ofC tc_3) (fun hg => ⟨rfl, by omega⟩) (.n rfl) rfl rfl rfl (fun _ => ⟨rfl, rfl⟩)) rfl rfl ?_)
        refine l_op (x_r (q_ldc tc_3 (.n rfl) rfl rfl (fun _ => rfl) (by rfl)) rfl rfl ?_)
        refine l_op (x_p (pv_aidx (i := 0) Try.underlying36 (.ofA ta_35) (fun hg => ⟨rfl, by omega⟩) (.n rfl) rfl rfl rfl (fun _ => ⟨rfl, rfl⟩)) rfl rfl ?_)
        refine p_fa fa_35_0 rfl rfl ?_
        refine p_store (.ofC tc_3) rfl rfl rfl rfl rfl (by repeat constructor) ?_
        refine o_keep (.c 0 rfl (.c 2 rfl (.c 3 rfl (.c 4 rfl .n)))) ?_
        refine r_seq ?_
        refine r_region ?_
        refine p_as rfl rfl ?_
        refine o_keep (.c 0 rfl (.c 2 rfl (.c 3 rfl (.c 4 rfl (.c 5 rfl .n))))) ?_
        refine r_block ?_
        refine r_loop_3 (fun (j : Nat) (o n : Int) => [(5, true, .int .i64 (j : Int))]) (.c 0 rfl (.c 2 rfl (.c 3 rfl (.c 4 rfl .n)))) (fun (j : Nat) (o n : Int) => blk b3 ([.int .i64 s.c0.v, .int .i64 o, .int .i64 n] ++ [.int .i64 0, .int .i64 0, .int .i64 0]) 36 :: blk b2 ([.int .i64 0, .int .i64 0, .int .i64 0] ++ [.int .i64 0, .int .i64 0, .int .i64 0]) 36 :: (boL b s hv ov dv ++ R)) (fun (j : Nat) (o n : Int) => j ≤ s.holds.length ∧ o = outH (2 * s.no) (s.holds.take j) ∧ n = inH (2 * s.no) (s.holds.take j)) (fun (j : Nat) (o n : Int) => s.holds.length - j) (0) (0) (0) ?_ (.c 5 rfl .n) ?_ (fun j o n hI => ?_)
        · exact ⟨Nat.zero_le _, rfl, rfl⟩
        · refine Ent.c (SelB.ent) ?_; refine Ent.c (SelB.ent) ?_; refine Ent.catI ?_; first | exact Ent.rfl | (repeat (first | exact Ent.rfl | refine Ent.c (SelB.ent) ?_ | refine Ent.c (SelS.ent) ?_ | refine Ent.cN ?_ | refine Ent.c (SelX.ent) ?_ | refine Ent.dropR ?_))
        · skip
          obtain ⟨hjl, rfl, rfl⟩ := hI
          refine r_cat2 ?_
          refine r_seq ?_
          refine r_seq ?_
          refine r_region ?_
          refine p_mv rfl rfl ?_
          refine p_mv rfl rfl ?_
          refine p_nil rfl rfl ?_
          refine p_fa fa_64_2 rfl rfl ?_
          refine p_ldc tc_45 rfl (by rfl) rfl ?_
          refine l_op (x_p (pv_lens (Rd.len hrh) ⟨_, Try.underlying45⟩ (.n rfl) rfl rfl rfl rfl (fun _ => rfl)) rfl rfl ?_)
          refine p_lss rfl rfl rfl ?_
          refine o_keep (.c 0 rfl (.c 2 rfl (.c 3 rfl (.c 4 rfl (.c 5 rfl (.c 26 rfl .n)))))) ?_
          refine r_cond _ rfl (fun h2 => ?_) (fun h2 => ?_)
          · skip
            have hj : j < s.holds.length := by have := of_decide_eq_true h2; omega
            obtain ⟨hh0, hh⟩ := getlt hj
            obtain ⟨hta, htb⟩ := outH_take hh (2 * s.no)
            have hdl0 := hS.dl hh0 (List.mem_of_getElem? hh)
            have hbo := outH_le (l := s.holds.take j) (fun y hy => hS.dl y (List.mem_of_mem_take hy)) (2 * s.no)
            have hbn := outH_nn (2 * s.no) (s.holds.take j)
            have hbm := inH_nn (2 * s.no) (s.holds.take j)
            have htl := take_len (l := s.holds) (i := j) (by omega)
            refine r_skip ?_
            refine r_seq ?_
            refine r_block ?_
            refine r_seq ?_
            refine r_region ?_
            refine p_mv rfl rfl ?_
            refine p_nil rfl rfl ?_
            refine p_fa fa_64_2 rfl rfl ?_
            refine p_ldc tc_45 rfl (by rfl) rfl ?_
            refine p_mv rfl rfl ?_
            refine p_idx Try.underlying45 (.ofA ta_54) hrh rfl (mapget hh) rfl rfl rfl ?_
            refine p_ldats 0 ta_54 (Rd.ent hrh (by repeat (first | exact Ent.rfl | exact Ent.one Ent.h | exact Ent.one (SelS.ent) | exact Ent.nil | exact Ent.left | refine Ent.dropR ?_ | refine Ent.tr Ent.skip ?_))) (mapget hh) rfl rfl (.s (.s (.s .z))) rfl ?_
            refine p_alloc zr_54 rfl fun b6 => ?_
            refine p_store (.ofA ta_54) rfl rfl rfl (by first | rfl | exact rfl) (by first | rfl | exact rfl) (Ins.whole (by first | rfl | (simp only [List.length_map, List.length_cons, List.length_nil]; omega) | (simp [*]; done) | (simp [*]; rfl))) ?_
            refine o_keep (.c 0 rfl (.c 2 rfl (.c 3 rfl (.c 4 rfl (.c 5 rfl (.c 6 rfl .n)))))) ?_
            refine r_seq ?_
            refine r_plan _ [] mo (.c 0 rfl (.c 2 rfl (.c 3 rfl (.c 4 rfl (.c 5 rfl (.c 6 rfl .n)))))) Ent.rfl ?_
            refine qm_q (i := 0) (l := [.k 6]) rfl rfl rfl rfl (by kernel_rfl) rfl (fun He => PV.rq (pv_fa fa_54_1 (.n rfl) rfl rfl (fun _ => rfl))) ?_
            refine qm_q (i := 1) (l := [.o 0]) rfl rfl rfl rfl (by kernel_rfl) rfl (fun He => RV.rq (q_ldc tc_3 (.n rfl) rfl rfl (fun _ => rfl) (by rfl))) ?_
            refine qm_q (i := 2) (l := [.k 0]) rfl rfl rfl rfl (by kernel_rfl) rfl (fun He => PV.rq (pv_mv (.n rfl) rfl rfl (fun _ => rfl))) ?_
            refine qm_q (i := 3) (l := [.o 2]) rfl rfl rfl rfl (by kernel_rfl) rfl (fun He => PV.rq (pv_nilp (.n rfl) rfl rfl (fun _ => rfl))) ?_
            refine qm_q (i := 4) (l := [.o 3]) rfl rfl rfl rfl (by kernel_rfl) rfl (fun He => PV.rq (pv_fa fa_64_0 (.n rfl) rfl rfl (fun _ => rfl))) ?_
            refine qm_q (i := 5) (l := [.o 4]) rfl rfl rfl rfl (by kernel_rfl) rfl (fun He => RV.rq (q_ldc tc_3 (.n rfl) rfl rfl (fun _ => rfl) (by rfl))) ?_
            refine qm_q (i := 6) (l := [.o 5]) rfl rfl rfl rfl (by kernel_rfl) rfl (fun He => PV.rq (pv_mul (fun _ => by omega) (.n rfl) rfl rfl rfl (fun _ => ⟨rfl, rfl⟩))) ?_
            refine qm_q (i := 7) (l := [.k 4]) rfl rfl rfl rfl (by kernel_rfl) rfl (fun He => PV.rq (pv_mv (.n rfl) rfl rfl (fun _ => rfl))) ?_
            refine qm_q (i := 8) (l := [.o 6, .o 7]) rfl rfl rfl rfl (by kernel_rfl) rfl (fun He => PV.rq (pv_add (fun _ => by omega) (.n rfl) rfl rfl rfl (fun _ => ⟨rfl, rfl⟩))) ?_
            refine qm_q (i := 9) (l := [.o 1, .o 8]) rfl rfl rfl rfl (by kernel_rfl) rfl (fun He => PV.rq (pv_eql (.n rfl) rfl rfl rfl (fun _ => ⟨rfl, rfl⟩))) ?_
            refine qm_n (by kernel_rfl) (by kernel_rfl) (by kernel_rfl) (by kernel_rfl) (.c 0 rfl (.c 2 rfl (.c 3 rfl (.c 4 rfl (.c 5 rfl (.c 6 rfl (.c 45 rfl .n))))))) ?_
            refine r_cond _ rfl (fun h3 => ?_) (fun h3 => ?_)
            · skip
              have hcy : hh0.ctr = 2 * s.no := by simp at h3; omega
              refine r_seq ?_
              refine r_region ?_
              refine p_fa fa_54_2 rfl rfl ?_
              refine p_ldc tc_3 rfl (by rfl) rfl ?_
              refine p_lss rfl rfl rfl ?_
              refine o_keep (.c 0 rfl (.c 2 rfl (.c 3 rfl (.c 4 rfl (.c 5 rfl (.c 6 rfl (.c 48 rfl .n))))))) ?_
              refine r_cond _ rfl (fun h4 => ?_) (fun h4 => ?_)
              · skip
                have hng := of_decide_eq_true h4
                rw [if_pos ⟨hcy, hng⟩] at hta
                rw [if_neg (fun q => q.2 hng)] at htb
                refine r_plan _ [] mo (.c 0 rfl (.c 2 rfl (.c 3 rfl (.c 4 rfl (.c 5 rfl (.c 6 rfl .n)))))) Ent.rfl ?_
                refine qm_q (i := 0) (l := [.k 4]) rfl rfl rfl rfl (by kernel_rfl) rfl (fun He => PV.rq (pv_mv (.n rfl) rfl rfl (fun _ => rfl))) ?_
                refine qm_q (i := 1) (l := [.k 3, .o 0]) rfl rfl rfl rfl (by kernel_rfl) rfl (fun He => PV.rq (pv_aidx (i := 0) Try.underlying36 (.ofA ta_35) (fun hg => ⟨rfl, by omega⟩) (.n rfl) rfl rfl rfl (fun _ => ⟨rfl, rfl⟩))) ?_
                refine qm_q (i := 2) (l := [.o 1]) rfl rfl rfl rfl (by kernel_rfl) rfl (fun He => PV.rq (pv_fa fa_35_1 (.n rfl) rfl rfl (fun _ => rfl))) ?_
                refine qm_q (i := 3) (l := [.o 2]) rfl rfl rfl rfl (by kernel_rfl) rfl (fun He => RV.rq (q_ldc tc_3 (.n rfl) rfl rfl (fun _ => rfl) (by rfl))) ?_
                refine qm_q (i := 4) (l := [.k 6]) rfl rfl rfl rfl (by kernel_rfl) rfl (fun He => PV.rq (pv_fa fa_54_2 (.n rfl) rfl rfl (fun _ => rfl))) ?_
                refine qm_q (i := 5) (l := [.o 4]) rfl rfl rfl rfl (by kernel_rfl) rfl (fun He => RV.rq (q_ldc tc_3 (.n rfl) rfl rfl (fun _ => rfl) (by rfl))) ?_
                refine qm_q (i := 6) (l := [.o 3, .o 5]) rfl rfl rfl rfl (by kernel_rfl) rfl (fun He => PV.rq (pv_sub (fun _ => by omega) (.n rfl) rfl rfl rfl (fun _ => ⟨rfl, rfl⟩))) ?_
                refine qm_q (i := 7) (l := [.k 3, .o 0]) rfl rfl rfl rfl (by kernel_rfl) rfl (fun He => PV.rq (pv_aidx (i := 0) Try.underlying36 (.ofA ta_35) (fun hg => ⟨rfl, by omega⟩) (.n rfl) rfl rfl rfl (fun _ => ⟨rfl, rfl⟩))) ?_
                refine qm_q (i := 8) (l := [.o 7]) rfl rfl rfl rfl (by kernel_rfl) rfl (fun He => PV.rq (pv_fa fa_35_1 (.n rfl) rfl rfl (fun _ => rfl))) ?_
                refine qb_store (.ofC tc_3) (i := 9) [.o 8, .o 6] (by kernel_rfl) (by kernel_rfl) rfl rfl rfl (by kernel_rfl) (by kernel_rfl) (by kernel_rfl) ⟨_, .n rfl, rfl⟩ rfl rfl rfl rfl rfl rfl (by repeat constructor) ?_
                refine qm_n (by kernel_rfl) (by kernel_rfl) (by kernel_rfl) (by kernel_rfl) (.c 0 rfl (.c 2 rfl (.c 3 rfl (.c 4 rfl (.c 5 rfl .n))))) ?_
                refine r_end ?_
                refine r_region ?_
                refine p_mv rfl rfl ?_
                refine p_add rfl rfl (by omega) rfl ?_
                refine p_as rfl rfl ?_
                refine o_keep (.c 0 rfl (.c 2 rfl (.c 3 rfl (.c 4 rfl (.c 5 rfl .n))))) ?_
                refine r_back_3 (j + 1) (outH (2 * s.no) (s.holds.take (j + 1))) (inH (2 * s.no) (s.holds.take (j + 1))) ?_ ?_ (Keep.app (.c 5 rfl .n) (.c 0 rfl (.c 2 rfl (.c 3 rfl (.c 4 rfl .n))))) ?_
                · exact ⟨by omega, rfl, rfl⟩
                · omega
                · rw [hta, htb, Int.add_zero, ← Int.sub_eq_add_neg]; refine Ent.c (SelB.ent) ?_; refine Ent.c (SelB.ent) ?_; refine Ent.catI ?_; first | exact Ent.rfl | (repeat (first | exact Ent.rfl | refine Ent.c (SelB.ent) ?_ | refine Ent.c (SelS.ent) ?_ | refine Ent.cN ?_ | refine Ent.c (SelX.ent) ?_ | refine Ent.dropR ?_))
              · skip
                have hng := of_decide_eq_false h4
                rw [if_neg (fun q => hng q.2)] at hta
                rw [if_pos ⟨hcy, hng⟩] at htb
                refine r_plan _ [] mo (.c 0 rfl (.c 2 rfl (.c 3 rfl (.c 4 rfl (.c 5 rfl (.c 6 rfl .n)))))) Ent.rfl ?_
                refine qm_q (i := 0) (l := [.k 4]) rfl rfl rfl rfl (by kernel_rfl) rfl (fun He => PV.rq (pv_mv (.n rfl) rfl rfl (fun _ => rfl))) ?_
                refine qm_q (i := 1) (l := [.k 3, .o 0]) rfl rfl rfl rfl (by kernel_rfl) rfl (fun He => PV.rq (pv_aidx (i := 0) Try.underlying36 (.ofA ta_35) (fun hg => ⟨rfl, by omega⟩) (.n rfl) rfl rfl rfl (fun _ => ⟨rfl, rfl⟩))) ?_
                refine qm_q (i := 2) (l := [.o 1]) rfl rfl rfl rfl (by kernel_rfl) rfl (fun He => PV.rq (pv_fa fa_35_2 (.n rfl) rfl rfl (fun _ => rfl))) ?_
                refine qm_q (i := 3) (l := [.o 2]) rfl rfl rfl rfl (by kernel_rfl) rfl (fun He => RV.rq (q_ldc tc_3 (.n rfl) rfl rfl (fun _ => rfl) (by rfl))) ?_
                refine qm_q (i := 4) (l := [.k 6]) rfl rfl rfl rfl (by kernel_rfl) rfl (fun He => PV.rq (pv_fa fa_54_2 (.n rfl) rfl rfl (fun _ => rfl))) ?_
                refine qm_q (i := 5) (l := [.o 4]) rfl rfl rfl rfl (by kernel_rfl) rfl (fun He => RV.rq (q_ldc tc_3 (.n rfl) rfl rfl (fun _ => rfl) (by rfl))) ?_
                refine qm_q (i := 6) (l := [.o 3, .o 5]) rfl rfl rfl rfl (by kernel_rfl) rfl (fun He => PV.rq (pv_add (fun _ => by omega) (.n rfl) rfl rfl rfl (fun _ => ⟨rfl, rfl⟩))) ?_
                refine qm_q (i := 7) (l := [.k 3, .o 0]) rfl rfl rfl rfl (by kernel_rfl) rfl (fun He => PV.rq (pv_aidx (i := 0) Try.underlying36 (.ofA ta_35) (fun hg => ⟨rfl, by omega⟩) (.n rfl) rfl rfl rfl (fun _ => ⟨rfl, rfl⟩))) ?_
                refine qm_q (i := 8) (l := [.o 7]) rfl rfl rfl rfl (by kernel_rfl) rfl (fun He => PV.rq (pv_fa fa_35_2 (.n rfl) rfl rfl (fun _ => rfl))) ?_
                refine qb_store (.ofC tc_3) (i := 9) [.o 8, .o 6] (by kernel_rfl) (by kernel_rfl) rfl rfl rfl (by kernel_rfl) (by kernel_rfl) (by kernel_rfl) ⟨_, .n rfl, rfl⟩ rfl rfl rfl rfl rfl rfl (by repeat constructor) ?_
                refine qm_n (by kernel_rfl) (by kernel_rfl) (by kernel_rfl) (by kernel_rfl) (.c 0 rfl (.c 2 rfl (.c 3 rfl (.c 4 rfl (.c 5 rfl .n))))) ?_
                refine r_end ?_
                refine r_region ?_
                refine p_mv rfl rfl ?_
                refine p_add rfl rfl (by omega) rfl ?_
                refine p_as rfl rfl ?_
                refine o_keep (.c 0 rfl (.c 2 rfl (.c 3 rfl (.c 4 rfl (.c 5 rfl .n))))) ?_
                refine r_back_3 (j + 1) (outH (2 * s.no) (s.holds.take (j + 1))) (inH (2 * s.no) (s.holds.take (j + 1))) ?_ ?_ (Keep.app (.c 5 rfl .n) (.c 0 rfl (.c 2 rfl (.c 3 rfl (.c 4 rfl .n))))) ?_
                · exact ⟨by omega, rfl, rfl⟩
                · omega
                · rw [hta, htb, Int.add_zero]; refine Ent.c (SelB.ent) ?_; refine Ent.c (SelB.ent) ?_; refine Ent.catI ?_; first | exact Ent.rfl | (repeat (first | exact Ent.rfl | refine Ent.c (SelB.ent) ?_ | refine Ent.c (SelS.ent) ?_ | refine Ent.cN ?_ | refine Ent.c (SelX.ent) ?_ | refine Ent.dropR ?_))
            · skip
              have hcn : ¬ hh0.ctr = 2 * s.no := by simp at h3; omega
              rw [if_neg (fun q => hcn q.1)] at hta htb
              refine r_skip ?_
              refine r_end ?_
              refine r_region ?_
              refine p_mv rfl rfl ?_
              refine p_add rfl rfl (by omega) rfl ?_
              refine p_as rfl rfl ?_
              refine o_keep (.c 0 rfl (.c 2 rfl (.c 3 rfl (.c 4 rfl (.c 5 rfl .n))))) ?_
              refine r_back_3 (j + 1) (outH (2 * s.no) (s.holds.take (j + 1))) (inH (2 * s.no) (s.holds.take (j + 1))) ?_ ?_ (Keep.app (.c 5 rfl .n) (.c 0 rfl (.c 2 rfl (.c 3 rfl (.c 4 rfl .n))))) ?_
              · exact ⟨by omega, rfl, rfl⟩
              · omega
              · rw [hta, htb, Int.add_zero, Int.add_zero]; refine Ent.c (SelB.ent) ?_; refine Ent.c (SelB.ent) ?_; refine Ent.catI ?_; first | exact Ent.rfl | (repeat (first | exact Ent.rfl | refine Ent.c (SelB.ent) ?_ | refine Ent.c (SelS.ent) ?_ | refine Ent.cN ?_ | refine Ent.c (SelX.ent) ?_ | refine Ent.dropR ?_))
          · skip
            have hj : s.holds.length ≤ j := by have := of_decide_eq_false h2; omega
            rw [List.take_of_length_le hj, ← hS.o0, ← hS.i0]
            refine r_exit rfl ?_
            refine r_end ?_
            refine r_region ?_
            refine p_mv rfl rfl ?_
            refine p_add rfl rfl (by omega) rfl ?_
            refine p_as rfl rfl ?_
            refine o_keep (.c 0 rfl (.c 2 rfl (.c 3 rfl (.c 4 rfl .n)))) ?_
            refine r_back_2 (1) (cntL s.c0 ++ [.int .i64 0, .int .i64 0, .int .i64 0]) ?_ ?_ (Keep.app (.c 4 rfl .n) (.c 0 rfl (.c 2 rfl (.c 3 rfl .n)))) ?_
            · exact .inr (.inl ⟨rfl, rfl⟩)
            · omega
            · refine Ent.c (SelB.ent) ?_; refine Ent.c (SelB.ent) ?_; refine Ent.catI ?_; first | exact Ent.rfl | (repeat (first | exact Ent.rfl | refine Ent.c (SelB.ent) ?_ | refine Ent.c (SelS.ent) ?_ | refine Ent.cN ?_ | refine Ent.c (SelX.ent) ?_ | refine Ent.dropR ?_))
      · skip
        refine r_region ?_
        refine p_mv rfl rfl ?_
        refine p_mv rfl rfl ?_
        refine p_mv rfl rfl ?_
        refine p_nil rfl rfl ?_
        refine p_fa fa_64_1 rfl rfl ?_
        refine l_op (x_p (pv_aidx (i := 1) Try.underlying61 (.ofC tc_3) (fun hg => ⟨rfl, by omega⟩) (.n rfl) rfl rfl rfl (fun _ => ⟨rfl, rfl⟩)) rfl rfl ?_)
        refine l_op (x_r (q_ldc tc_3 (.n rfl) rfl rfl (fun _ => rfl) (by rfl)) rfl rfl ?_)
        refine l_op (x_p (pv_aidx (i := 1) Try.underlying36 (.ofA ta_35) (fun hg => ⟨rfl, by omega⟩) (.n rfl) rfl rfl rfl (fun _ => ⟨rfl, rfl⟩)) rfl rfl ?_)
        refine p_fa fa_35_0 rfl rfl ?_
        refine p_store (.ofC tc_3) rfl rfl rfl rfl rfl (by repeat constructor) ?_
        refine o_keep (.c 0 rfl (.c 2 rfl (.c 3 rfl (.c 4 rfl .n)))) ?_
        refine r_seq ?_
        refine r_region ?_
        refine p_as rfl rfl ?_
        refine o_keep (.c 0 rfl (.c 2 rfl (.c 3 rfl (.c 4 rfl (.c 5 rfl .n))))) ?_
        refine r_block ?_
        refine r_loop_3 (fun (j : Nat) (o n : Int) => [(5, true, .int .i64 (j : Int))]) (.c 0 rfl (.c 2 rfl (.c 3 rfl (.c 4 rfl .n)))) (fun (j : Nat) (o n : Int) => blk b3 (cntL s.c0 ++ [.int .i64 s.c1.v, .int .i64 o, .int .i64 n]) 36 :: blk b2 ([.int .i64 0, .int .i64 0, .int .i64 0] ++ [.int .i64 0, .int .i64 0, .int .i64 0]) 36 :: (boL b s hv ov dv ++ R)) (fun (j : Nat) (o n : Int) => j ≤ s.holds.length ∧ o = outH (2 * s.no + 1) (s.holds.take j) ∧ n = inH (2 * s.no + 1) (s.holds.take j)) (fun (j : Nat) (o n : Int) => s.holds.length - j) (0) (0) (0) ?_ (.c 5 rfl .n) ?_ (fun j o n hI => ?_)
        · exact ⟨Nat.zero_le _, rfl, rfl⟩
        · refine Ent.c (SelB.ent) ?_; refine Ent.c (SelB.ent) ?_; refine Ent.catI ?_; first | exact Ent.rfl | (repeat (first | exact Ent.rfl | refine Ent.c (SelB.ent) ?_ | refine Ent.c (SelS.ent) ?_ | refine Ent.cN ?_ | refine Ent.c (SelX.ent) ?_ | refine Ent.dropR ?_))
        · skip
          obtain ⟨hjl, rfl, rfl⟩ := hI
          refine r_cat2 ?_
          refine r_seq ?_
          refine r_seq ?_
          refine r_region ?_
          refine p_mv rfl rfl ?_
          refine p_mv rfl rfl ?_
          refine p_nil rfl rfl ?_
          refine p_fa fa_64_2 rfl rfl ?_
          refine p_ldc tc_45 rfl (by rfl) rfl ?_
          refine l_op (x_p (pv_lens (Rd.len hrh) ⟨_, Try.underlying45⟩ (.n rfl) rfl rfl rfl rfl (fun _ => rfl)) rfl rfl ?_)
          refine p_lss rfl rfl rfl ?_
          refine o_keep (.c 0 rfl (.c 2 rfl (.c 3 rfl (.c 4 rfl (.c 5 rfl (.c 26 rfl .n)))))) ?_
          refine r_cond _ rfl (fun h5 => ?_) (fun h5 => ?_)
          · skip
            have hj : j < s.holds.length := by have := of_decide_eq_true h5; omega
            obtain ⟨hh0, hh⟩ := getlt hj
            obtain ⟨hta, htb⟩ := outH_take hh (2 * s.no + 1)
            have hdl0 := hS.dl hh0 (List.mem_of_getElem? hh)
            have hbo := outH_le (l := s.holds.take j) (fun y hy => hS.dl y (List.mem_of_mem_take hy)) (2 * s.no + 1)
            have hbn := outH_nn (2 * s.no + 1) (s.holds.take j)
            have hbm := inH_nn (2 * s.no + 1) (s.holds.take j)
            have htl := take_len (l := s.holds) (i := j) (by omega)
            refine r_skip ?_
            refine r_seq ?_
            refine r_block ?_
            refine r_seq ?_
            refine r_region ?_
            refine p_mv rfl rfl ?_
            refine p_nil rfl rfl ?_
            refine p_fa fa_64_2 rfl rfl ?_
            refine p_ldc tc_45 rfl (by rfl) rfl ?_
            refine p_mv rfl rfl ?_
            refine p_idx Try.underlying45 (.ofA ta_54) hrh rfl (mapget hh) rfl rfl rfl ?_
            refine p_ldats 0 ta_54 (Rd.ent hrh (by repeat (first | exact Ent.rfl | exact Ent.one Ent.h | exact Ent.one (SelS.ent) | exact Ent.nil | exact Ent.left | refine Ent.dropR ?_ | refine Ent.tr Ent.skip ?_))) (mapget hh) rfl rfl (.s (.s (.s .z))) rfl ?_
            refine p_alloc zr_54 rfl fun b6 => ?_
            refine p_store (.ofA ta_54) rfl rfl rfl (by first | rfl | exact rfl) (by first | rfl | exact rfl) (Ins.whole (by first | rfl | (simp only [List.length_map, List.length_cons, List.length_nil]; omega) | (simp [*]; done) | (simp [*]; rfl))) ?_
            refine o_keep (.c 0 rfl (.c 2 rfl (.c 3 rfl (.c 4 rfl (.c 5 rfl (.c 6 rfl .n)))))) ?_
            refine r_seq ?_
            refine r_plan _ [] mo (.c 0 rfl (.c 2 rfl (.c 3 rfl (.c 4 rfl (.c 5 rfl (.c 6 rfl .n)))))) Ent.rfl ?_
            refine qm_q (i := 0) (l := [.k 6]) rfl rfl rfl rfl (by kernel_rfl) rfl (fun He => PV.rq (pv_fa fa_54_1 (.n rfl) rfl rfl (fun _ => rfl))) ?_
            refine qm_q (i := 1) (l := [.o 0]) rfl rfl rfl rfl (by kernel_rfl) rfl (fun He => RV.rq (q_ldc tc_3 (.n rfl) rfl rfl (fun _ => rfl) (by rfl))) ?_
            refine qm_q (i := 2) (l := [.k 0]) rfl rfl rfl rfl (by kernel_rfl) rfl (fun He => PV.rq (pv_mv (.n rfl) rfl rfl (fun _ => rfl))) ?_
            refine qm_q (i := 3) (l := [.o 2]) rfl rfl rfl rfl (by kernel_rfl) rfl (fun He => PV.rq (pv_nilp (.n rfl) rfl rfl (fun _ => rfl))) ?_
            refine qm_q (i := 4) (l := [.o 3]) rfl rfl rfl rfl (by kernel_rfl) rfl (fun He => PV.rq (pv_fa fa_64_0 (.n rfl) rfl rfl (fun _ => rfl))) ?_
            refine qm_q (i := 5) (l := [.o 4]) rfl rfl rfl rfl (by kernel_rfl) rfl (fun He => RV.rq (q_ldc tc_3 (.n rfl) rfl rfl (fun _ => rfl) (by rfl))) ?_
            refine qm_q (i := 6) (l := [.o 5]) rfl rfl rfl rfl (by kernel_rfl) rfl (fun He => PV.rq (pv_mul (fun _ => by omega) (.n rfl) rfl rfl rfl (fun _ => ⟨rfl, rfl⟩))) ?_
            refine qm_q (i := 7) (l := [.k 4]) rfl rfl rfl rfl (by kernel_rfl) rfl (fun He => PV.rq (pv_mv (.n rfl) rfl rfl (fun _ => rfl))) ?_
            refine qm_q (i := 8) (l := [.o 6, .o 7]) rfl rfl rfl rfl (by kernel_rfl) rfl (fun He => PV.rq (pv_add (fun _ => by omega) (.n rfl) rfl rfl rfl (fun _ => ⟨rfl, rfl⟩))) ?_
            refine qm_q (i := 9) (l := [.o 1, .o 8]) rfl rfl rfl rfl (by kernel_rfl) rfl (fun He => PV.rq (pv_eql (.n rfl) rfl rfl rfl (fun _ => ⟨rfl, rfl⟩))) ?_
            refine qm_n (by kernel_rfl) (by kernel_rfl) (by kernel_rfl) (by kernel_rfl) (.c 0 rfl (.c 2 rfl (.c 3 rfl (.c 4 rfl (.c 5 rfl (.c 6 rfl (.c 45 rfl .n))))))) ?_
            refine r_cond _ rfl (fun h6 => ?_) (fun h6 => ?_)
            · skip
              have hcy : hh0.ctr = 2 * s.no + 1 := by simp at h6; omega
              refine r_seq ?_
              refine r_region ?_
              refine p_fa fa_54_2 rfl rfl ?_
              refine p_ldc tc_3 rfl (by rfl) rfl ?_
              refine p_lss rfl rfl rfl ?_
              refine o_keep (.c 0 rfl (.c 2 rfl (.c 3 rfl (.c 4 rfl (.c 5 rfl (.c 6 rfl (.c 48 rfl .n))))))) ?_
              refine r_cond _ rfl (fun h7 => ?_) (fun h7 => ?_)
              · skip
                have hng := of_decide_eq_true h7
                rw [if_pos ⟨hcy, hng⟩] at hta
                rw [if_neg (fun q => q.2 hng)] at htb
                refine r_plan _ [] mo (.c 0 rfl (.c 2 rfl (.c 3 rfl (.c 4 rfl (.c 5 rfl (.c 6 rfl .n)))))) Ent.rfl ?_
                refine qm_q (i := 0) (l := [.k 4]) rfl rfl rfl rfl (by kernel_rfl) rfl (fun He => PV.rq (pv_mv (.n rfl) rfl rfl (fun _ => rfl))) ?_
                refine qm_q (i := 1) (l := [.k 3, .o 0]) rfl rfl rfl rfl (by kernel_rfl) rfl (fun He => PV.rq (pv_aidx (i := 1) Try.underlying36 (.ofA ta_35) (fun hg => ⟨rfl, by omega⟩) (.n rfl) rfl rfl rfl (fun _ => ⟨rfl, rfl⟩))) ?_
                refine qm_q (i := 2) (l := [.o 1]) rfl rfl rfl rfl (by kernel_rfl) rfl (fun He => PV.rq (pv_fa fa_35_1 (.n rfl) rfl rfl (fun _ => rfl))) ?_
                refine qm_q (i := 3) (l := [.o 2]) rfl rfl rfl rfl (by kernel_rfl) rfl (fun He => RV.rq (q_ldc tc_3 (.n rfl) rfl rfl (fun _ => rfl) (by rfl))) ?_
                refine qm_q (i := 4) (l := [.k 6]) rfl rfl rfl rfl (by kernel_rfl) rfl (fun He => PV.rq (pv_fa fa_54_2 (.n rfl) rfl rfl (fun _ => rfl))) ?_
                refine qm_q (i := 5) (l := [.o 4]) rfl rfl rfl rfl (by kernel_rfl) rfl (fun He => RV.rq (q_ldc tc_3 (.n rfl) rfl rfl (fun _ => rfl) (by rfl))) ?_
                refine qm_q (i := 6) (l := [.o 3, .o 5]) rfl rfl rfl rfl (by kernel_rfl) rfl (fun He => PV.rq (pv_sub (fun _ => by omega) (.n rfl) rfl rfl rfl (fun _ => ⟨rfl, rfl⟩))) ?_
                refine qm_q (i := 7) (l := [.k 3, .o 0]) rfl rfl rfl rfl (by kernel_rfl) rfl (fun He => PV.rq (pv_aidx (i := 1) Try.underlying36 (.ofA ta_35) (fun hg => ⟨rfl, by omega⟩) (.n rfl) rfl rfl rfl (fun _ => ⟨rfl, rfl⟩))) ?_
                refine qm_q (i := 8) (l := [.o 7]) rfl rfl rfl rfl (by kernel_rfl) rfl (fun He => PV.rq (pv_fa fa_35_1 (.n rfl) rfl rfl (fun _ => rfl))) ?_
                refine qb_store (.ofC tc_3) (i := 9) [.o 8, .o 6] (by kernel_rfl) (by kernel_rfl) rfl rfl rfl (by kernel_rfl) (by kernel_rfl) (by kernel_rfl) ⟨_, .n rfl, rfl⟩ rfl rfl rfl rfl rfl rfl (by repeat constructor) ?_
                refine qm_n (by kernel_rfl) (by kernel_rfl) (by kernel_rfl) (by kernel_rfl) (.c 0 rfl (.c 2 rfl (.c 3 rfl (.c 4 rfl (.c 5 rfl .n))))) ?_
                refine r_end ?_
                refine r_region ?_
                refine p_mv rfl rfl ?_
                refine p_add rfl rfl (by omega) rfl ?_
                refine p_as rfl rfl ?_
                refine o_keep (.c 0 rfl (.c 2 rfl (.c 3 rfl (.c 4 rfl (.c 5 rfl .n))))) ?_
                refine r_back_3 (j + 1) (outH (2 * s.no + 1) (s.holds.take (j + 1))) (inH (2 * s.no + 1) (s.holds.take (j + 1))) ?_ ?_ (Keep.app (.c 5 rfl .n) (.c 0 rfl (.c 2 rfl (.c 3 rfl (.c 4 rfl .n))))) ?_
                · exact ⟨by omega, rfl, rfl⟩
                · omega
                · rw [hta, htb, Int.add_zero, ← Int.sub_eq_add_neg]; refine Ent.c (SelB.ent) ?_; refine Ent.c (SelB.ent) ?_; refine Ent.catI ?_; first | exact Ent.rfl | (repeat (first | exact Ent.rfl | refine Ent.c (SelB.ent) ?_ | refine Ent.c (SelS.ent) ?_ | refine Ent.cN ?_ | refine Ent.c (SelX.ent) ?_ | refine Ent.dropR ?_))
              · skip
                have hng := of_decide_eq_false h7
                rw [if_neg (fun q => hng q.2)] at hta
                rw [if_pos ⟨hcy, hng⟩] at htb
                refine r_plan _ [] mo (.c 0 rfl (.c 2 rfl (.c 3 rfl (.c 4 rfl (.c 5 rfl (.c 6 rfl .n)))))) Ent.rfl ?_
                refine qm_q (i := 0) (l := [.k 4]) rfl rfl rfl rfl (by kernel_rfl) rfl (fun He => PV.rq (pv_mv (.n rfl) rfl rfl (fun _ => rfl))) ?_
                refine qm_q (i := 1) (l := [.k 3, .o 0]) rfl rfl rfl rfl (by kernel_rfl) rfl (fun He => PV.rq (pv_aidx (i := 1) Try.underlying36 (.ofA ta_35) (fun hg => ⟨rfl, by omega⟩) (.n rfl) rfl rfl rfl (fun _ => ⟨rfl, rfl⟩))) ?_
                refine qm_q (i := 2) (l := [.o 1]) rfl rfl rfl rfl (by kernel_rfl) rfl (fun He => PV.rq (pv_fa fa_35_2 (.n rfl) rfl rfl (fun _ => rfl))) ?_
                refine qm_q (i := 3) (l := [.o 2]) rfl rfl rfl rfl (by kernel_rfl) rfl (fun He => RV.rq (q_ldc tc_3 (.n rfl) rfl rfl (fun _ => rfl) (by rfl))) ?_
                refine qm_q (i := 4) (l := [.k 6]) rfl rfl rfl rfl (by kernel_rfl) rfl (fun He => PV.rq (pv_fa fa_54_2 (.n rfl) rfl rfl (fun _ => rfl))) ?_
                refine qm_q (i := 5) (l := [.o 4]) rfl rfl rfl rfl (by kernel_rfl) rfl (fun He => RV.rq (q_ldc tc_3 (.n rfl) rfl rfl (fun _ => rfl) (by rfl))) ?_
                refine qm_q (i := 6) (l := [.o 3, .o 5]) rfl rfl rfl rfl (by kernel_rfl) rfl (fun He => PV.rq (pv_add (fun _ => by omega) (.n rfl) rfl rfl rfl (fun _ => ⟨rfl, rfl⟩))) ?_
                refine qm_q (i := 7) (l := [.k 3, .o 0]) rfl rfl rfl rfl (by kernel_rfl) rfl (fun He => PV.rq (pv_aidx (i := 1) Try.underlying36 (.ofA ta_35) (fun hg => ⟨rfl, by omega⟩) (.n rfl) rfl rfl rfl (fun _ => ⟨rfl, rfl⟩))) ?_
                refine qm_q (i := 8) (l := [.o 7]) rfl rfl rfl rfl (by kernel_rfl) rfl (fun He => PV.rq (pv_fa fa_35_2 (.n rfl) rfl rfl (fun _ => rfl))) ?_
                refine qb_store (.ofC tc_3) (i := 9) [.o 8, .o 6] (by kernel_rfl) (by kernel_rfl) rfl rfl rfl (by kernel_rfl) (by kernel_rfl) (by kernel_rfl) ⟨_, .n rfl, rfl⟩ rfl rfl rfl rfl rfl rfl (by repeat constructor) ?_
                refine qm_n (by kernel_rfl) (by kernel_rfl) (by kernel_rfl) (by kernel_rfl) (.c 0 rfl (.c 2 rfl (.c 3 rfl (.c 4 rfl (.c 5 rfl .n))))) ?_
                refine r_end ?_
                refine r_region ?_
                refine p_mv rfl rfl ?_
                refine p_add rfl rfl (by omega) rfl ?_
                refine p_as rfl rfl ?_
                refine o_keep (.c 0 rfl (.c 2 rfl (.c 3 rfl (.c 4 rfl (.c 5 rfl .n))))) ?_
                refine r_back_3 (j + 1) (outH (2 * s.no + 1) (s.holds.take (j + 1))) (inH (2 * s.no + 1) (s.holds.take (j + 1))) ?_ ?_ (Keep.app (.c 5 rfl .n) (.c 0 rfl (.c 2 rfl (.c 3 rfl (.c 4 rfl .n))))) ?_
                · exact ⟨by omega, rfl, rfl⟩
                · omega
                · rw [hta, htb, Int.add_zero]; refine Ent.c (SelB.ent) ?_; refine Ent.c (SelB.ent) ?_; refine Ent.catI ?_; first | exact Ent.rfl | (repeat (first | exact Ent.rfl | refine Ent.c (SelB.ent) ?_ | refine Ent.c (SelS.ent) ?_ | refine Ent.cN ?_ | refine Ent.c (SelX.ent) ?_ | refine Ent.dropR ?_))
            · skip
              have hcn : ¬ hh0.ctr = 2 * s.no + 1 := by simp at h6; omega
              rw [if_neg (fun q => hcn q.1)] at hta htb
              refine r_skip ?_
              refine r_end ?_
              refine r_region ?_
              refine p_mv rfl rfl ?_
              refine p_add rfl rfl (by omega) rfl ?_
              refine p_as rfl rfl ?_
              refine o_keep (.c 0 rfl (.c 2 rfl (.c 3 rfl (.c 4 rfl (.c 5 rfl .n))))) ?_
              refine r_back_3 (j + 1) (outH (2 * s.no + 1) (s.holds.take (j + 1))) (inH (2 * s.no + 1) (s.holds.take (j + 1))) ?_ ?_ (Keep.app (.c 5 rfl .n) (.c 0 rfl (.c 2 rfl (.c 3 rfl (.c 4 rfl .n))))) ?_
              · exact ⟨by omega, rfl, rfl⟩
              · omega
              · rw [hta, htb, Int.add_zero, Int.add_zero]; refine Ent.c (SelB.ent) ?_; refine Ent.c (SelB.ent) ?_; refine Ent.catI ?_; first | exact Ent.rfl | (repeat (first | exact Ent.rfl | refine Ent.c (SelB.ent) ?_ | refine Ent.c (SelS.ent) ?_ | refine Ent.cN ?_ | refine Ent.c (SelX.ent) ?_ | refine Ent.dropR ?_))
          · skip
            have hj : s.holds.length ≤ j := by have := of_decide_eq_false h5; omega
            rw [List.take_of_length_le hj, ← hS.o1, ← hS.i1]
            refine r_exit rfl ?_
            refine r_end ?_
            refine r_region ?_
            refine p_mv rfl rfl ?_
            refine p_add rfl rfl (by omega) rfl ?_
            refine p_as rfl rfl ?_
            refine o_keep (.c 0 rfl (.c 2 rfl (.c 3 rfl (.c 4 rfl .n)))) ?_
            refine r_back_2 (2) (cntL s.c0 ++ cntL s.c1) ?_ ?_ (Keep.app (.c 4 rfl .n) (.c 0 rfl (.c 2 rfl (.c 3 rfl .n)))) ?_
            · exact .inr (.inr ⟨rfl, rfl⟩)
            · omega
            · refine Ent.c (SelB.ent) ?_; refine Ent.c (SelB.ent) ?_; refine Ent.catI ?_; first | exact Ent.rfl | (repeat (first | exact Ent.rfl | refine Ent.c (SelB.ent) ?_ | refine Ent.c (SelS.ent) ?_ | refine Ent.cN ?_ | refine Ent.c (SelX.ent) ?_ | refine Ent.dropR ?_))
    · skip
      have hk2 : ¬ k < 2 := by have := of_decide_eq_false h1; omega
      obtain ⟨rfl, rfl⟩ : k = 2 ∧ cs = cntL s.c0 ++ cntL s.c1 := by rcases hI with h | h | h; omega; omega; exact h
      refine r_exit rfl ?_
      refine r_seq ?_
      refine r_region ?_
      refine p_lda ta_36 rfl (by exact (Tk.all rfl)) rfl ?_
      refine p_store (.ofA ta_36) rfl rfl rfl (by first | rfl | exact rfl) (by first | rfl | exact rfl) (Ins.whole (by first | rfl | (simp only [List.length_map, List.length_cons, List.length_nil]; omega) | (simp [*]; done) | (simp [*]; rfl))) ?_
      refine o_keep (.c 2 rfl .n) ?_
      refine r_retv hF rfl (.c (.a rfl ta_36 (.blk (SelB.ent) (Tk.all rfl)) rfl) .n) ?_ ?_
      · refine Ent.catI ?_; first | exact Ent.rfl | (repeat (first | exact Ent.rfl | refine Ent.c (SelB.ent) ?_ | refine Ent.c (SelS.ent) ?_ | refine Ent.cN ?_ | refine Ent.c (SelX.ent) ?_ | refine Ent.dropR ?_))
      · rfl

theorem booth_Counts (M : Amb) (b : Nat) (s : ShopS) (hS : ShInv s) : FnC Try.prog M 26 [ptr b] (.agg (cntL s.c0 ++ cntL s.c1).toArray) [boothP b s] [boothP b s] :=
  FnC.ex3 fun hv ov dv => booth_Counts_o M b s hS hv ov dv

theorem booth_Hold (M : Amb) (b : Nat) (s : ShopS) (hS : ShInv s) (d : Int) (w : Want) : FnC Try.prog M 94 [ptr b, .int .i64 d, .agg (rW w).toArray] (.int .i64 (holdS s d w).2) [boothP b s] [boothP b (holdS s d w).1] := by
  have hh1 := hS.holds_le
  have hh2 := hS.over_le
  have hno0 := hS.no0
  have hno3 := hS.no3
  refine fnc_intro Try.func94 rfl Try.ntmps94 rfl fun R F hF => ?_
  refine r_cat ?_
  refine r_ex3 fun hv ov dv => ?_
  refine r_cat ?_
  refine r_rd hv fun hrh => ?_
  refine r_rd ov fun hro => ?_
  refine r_rd dv fun hrd => ?_
  refine r_seq ?_
  refine r_region ?_
  refine p_box rfl rfl rfl fun b5 => ?_
  refine p_as rfl rfl ?_
  refine o_keep (.c 0 rfl (.c 1 rfl (.c 5 rfl (.c 6 rfl .n)))) ?_
  refine r_seq ?_
  refine r_seq ?_
  refine r_region ?_
  refine p_mv rfl rfl ?_
  refine p_lss rfl rfl rfl ?_
  refine p_mv rfl rfl ?_
  refine l_op (x_p (pv_mv (.s rfl rfl rfl) rfl rfl (by first | exact fun _ => rfl | exact id | exact fun h => (Bool.and_eq_true_iff.1 h).1 | simp_all)) rfl rfl ?_)
  refine l_op (x_p (pv_geq (.s rfl rfl rfl) rfl rfl rfl (by refine fun h => ⟨?_, ?_⟩ <;> first | rfl | exact h | exact (Bool.and_eq_true_iff.1 h).1 | simp_all)) rfl rfl ?_)
  refine l_op (x_p (pv_or (.n rfl) rfl rfl rfl (fun _ => ⟨rfl, fun hc => by first | rfl | (rw [hc]; rfl) | simp_all⟩)) rfl rfl ?_)
  refine o_keep (.c 0 rfl (.c 1 rfl (.c 5 rfl (.c 6 rfl (.c 19 rfl .n))))) ?_
  refine r_cond _ rfl (fun h1 => ?_) (fun h1 => ?_)
  · try simp only [Bool.and_eq_true, Bool.or_eq_true, Bool.or_eq_false_iff, Bool.not_eq_true', Bool.not_eq_false', decide_eq_true_eq, decide_eq_false_iff_not, Bool.and_eq_false_iff] at h1
    have hs := holdS_1 (s := s) (w := w) h1
    refine r_seq ?_
    refine r_region ?_
    refine p_as rfl rfl ?_
    refine o_keep (.c 0 rfl (.c 1 rfl (.c 5 rfl (.c 6 rfl .n)))) ?_
    refine r_retv hF rfl (.c (.t rfl) .n) ?_ ?_
    · refine Ent.catI ?_; rw [hs]; refine Ent.c (boothP_close hv ov dv rfl rfl rfl rfl) ?_; first | exact Ent.rfl | (repeat (first | exact Ent.rfl | refine Ent.c (SelB.ent) ?_ | refine Ent.c (SelS.ent) ?_ | refine Ent.cN ?_ | refine Ent.c (SelX.ent) ?_ | refine Ent.dropR ?_))
    · rw [hs]; rfl
  · try simp only [Bool.and_eq_true, Bool.or_eq_true, Bool.or_eq_false_iff, Bool.not_eq_true', Bool.not_eq_false', decide_eq_true_eq, decide_eq_false_iff_not, Bool.and_eq_false_iff] at h1
    have hd : ¬ (d < 0 ∨ 8 ≤ d) := by omega
    refine r_skip ?_
    refine r_seq ?_
    refine r_seq ?_
    refine r_region ?_
    refine p_lda ta_29 rfl (by exact (.s (.s .z))) rfl ?_
    refine p_callv cf_103 (.c rfl .n) rfl (ref_WantFault _ _ w) ?_
    refine p_as rfl rfl ?_
    refine o_keep (.c 0 rfl (.c 1 rfl (.c 5 rfl (.c 6 rfl (.c 7 rfl .n))))) ?_
    refine r_seq ?_
    refine r_region ?_
    refine p_mv rfl rfl ?_
    refine p_neq rfl rfl rfl ?_
    refine o_keep (.c 0 rfl (.c 1 rfl (.c 5 rfl (.c 6 rfl (.c 7 rfl (.c 23 rfl .n)))))) ?_
    refine r_cond _ rfl (fun h2 => ?_) (fun h2 => ?_)
    · try simp only [Bool.and_eq_true, Bool.or_eq_true, Bool.or_eq_false_iff, Bool.not_eq_true', Bool.not_eq_false', decide_eq_true_eq, decide_eq_false_iff_not, Bool.and_eq_false_iff] at h2
      have hs := holdS_2 (s := s) hd h2
      refine r_seq ?_
      refine r_region ?_
      refine p_mv rfl rfl ?_
      refine p_as rfl rfl ?_
      refine o_keep (.c 0 rfl (.c 1 rfl (.c 5 rfl (.c 6 rfl .n)))) ?_
      refine r_retv hF rfl (.c (.t rfl) .n) ?_ ?_
      · refine Ent.catI ?_; rw [hs]; refine Ent.c (boothP_close hv ov dv rfl rfl rfl rfl) ?_; first | exact Ent.rfl | (repeat (first | exact Ent.rfl | refine Ent.c (SelB.ent) ?_ | refine Ent.c (SelS.ent) ?_ | refine Ent.cN ?_ | refine Ent.c (SelX.ent) ?_ | refine Ent.dropR ?_))
      · rw [hs]; rfl
    · try simp only [Bool.and_eq_true, Bool.or_eq_true, Bool.or_eq_false_iff, Bool.not_eq_true', Bool.not_eq_false', decide_eq_true_eq, decide_eq_false_iff_not, Bool.and_eq_false_iff] at h2
      have hw0 : wantF w = 0 := by omega
      have hwk := wantF_ok hw0
      refine r_skip ?_
      refine r_seq ?_
      refine r_seq ?_
      refine r_plan _ [] mo (.c 0 rfl (.c 1 rfl (.c 5 rfl (.c 6 rfl .n)))) Ent.rfl ?_
      refine qm_q (i := 0) (l := [.k 5]) rfl rfl rfl rfl (by kernel_rfl) rfl (fun He => PV.rq (pv_fa fa_29_0 (.n rfl) rfl rfl (fun _ => rfl))) ?_
      refine qm_q (i := 1) (l := [.o 0]) rfl rfl rfl rfl (by kernel_rfl) rfl (fun He => RV.rq (q_ldc tc_3 (.n rfl) rfl rfl (fun _ => rfl) (by rfl))) ?_
      refine qm_q (i := 2) (l := [.o 1]) rfl rfl rfl rfl (by kernel_rfl) rfl (fun He => rq_call cf_48 (.n rfl) rfl (.c rfl (fun _ => rfl) .n) (fun hg => ref_ShopOf _ _ _)) ?_
      refine qm_q (i := 3) (l := [.k 0]) rfl rfl rfl rfl (by kernel_rfl) rfl (fun He => PV.rq (pv_mv (.n rfl) rfl rfl (fun _ => rfl))) ?_
      refine qm_q (i := 4) (l := [.o 3]) rfl rfl rfl rfl (by kernel_rfl) rfl (fun He => PV.rq (pv_nilp (.n rfl) rfl rfl (fun _ => rfl))) ?_
      refine qm_q (i := 5) (l := [.o 4]) rfl rfl rfl rfl (by kernel_rfl) rfl (fun He => PV.rq (pv_fa fa_64_0 (.n rfl) rfl rfl (fun _ => rfl))) ?_
      refine qm_q (i := 6) (l := [.o 5]) rfl rfl rfl rfl (by kernel_rfl) rfl (fun He => RV.rq (q_ldc tc_3 (.n rfl) rfl rfl (fun _ => rfl) (by rfl))) ?_
      refine qm_q (i := 7) (l := [.o 2, .o 6]) rfl rfl rfl rfl (by kernel_rfl) rfl (fun He => PV.rq (pv_neq (.n rfl) rfl rfl rfl (fun _ => ⟨rfl, rfl⟩))) ?_
      refine qm_n (by kernel_rfl) (by kernel_rfl) (by kernel_rfl) (by kernel_rfl) (.c 0 rfl (.c 1 rfl (.c 5 rfl (.c 6 rfl (.c 32 rfl .n))))) ?_
      refine r_cond _ rfl (fun h3 => ?_) (fun h3 => ?_)
      · try simp only [Bool.and_eq_true, Bool.or_eq_true, Bool.or_eq_false_iff, Bool.not_eq_true', Bool.not_eq_false', decide_eq_true_eq, decide_eq_false_iff_not, Bool.and_eq_false_iff] at h3
        have hs := holdS_3 hd hw0 h3
        refine r_seq ?_
        refine r_region ?_
        refine p_as rfl rfl ?_
        refine o_keep (.c 0 rfl (.c 1 rfl (.c 5 rfl (.c 6 rfl .n)))) ?_
        refine r_retv hF rfl (.c (.t rfl) .n) ?_ ?_
        · refine Ent.catI ?_; rw [hs]; refine Ent.c (boothP_close hv ov dv rfl rfl rfl rfl) ?_; first | exact Ent.rfl | (repeat (first | exact Ent.rfl | refine Ent.c (SelB.ent) ?_ | refine Ent.c (SelS.ent) ?_ | refine Ent.cN ?_ | refine Ent.c (SelX.ent) ?_ | refine Ent.dropR ?_))
        · rw [hs]; rfl
      · try simp only [Bool.and_eq_true, Bool.or_eq_true, Bool.or_eq_false_iff, Bool.not_eq_true', Bool.not_eq_false', decide_eq_true_eq, decide_eq_false_iff_not, Bool.and_eq_false_iff] at h3
        have hsh : shopOf w.ctr = s.no := by omega
        have hso := shopOf_ok (c := w.ctr) (by omega) (by omega)
        refine r_skip ?_
        refine r_seq ?_
        refine r_seq ?_
        refine r_region ?_
        refine p_mv rfl rfl ?_
        refine p_mv rfl rfl ?_
        refine p_callv cf_104 (.c rfl (.c rfl .n)) rfl ((booth_Over_o _ b s hv ov dv (by omega) d).q) ?_
        refine p_mv rfl rfl ?_
        refine p_ext rfl rfl rfl ?_
        refine p_ext rfl rfl rfl ?_
        refine p_as rfl rfl ?_
        refine p_as rfl rfl ?_
        refine o_keep (.c 0 rfl (.c 1 rfl (.c 5 rfl (.c 6 rfl (.c 8 rfl .n))))) ?_
        refine r_seq ?_
        refine r_region ?_
        refine p_mv rfl rfl ?_
        refine o_keep (.c 0 rfl (.c 1 rfl (.c 5 rfl (.c 6 rfl (.c 39 rfl .n))))) ?_
        refine r_cond _ rfl (fun h4 => ?_) (fun h4 => ?_)
        · try simp only [Bool.and_eq_true, Bool.or_eq_true, Bool.or_eq_false_iff, Bool.not_eq_true', Bool.not_eq_false', decide_eq_true_eq, decide_eq_false_iff_not, Bool.and_eq_false_iff] at h4
          have hs := holdS_4 hd hw0 hsh (by simpa using h4)
          refine r_seq ?_
          refine r_region ?_
          refine p_as rfl rfl ?_
          refine o_keep (.c 0 rfl (.c 1 rfl (.c 5 rfl (.c 6 rfl .n)))) ?_
          refine r_retv hF rfl (.c (.t rfl) .n) ?_ ?_
          · refine Ent.catI ?_; rw [hs]; refine Ent.c (boothP_close hv ov dv rfl rfl rfl rfl) ?_; first | exact Ent.rfl | (repeat (first | exact Ent.rfl | refine Ent.c (SelB.ent) ?_ | refine Ent.c (SelS.ent) ?_ | refine Ent.cN ?_ | refine Ent.c (SelX.ent) ?_ | refine Ent.dropR ?_))
          · rw [hs]; rfl
        · try simp only [Bool.and_eq_true, Bool.or_eq_true, Bool.or_eq_false_iff, Bool.not_eq_true', Bool.not_eq_false', decide_eq_true_eq, decide_eq_false_iff_not, Bool.and_eq_false_iff] at h4
          have hov : overL s.over d = none := by simpa using h4
          refine r_skip ?_
          refine r_seq ?_
          refine r_region ?_
          refine p_mv rfl rfl ?_
          refine p_fa fa_29_0 rfl rfl ?_
          refine p_ldc tc_3 rfl (by rfl) rfl ?_
          refine p_fa fa_29_1 rfl rfl ?_
          refine p_ldc tc_3 rfl (by rfl) rfl ?_
          refine p_build zr_54 pl_54 (.c rfl (fun _ => rfl) rfl rfl rfl (by repeat constructor) (.c rfl (fun _ => rfl) rfl rfl rfl (by repeat constructor) (.c rfl (fun _ => rfl) rfl rfl rfl (by repeat constructor) .n))) rfl ?_
          refine p_alloc zr_54 rfl fun b10 => ?_
          refine p_store (.ofA ta_54) rfl rfl rfl (by first | rfl | exact rfl) (by first | rfl | exact rfl) (Ins.whole (by first | rfl | (simp only [List.length_map, List.length_cons, List.length_nil]; omega) | (simp [*]; done) | (simp [*]; rfl))) ?_
          refine o_keep (.c 0 rfl (.c 1 rfl (.c 5 rfl (.c 6 rfl (.c 10 rfl .n))))) ?_
          refine r_seq ?_
          refine r_seq ?_
          refine r_region ?_
          refine p_as rfl rfl ?_
          refine o_keep (.c 0 rfl (.c 1 rfl (.c 5 rfl (.c 6 rfl (.c 10 rfl (.c 11 rfl .n)))))) ?_
          refine r_block ?_
          refine r_loop_1 (fun (i : Nat) => [(11, true, .int .i64 (i : Int))]) (.c 0 rfl (.c 1 rfl (.c 5 rfl (.c 6 rfl (.c 10 rfl .n))))) (fun (i : Nat) => blk b10 (rH ⟨d, w.ctr, w.dl⟩) 54 :: blk b5 (rW w) 29 :: (boL b s hv ov dv ++ R)) (fun (i : Nat) => i ≤ s.holds.length ∧ scanH s.holds ⟨d, w.ctr, w.dl⟩ = scanH (s.holds.drop i) ⟨d, w.ctr, w.dl⟩) (fun (i : Nat) => s.holds.length - i) (0) ?_ (.c 11 rfl .n) ?_ (fun i hI => ?_)
          · exact ⟨Nat.zero_le _, rfl⟩
          · refine Ent.c (SelB.ent) ?_; refine Ent.c (SelB.ent) ?_; refine Ent.catI ?_; first | exact Ent.rfl | (repeat (first | exact Ent.rfl | refine Ent.c (SelB.ent) ?_ | refine Ent.c (SelS.ent) ?_ | refine Ent.cN ?_ | refine Ent.c (SelX.ent) ?_ | refine Ent.dropR ?_))
          · skip
            obtain ⟨hil, hI⟩ := hI
            refine r_cat2 ?_
            refine r_seq ?_
            refine r_seq ?_
            refine r_region ?_
            refine p_mv rfl rfl ?_
            refine p_mv rfl rfl ?_
            refine p_nil rfl rfl ?_
            refine p_fa fa_64_2 rfl rfl ?_
            refine p_ldc tc_45 rfl (by rfl) rfl ?_
            refine l_op (x_p (pv_lens (Rd.len hrh) ⟨_, Try.underlying45⟩ (.n rfl) rfl rfl rfl rfl (fun _ => rfl)) rfl rfl ?_)
            refine p_lss rfl rfl rfl ?_
            refine o_keep (.c 0 rfl (.c 1 rfl (.c 5 rfl (.c 6 rfl (.c 10 rfl (.c 11 rfl (.c 52 rfl .n))))))) ?_
            refine r_cond _ rfl (fun h5 => ?_) (fun h5 => ?_)
            · try simp only [Bool.and_eq_true, Bool.or_eq_true, Bool.or_eq_false_iff, Bool.not_eq_true', Bool.not_eq_false', decide_eq_true_eq, decide_eq_false_iff_not, Bool.and_eq_false_iff] at h5
              obtain ⟨x, hx⟩ := getlt (l := s.holds) (i := i) (by omega)
              have hat := scanH_at hI hx
              refine r_skip ?_
              refine r_seq ?_
              refine r_block ?_
              refine r_seq ?_
              refine r_seq ?_
              refine r_plan _ [] mo (.c 0 rfl (.c 1 rfl (.c 5 rfl (.c 6 rfl (.c 10 rfl (.c 11 rfl .n)))))) Ent.rfl ?_
              refine qm_q (i := 0) (l := [.k 0]) rfl rfl rfl rfl (by kernel_rfl) rfl (fun He => PV.rq (pv_mv (.n rfl) rfl rfl (fun _ => rfl))) ?_
              refine qm_q (i := 1) (l := [.o 0]) rfl rfl rfl rfl (by kernel_rfl) rfl (fun He => PV.rq (pv_nilp (.n rfl) rfl rfl (fun _ => rfl))) ?_
              refine qm_q (i := 2) (l := [.o 1]) rfl rfl rfl rfl (by kernel_rfl) rfl (fun He => PV.rq (pv_fa fa_64_2 (.n rfl) rfl rfl (fun _ => rfl))) ?_
              refine qm_q (i := 3) (l := [.o 2]) rfl rfl rfl rfl (by kernel_rfl) rfl (fun He => RV.rq (q_ldc tc_45 (.n rfl) rfl rfl (fun _ => rfl) (by rfl))) ?_
              refine qm_q (i := 4) (l := [.k 11]) rfl rfl rfl rfl (by kernel_rfl) rfl (fun He => PV.rq (pv_mv (.n rfl) rfl rfl (fun _ => rfl))) ?_
              refine qm_q (i := 5) (l := [.o 3, .o 4]) rfl rfl rfl rfl (by kernel_rfl) rfl (fun He => PV.rq (pv_idx Try.underlying45 (.ofA ta_54) hrh (fun hg => ⟨rfl, (mapget hx)⟩) (.n rfl) rfl rfl rfl (fun _ => ⟨rfl, rfl⟩))) ?_
              refine qm_q (i := 6) (l := [.o 5]) rfl rfl rfl rfl (by kernel_rfl) rfl (fun He => RV.rq (rv_ldats (j := 0) ta_54 (Rd.ent hrh (by repeat (first | exact Ent.rfl | exact Ent.one Ent.h | exact Ent.one (SelS.ent) | exact Ent.nil | exact Ent.left | refine Ent.dropR ?_ | refine Ent.tr Ent.skip ?_))) (fun hg => (mapget hx)) (.n rfl) rfl rfl (fun _ => rfl) rfl (.s (.s (.s .z))))) ?_
              refine qm_q (i := 7) (l := [.k 10]) rfl rfl rfl rfl (by kernel_rfl) rfl (fun He => RV.rq (q_lda ta_54 (.n rfl) rfl rfl (fun _ => rfl) (by exact (Tk.all rfl)))) ?_
              refine qm_q (i := 8) (l := [.o 6, .o 7]) rfl rfl rfl rfl (by kernel_rfl) rfl (fun He => PV.rq (pv_aeq (eq_Hold) (.n rfl) rfl rfl rfl (fun _ => ⟨rfl, rfl⟩))) ?_
              refine qm_n (by kernel_rfl) (by kernel_rfl) (by kernel_rfl) (by kernel_rfl) (.c 0 rfl (.c 1 rfl (.c 5 rfl (.c 6 rfl (.c 10 rfl (.c 11 rfl (.c 63 rfl .n))))))) ?_
              refine r_cond _ rfl (fun h6 => ?_) (fun h6 => ?_)
              · try simp only [Bool.and_eq_true, Bool.or_eq_true, Bool.or_eq_false_iff, Bool.not_eq_true', Bool.not_eq_false', decide_eq_true_eq, decide_eq_false_iff_not, Bool.and_eq_false_iff] at h6
                have hs := holdS_5 hd hw0 hsh hov (hat.1 h6)
                refine r_seq ?_
                refine r_region ?_
                refine p_as rfl rfl ?_
                refine o_keep (.c 0 rfl (.c 1 rfl (.c 5 rfl (.c 6 rfl (.c 10 rfl (.c 11 rfl .n)))))) ?_
                refine r_retv hF rfl (.c (.t rfl) .n) ?_ ?_
                · refine Ent.catI ?_; rw [hs]; refine Ent.c (boothP_close hv ov dv rfl rfl rfl rfl) ?_; first | exact Ent.rfl | (repeat (first | exact Ent.rfl | refine Ent.c (SelB.ent) ?_ | refine Ent.c (SelS.ent) ?_ | refine Ent.cN ?_ | refine Ent.c (SelX.ent) ?_ | refine Ent.dropR ?_))
                · rw [hs]; rfl
              · try simp only [Bool.and_eq_true, Bool.or_eq_true, Bool.or_eq_false_iff, Bool.not_eq_true', Bool.not_eq_false', decide_eq_true_eq, decide_eq_false_iff_not, Bool.and_eq_false_iff] at h6
                have hne := h6
                refine r_skip ?_
                refine r_seq ?_
                refine r_plan _ [] mo (.c 0 rfl (.c 1 rfl (.c 5 rfl (.c 6 rfl (.c 10 rfl (.c 11 rfl .n)))))) Ent.rfl ?_
                refine qm_q (i := 0) (l := [.k 0]) rfl rfl rfl rfl (by kernel_rfl) rfl (fun He => PV.rq (pv_mv (.n rfl) rfl rfl (fun _ => rfl))) ?_
                refine qm_q (i := 1) (l := [.o 0]) rfl rfl rfl rfl (by kernel_rfl) rfl (fun He => PV.rq (pv_nilp (.n rfl) rfl rfl (fun _ => rfl))) ?_
                refine qm_q (i := 2) (l := [.o 1]) rfl rfl rfl rfl (by kernel_rfl) rfl (fun He => PV.rq (pv_fa fa_64_2 (.n rfl) rfl rfl (fun _ => rfl))) ?_
                refine qm_q (i := 3) (l := [.o 2]) rfl rfl rfl rfl (by kernel_rfl) rfl (fun He => RV.rq (q_ldc tc_45 (.n rfl) rfl rfl (fun _ => rfl) (by rfl))) ?_
                refine qm_q (i := 4) (l := [.k 11]) rfl rfl rfl rfl (by kernel_rfl) rfl (fun He => PV.rq (pv_mv (.n rfl) rfl rfl (fun _ => rfl))) ?_
                refine qm_q (i := 5) (l := [.o 3, .o 4]) rfl rfl rfl rfl (by kernel_rfl) rfl (fun He => PV.rq (pv_idx Try.underlying45 (.ofA ta_54) hrh (fun hg => ⟨rfl, (mapget hx)⟩) (.n rfl) rfl rfl rfl (fun _ => ⟨rfl, rfl⟩))) ?_
                refine qm_q (i := 6) (l := [.o 5]) rfl rfl rfl rfl (by kernel_rfl) rfl (fun He => PV.rq (pv_faat fa_54_0 (fun hg => Rd.sh hrh (mapget hx)) (.n rfl) rfl rfl (fun _ => rfl))) ?_
                refine qm_q (i := 7) (l := [.o 6]) rfl rfl rfl rfl (by kernel_rfl) rfl (fun He => RV.rq (rv_ldat (j := 0) tc_3 (Rd.ent hrh (by repeat (first | exact Ent.rfl | exact Ent.one Ent.h | exact Ent.one (SelS.ent) | exact Ent.nil | exact Ent.left | refine Ent.dropR ?_ | refine Ent.tr Ent.skip ?_))) (fun hg => (mapget hx)) (.n rfl) rfl rfl (fun _ => rfl) rfl (fun _ => rfl))) ?_
                refine qm_q (i := 8) (l := [.k 1]) rfl rfl rfl rfl (by kernel_rfl) rfl (fun He => PV.rq (pv_mv (.n rfl) rfl rfl (fun _ => rfl))) ?_
                refine qm_q (i := 9) (l := [.o 7, .o 8]) rfl rfl rfl rfl (by kernel_rfl) rfl (fun He => PV.rq (pv_eql (.n rfl) rfl rfl rfl (fun _ => ⟨rfl, rfl⟩))) ?_
                refine qm_q (i := 10) (l := [.o 9]) rfl rfl rfl rfl (by kernel_rfl) rfl (fun He => PV.rq (pv_mv (.n rfl) rfl rfl (fun _ => rfl))) ?_
                refine qm_q (i := 11) (l := [.k 0, .o 10]) rfl rfl rfl rfl (by kernel_rfl) rfl (fun He => PV.rq (pv_mv (.s rfl rfl rfl) rfl rfl (by first | exact fun _ => rfl | exact id | exact fun h => (Bool.and_eq_true_iff.1 h).1 | simp_all))) ?_
                refine qm_q (i := 12) (l := [.o 11, .o 10]) rfl rfl rfl rfl (by kernel_rfl) rfl (fun He => PV.rq (pv_nilp (.s rfl rfl rfl) rfl rfl (by first | exact fun _ => rfl | exact id | exact fun h => (Bool.and_eq_true_iff.1 h).1 | simp_all))) ?_
                refine qm_q (i := 13) (l := [.o 12, .o 10]) rfl rfl rfl rfl (by kernel_rfl) rfl (fun He => PV.rq (pv_fa fa_64_2 (.s rfl rfl rfl) rfl rfl (by first | exact fun _ => rfl | exact id | exact fun h => (Bool.and_eq_true_iff.1 h).1 | simp_all))) ?_
                refine qm_q (i := 14) (l := [.o 13, .o 10]) rfl rfl rfl rfl (by kernel_rfl) rfl (fun He => RV.rq (q_ldc tc_45 (.s rfl rfl rfl) rfl rfl (by first | exact fun _ => rfl | exact id | exact fun h => (Bool.and_eq_true_iff.1 h).1 | simp_all) (by rfl))) ?_
                refine qm_q (i := 15) (l := [.k 11, .o 10]) rfl rfl rfl rfl (by kernel_rfl) rfl (fun He => PV.rq (pv_mv (.s rfl rfl rfl) rfl rfl (by first | exact fun _ => rfl | exact id | exact fun h => (Bool.and_eq_true_iff.1 h).1 | simp_all))) ?_
                refine qm_q (i := 16) (l := [.o 14, .o 15, .o 10]) rfl rfl rfl rfl (by kernel_rfl) rfl (fun He => PV.rq (pv_idx Try.underlying45 (.ofA ta_54) hrh (fun hg => ⟨rfl, (mapget hx)⟩) (.s rfl rfl rfl) rfl rfl rfl (by refine fun h => ⟨?_, ?_⟩ <;> first | rfl | exact h | exact (Bool.and_eq_true_iff.1 h).1 | simp_all))) ?_
                refine qm_q (i := 17) (l := [.o 16, .o 10]) rfl rfl rfl rfl (by kernel_rfl) rfl (fun He => PV.rq (pv_faat fa_54_1 (fun hg => Rd.sh hrh (mapget hx)) (.s rfl rfl rfl) rfl rfl (by first | exact fun _ => rfl | exact id | exact fun h => (Bool.and_eq_true_iff.1 h).1 | simp_all))) ?_
                refine qm_q (i := 18) (l := [.o 17, .o 10]) rfl rfl rfl rfl (by kernel_rfl) rfl (fun He => RV.rq (rv_ldat (j := 1) tc_3 (Rd.ent hrh (by repeat (first | exact Ent.rfl | exact Ent.one Ent.h | exact Ent.one (SelS.ent) | exact Ent.nil | exact Ent.left | refine Ent.dropR ?_ | refine Ent.tr Ent.skip ?_))) (fun hg => (mapget hx)) (.s rfl rfl rfl) rfl rfl (by first | exact fun _ => rfl | exact id | exact fun h => (Bool.and_eq_true_iff.1 h).1 | simp_all) rfl (fun _ => rfl))) ?_
                refine qm_q (i := 19) (l := [.k 5, .o 10]) rfl rfl rfl rfl (by kernel_rfl) rfl (fun He => PV.rq (pv_fa fa_29_0 (.s rfl rfl rfl) rfl rfl (by first | exact fun _ => rfl | exact id | exact fun h => (Bool.and_eq_true_iff.1 h).1 | simp_all))) ?_
                refine qm_q (i := 20) (l := [.o 19, .o 10]) rfl rfl rfl rfl (by kernel_rfl) rfl (fun He => RV.rq (q_ldc tc_3 (.s rfl rfl rfl) rfl rfl (by first | exact fun _ => rfl | exact id | exact fun h => (Bool.and_eq_true_iff.1 h).1 | simp_all) (by rfl))) ?_
                refine qm_q (i := 21) (l := [.o 18, .o 20, .o 10]) rfl rfl rfl rfl (by kernel_rfl) rfl (fun He => PV.rq (pv_eql (.s rfl rfl rfl) rfl rfl rfl (by refine fun h => ⟨?_, ?_⟩ <;> first | rfl | exact h | exact (Bool.and_eq_true_iff.1 h).1 | simp_all))) ?_
                refine qm_q (i := 22) (l := [.o 10, .o 21]) rfl rfl rfl rfl (by kernel_rfl) rfl (fun He => PV.rq (pv_and (.n rfl) rfl rfl rfl (fun _ => ⟨rfl, fun hc => by first | rfl | (rw [hc]; rfl) | simp_all⟩))) ?_
                refine qm_n (by kernel_rfl) (by kernel_rfl) (by kernel_rfl) (by kernel_rfl) (.c 0 rfl (.c 1 rfl (.c 5 rfl (.c 6 rfl (.c 10 rfl (.c 11 rfl (.c 86 rfl .n))))))) ?_
                refine r_cond _ rfl (fun h7 => ?_) (fun h7 => ?_)
                · try simp only [Bool.and_eq_true, Bool.or_eq_true, Bool.or_eq_false_iff, Bool.not_eq_true', Bool.not_eq_false', decide_eq_true_eq, decide_eq_false_iff_not, Bool.and_eq_false_iff] at h7
                  have hs := holdS_5 hd hw0 hsh hov (hat.2.1 hne (by dsimp only; omega) (by dsimp only; omega))
                  refine r_seq ?_
                  refine r_region ?_
                  refine p_as rfl rfl ?_
                  refine o_keep (.c 0 rfl (.c 1 rfl (.c 5 rfl (.c 6 rfl (.c 10 rfl (.c 11 rfl .n)))))) ?_
                  refine r_retv hF rfl (.c (.t rfl) .n) ?_ ?_
                  · refine Ent.catI ?_; rw [hs]; refine Ent.c (boothP_close hv ov dv rfl rfl rfl rfl) ?_; first | exact Ent.rfl | (repeat (first | exact Ent.rfl | refine Ent.c (SelB.ent) ?_ | refine Ent.c (SelS.ent) ?_ | refine Ent.cN ?_ | refine Ent.c (SelX.ent) ?_ | refine Ent.dropR ?_))
                  · rw [hs]; rfl
                · try simp only [Bool.and_eq_true, Bool.or_eq_true, Bool.or_eq_false_iff, Bool.not_eq_true', Bool.not_eq_false', decide_eq_true_eq, decide_eq_false_iff_not, Bool.and_eq_false_iff] at h7
                  have hnx := hat.2.2 (by dsimp only; omega)
                  refine r_skip ?_
                  refine r_end ?_
                  refine r_region ?_
                  refine p_mv rfl rfl ?_
                  refine p_add rfl rfl (by omega) rfl ?_
                  refine p_as rfl rfl ?_
                  refine o_keep (.c 0 rfl (.c 1 rfl (.c 5 rfl (.c 6 rfl (.c 10 rfl (.c 11 rfl .n)))))) ?_
                  refine r_back_1 (i + 1) ?_ ?_ (Keep.app (.c 11 rfl .n) (.c 0 rfl (.c 1 rfl (.c 5 rfl (.c 6 rfl (.c 10 rfl .n)))))) ?_
                  · exact ⟨by omega, hnx⟩
                  · omega
                  · refine Ent.c (SelB.ent) ?_; refine Ent.c (SelB.ent) ?_; refine Ent.catI ?_; first | exact Ent.rfl | (repeat (first | exact Ent.rfl | refine Ent.c (SelB.ent) ?_ | refine Ent.c (SelS.ent) ?_ | refine Ent.cN ?_ | refine Ent.c (SelX.ent) ?_ | refine Ent.dropR ?_))
            · try simp only [Bool.and_eq_true, Bool.or_eq_true, Bool.or_eq_false_iff, Bool.not_eq_true', Bool.not_eq_false', decide_eq_true_eq, decide_eq_false_iff_not, Bool.and_eq_false_iff] at h5
              have hsc : scanH s.holds ⟨d, w.ctr, w.dl⟩ = none := by rw [hI, List.drop_eq_nil_of_le (by omega)]; rfl
              refine r_exit rfl ?_
              refine r_seq ?_
              refine r_seq ?_
              rcases (by omega : w.ctr % 2 = 0 ∨ w.ctr % 2 = 1) with hk | hk
              · skip
                refine r_plan _ [] mo (.c 0 rfl (.c 5 rfl (.c 6 rfl (.c 10 rfl .n)))) Ent.rfl ?_
                refine qm_q (i := 0) (l := [.k 0]) rfl rfl rfl rfl (by kernel_rfl) rfl (fun He => PV.rq (pv_mv (.n rfl) rfl rfl (fun _ => rfl))) ?_
                refine qm_q (i := 1) (l := [.o 0]) rfl rfl rfl rfl (by kernel_rfl) rfl (fun He => rq_call cf_26 (.n rfl) rfl (.c rfl (fun _ => rfl) .n) (fun hg => (booth_Counts_o _ b s hS hv ov dv).q)) ?_
                refine qm_q (i := 2) (l := [.k 5]) rfl rfl rfl rfl (by kernel_rfl) rfl (fun He => PV.rq (pv_fa fa_29_0 (.n rfl) rfl rfl (fun _ => rfl))) ?_
                refine qm_q (i := 3) (l := [.o 2]) rfl rfl rfl rfl (by kernel_rfl) rfl (fun He => RV.rq (q_ldc tc_3 (.n rfl) rfl rfl (fun _ => rfl) (by rfl))) ?_
                refine qm_q (i := 4) (l := [.k 0]) rfl rfl rfl rfl (by kernel_rfl) rfl (fun He => PV.rq (pv_mv (.n rfl) rfl rfl (fun _ => rfl))) ?_
                refine qm_q (i := 5) (l := [.o 4]) rfl rfl rfl rfl (by kernel_rfl) rfl (fun He => PV.rq (pv_nilp (.n rfl) rfl rfl (fun _ => rfl))) ?_
                refine qm_q (i := 6) (l := [.o 5]) rfl rfl rfl rfl (by kernel_rfl) rfl (fun He => PV.rq (pv_fa fa_64_0 (.n rfl) rfl rfl (fun _ => rfl))) ?_
                refine qm_q (i := 7) (l := [.o 6]) rfl rfl rfl rfl (by kernel_rfl) rfl (fun He => RV.rq (q_ldc tc_3 (.n rfl) rfl rfl (fun _ => rfl) (by rfl))) ?_
                refine qm_q (i := 8) (l := [.o 7]) rfl rfl rfl rfl (by kernel_rfl) rfl (fun He => PV.rq (pv_mul (fun _ => by omega) (.n rfl) rfl rfl rfl (fun _ => ⟨rfl, rfl⟩))) ?_
                refine qm_q (i := 9) (l := [.o 3, .o 8]) rfl rfl rfl rfl (by kernel_rfl) rfl (fun He => PV.rq (pv_sub (fun _ => by omega) (.n rfl) rfl rfl rfl (fun _ => ⟨rfl, rfl⟩))) ?_
                refine qm_q (i := 10) (l := [.o 1, .o 9]) rfl rfl rfl rfl (by kernel_rfl) rfl (fun He => PV.rq (pv_index (i := 0) Try.underlying36 ta_35 (fun hg => ⟨by omega, by omega⟩) (.n rfl) rfl rfl rfl (fun _ => ⟨rfl, rfl⟩) (fun hg => (show _ = cntL s.c0 from rfl)))) ?_
                refine qm_q (i := 11) (l := [.k 5]) rfl rfl rfl rfl (by kernel_rfl) rfl (fun He => PV.rq (pv_fa fa_29_1 (.n rfl) rfl rfl (fun _ => rfl))) ?_
                refine qm_q (i := 12) (l := [.o 11]) rfl rfl rfl rfl (by kernel_rfl) rfl (fun He => RV.rq (q_ldc tc_3 (.n rfl) rfl rfl (fun _ => rfl) (by rfl))) ?_
                refine qm_q (i := 13) (l := [.o 10, .o 12]) rfl rfl rfl rfl (by kernel_rfl) rfl (fun He => rq_call cf_105 (.n rfl) rfl (.c rfl (fun _ => rfl) (.c rfl (fun _ => rfl) .n)) (fun hg => ref_Held _ _ _ _ _ _)) ?_
                refine qm_q (i := 14) (l := [.o 13]) rfl rfl rfl rfl (by kernel_rfl) rfl (fun He => PV.rq (pv_mv (.n rfl) rfl rfl (fun _ => rfl))) ?_
                refine qm_q (i := 15) (l := [.o 14]) rfl rfl rfl rfl (by kernel_rfl) rfl (fun He => PV.rq (pv_ext (.n rfl) rfl rfl rfl (fun _ => rfl))) ?_
                refine qm_q (i := 16) (l := [.o 14]) rfl rfl rfl rfl (by kernel_rfl) rfl (fun He => PV.rq (pv_ext (.n rfl) rfl rfl rfl (fun _ => rfl))) ?_
                refine qm_alloc zr_35 (i := 17) [] (by kernel_rfl) (by kernel_rfl) rfl rfl rfl rfl (by kernel_rfl) (by kernel_rfl) ⟨_, .n rfl, rfl⟩ rfl fun b12 => ?_
                refine qm_store (.ofA ta_35) (i := 18) [.o 17, .o 15] (by kernel_rfl) (by kernel_rfl) rfl rfl rfl (by kernel_rfl) (by kernel_rfl) ⟨_, .n rfl, rfl⟩ rfl rfl rfl rfl rfl rfl (by repeat constructor) ?_
                refine qm_q (i := 19) (l := [.o 16]) rfl rfl rfl rfl (by kernel_rfl) rfl (fun He => PV.rq (pv_as (.n rfl) rfl rfl (fun _ => rfl))) ?_
                refine qm_n (by kernel_rfl) (by kernel_rfl) (by kernel_rfl) (by kernel_rfl) (.c 0 rfl (.c 6 rfl (.c 10 rfl (.c 13 rfl .n)))) ?_
                refine r_seq ?_
                refine r_region ?_
                refine p_mv rfl rfl ?_
                refine p_neq rfl rfl rfl ?_
                refine o_keep (.c 0 rfl (.c 6 rfl (.c 10 rfl (.c 13 rfl (.c 105 rfl .n))))) ?_
                refine r_cond _ rfl (fun h8 => ?_) (fun h8 => ?_)
                · try simp only [Bool.and_eq_true, Bool.or_eq_true, Bool.or_eq_false_iff, Bool.not_eq_true', Bool.not_eq_false', decide_eq_true_eq, decide_eq_false_iff_not, Bool.and_eq_false_iff] at h8
                  have hs := holdS_6 hd hw0 hsh hov hsc (by rw [hk, cnt0]; simpa using h8)
                  rw [hk, cnt0] at hs
                  refine r_seq ?_
                  refine r_region ?_
                  refine p_mv rfl rfl ?_
                  refine p_as rfl rfl ?_
                  refine o_keep (.c 0 rfl (.c 6 rfl (.c 10 rfl .n))) ?_
                  refine r_retv hF rfl (.c (.t rfl) .n) ?_ ?_
                  · refine Ent.catI ?_; rw [hs]; refine Ent.c (boothP_close hv ov dv rfl rfl rfl rfl) ?_; first | exact Ent.rfl | (repeat (first | exact Ent.rfl | refine Ent.c (SelB.ent) ?_ | refine Ent.c (SelS.ent) ?_ | refine Ent.cN ?_ | refine Ent.c (SelX.ent) ?_ | refine Ent.dropR ?_))
                  · rw [hs]; rfl
                · try simp only [Bool.and_eq_true, Bool.or_eq_true, Bool.or_eq_false_iff, Bool.not_eq_true', Bool.not_eq_false', decide_eq_true_eq, decide_eq_false_iff_not, Bool.and_eq_false_iff] at h8
                  have hz : (hold s.c0 w.dl).2 = 0 := by simpa using h8
                  have hs := holdS_7 hd hw0 hsh hov hsc (by rw [hk, cnt0]; simpa using h8)
                  rw [hk, set0, cnt0] at hs
                  refine r_skip ?_
                  refine r_seq ?_
                  refine r_plan (_) ([sl hv 54 3 (s.holds.map rH)]) mo (.c 0 rfl (.c 6 rfl (.c 10 rfl .n))) (SelS.ent) ?_
                  refine qm_q (i := 0) (l := [.k 0]) rfl rfl rfl rfl (by kernel_rfl) rfl (fun He => PV.rq (pv_mv (.n rfl) rfl rfl (fun _ => rfl))) ?_
                  refine qm_q (i := 1) (l := [.k 0]) rfl rfl rfl rfl (by kernel_rfl) rfl (fun He => PV.rq (pv_mv (.n rfl) rfl rfl (fun _ => rfl))) ?_
                  refine qm_q (i := 2) (l := [.o 1]) rfl rfl rfl rfl (by kernel_rfl) rfl (fun He => PV.rq (pv_nilp (.n rfl) rfl rfl (fun _ => rfl))) ?_
                  refine qm_q (i := 3) (l := [.o 2]) rfl rfl rfl rfl (by kernel_rfl) rfl (fun He => PV.rq (pv_fa fa_64_2 (.n rfl) rfl rfl (fun _ => rfl))) ?_
                  refine qm_q (i := 4) (l := [.o 3]) rfl rfl rfl rfl (by kernel_rfl) rfl (fun He => RV.rq (q_ldc tc_45 (.n rfl) rfl rfl (fun _ => rfl) (by rfl))) ?_
                  refine qm_q (i := 5) (l := [.k 10]) rfl rfl rfl rfl (by kernel_rfl) rfl (fun He => RV.rq (q_lda ta_54 (.n rfl) rfl rfl (fun _ => rfl) (by exact (Tk.all rfl)))) ?_
                  refine qm_bslice1 Try.underlying45 (.ofA ta_54) zr_54 rfl (i := 6) [.o 5] (by kernel_rfl) (by kernel_rfl) rfl rfl rfl rfl (by kernel_rfl) (by kernel_rfl) ⟨_, .n rfl, rfl⟩ rfl rfl rfl rfl rfl rfl fun b113 => ?_
                  refine qa_append Try.underlying45 el_54 rfl rfl (i := 7) [.o 4, .o 6] (by kernel_rfl) (by kernel_rfl) rfl rfl rfl rfl (by kernel_rfl) (by kernel_rfl) ⟨_, .n rfl, rfl⟩ rfl rfl rfl (Rd.blit rfl rfl) (by simp; omega) fun v114 => ?_
                  refine qm_rd v114 fun hr114 => ?_
                  refine qm_q (i := 8) (l := [.o 0]) rfl rfl rfl rfl (by kernel_rfl) rfl (fun He => PV.rq (pv_nilp (.n rfl) rfl rfl (fun _ => rfl))) ?_
                  refine qm_q (i := 9) (l := [.o 8]) rfl rfl rfl rfl (by kernel_rfl) rfl (fun He => PV.rq (pv_fa fa_64_2 (.n rfl) rfl rfl (fun _ => rfl))) ?_
                  refine qb_store (.ofC tc_45) (i := 10) [.o 9, .o 7] (by kernel_rfl) (by kernel_rfl) rfl rfl rfl (by kernel_rfl) (by kernel_rfl) (by kernel_rfl) ⟨_, .n rfl, rfl⟩ rfl rfl rfl hr114.c1 rfl hr114.o1 (by repeat constructor) ?_
                  refine qm_n (by kernel_rfl) (by kernel_rfl) (by kernel_rfl) (by kernel_rfl) (.c 6 rfl .n) ?_
                  refine r_seq ?_
                  refine r_region ?_
                  refine p_as rfl rfl ?_
                  refine o_keep (.c 6 rfl .n) ?_
                  refine r_retv hF rfl (.c (.t rfl) .n) ?_ ?_
                  · refine Ent.catI ?_; rw [hs]; refine Ent.c (boothP_close v114 ov dv (by simp [hold_v hz]) (by simp) rfl rfl) ?_; first | exact Ent.rfl | (repeat (first | exact Ent.rfl | refine Ent.c (SelB.ent) ?_ | refine Ent.c (SelS.ent) ?_ | refine Ent.cN ?_ | refine Ent.c (SelX.ent) ?_ | refine Ent.dropR ?_))
                  · rw [hs]; rfl
              · skip
                refine r_plan _ [] mo (.c 0 rfl (.c 5 rfl (.c 6 rfl (.c 10 rfl .n)))) Ent.rfl ?_
                refine qm_q (i := 0) (l := [.k 0]) rfl rfl rfl rfl (by kernel_rfl) rfl (fun He => PV.rq (pv_mv (.n rfl) rfl rfl (fun _ => rfl))) ?_
                refine qm_q (i := 1) (l := [.o 0]) rfl rfl rfl rfl (by kernel_rfl) rfl (fun He => rq_call cf_26 (.n rfl) rfl (.c rfl (fun _ => rfl) .n) (fun hg => (booth_Counts_o _ b s hS hv ov dv).q)) ?_
                refine qm_q (i := 2) (l := [.k 5]) rfl rfl rfl rfl (by kernel_rfl) rfl (fun He => PV.rq (pv_fa fa_29_0 (.n rfl) rfl rfl (fun _ => rfl))) ?_
                refine qm_q (i := 3) (l := [.o 2]) rfl rfl rfl rfl (by kernel_rfl) rfl (fun He => RV.rq (q_ldc tc_3 (.n rfl) rfl rfl (fun _ => rfl) (by rfl))) ?_
                refine qm_q (i := 4) (l := [.k 0]) rfl rfl rfl rfl (by kernel_rfl) rfl (fun He => PV.rq (pv_mv (.n rfl) rfl rfl (fun _ => rfl))) ?_
                refine qm_q (i := 5) (l := [.o 4]) rfl rfl rfl rfl (by kernel_rfl) rfl (fun He => PV.rq (pv_nilp (.n rfl) rfl rfl (fun _ => rfl))) ?_
                refine qm_q (i := 6) (l := [.o 5]) rfl rfl rfl rfl (by kernel_rfl) rfl (fun He => PV.rq (pv_fa fa_64_0 (.n rfl) rfl rfl (fun _ => rfl))) ?_
                refine qm_q (i := 7) (l := [.o 6]) rfl rfl rfl rfl (by kernel_rfl) rfl (fun He => RV.rq (q_ldc tc_3 (.n rfl) rfl rfl (fun _ => rfl) (by rfl))) ?_
                refine qm_q (i := 8) (l := [.o 7]) rfl rfl rfl rfl (by kernel_rfl) rfl (fun He => PV.rq (pv_mul (fun _ => by omega) (.n rfl) rfl rfl rfl (fun _ => ⟨rfl, rfl⟩))) ?_
                refine qm_q (i := 9) (l := [.o 3, .o 8]) rfl rfl rfl rfl (by kernel_rfl) rfl (fun He => PV.rq (pv_sub (fun _ => by omega) (.n rfl) rfl rfl rfl (fun _ => ⟨rfl, rfl⟩))) ?_
                refine qm_q (i := 10) (l := [.o 1, .o 9]) rfl rfl rfl rfl (by kernel_rfl) rfl (fun He => PV.rq (pv_index (i := 1) Try.underlying36 ta_35 (fun hg => ⟨by omega, by omega⟩) (.n rfl) rfl rfl rfl (fun _ => ⟨rfl, rfl⟩) (fun hg => (show _ = cntL s.c1 from rfl)))) ?_
                refine qm_q (i := 11) (l := [.k 5]) rfl rfl rfl rfl (by kernel_rfl) rfl (fun He => PV.rq (pv_fa fa_29_1 (.n rfl) rfl rfl (fun _ => rfl))) ?_
                refine qm_q (i := 12) (l := [.o 11]) rfl rfl rfl rfl (by kernel_rfl) rfl (fun He => RV.rq (q_ldc tc_3 (.n rfl) rfl rfl (fun _ => rfl) (by rfl))) ?_
                refine qm_q (i := 13) (l := [.o 10, .o 12]) rfl rfl rfl rfl (by kernel_rfl) rfl (fun He => rq_call cf_105 (.n rfl) rfl (.c rfl (fun _ => rfl) (.c rfl (fun _ => rfl) .n)) (fun hg => ref_Held _ _ _ _ _ _)) ?_
                refine qm_q (i := 14) (l := [.o 13]) rfl rfl rfl rfl (by kernel_rfl) rfl (fun He => PV.rq (pv_mv (.n rfl) rfl rfl (fun _ => rfl))) ?_
                refine qm_q (i := 15) (l := [.o 14]) rfl rfl rfl rfl (by kernel_rfl) rfl (fun He => PV.rq (pv_ext (.n rfl) rfl rfl rfl (fun _ => rfl))) ?_
                refine qm_q (i := 16) (l := [.o 14]) rfl rfl rfl rfl (by kernel_rfl) rfl (fun He => PV.rq (pv_ext (.n rfl) rfl rfl rfl (fun _ => rfl))) ?_
                refine qm_alloc zr_35 (i := 17) [] (by kernel_rfl) (by kernel_rfl) rfl rfl rfl rfl (by kernel_rfl) (by kernel_rfl) ⟨_, .n rfl, rfl⟩ rfl fun b12 => ?_
                refine qm_store (.ofA ta_35) (i := 18) [.o 17, .o 15] (by kernel_rfl) (by kernel_rfl) rfl rfl rfl (by kernel_rfl) (by kernel_rfl) ⟨_, .n rfl, rfl⟩ rfl rfl rfl rfl rfl rfl (by repeat constructor) ?_
                refine qm_q (i := 19) (l := [.o 16]) rfl rfl rfl rfl (by kernel_rfl) rfl (fun He => PV.rq (pv_as (.n rfl) rfl rfl (fun _ => rfl))) ?_
                refine qm_n (by kernel_rfl) (by kernel_rfl) (by kernel_rfl) (by kernel_rfl) (.c 0 rfl (.c 6 rfl (.c 10 rfl (.c 13 rfl .n)))) ?_
                refine r_seq ?_
                refine r_region ?_
                refine p_mv rfl rfl ?_
                refine p_neq rfl rfl rfl ?_
                refine o_keep (.c 0 rfl (.c 6 rfl (.c 10 rfl (.c 13 rfl (.c 105 rfl .n))))) ?_
                refine r_cond _ rfl (fun h9 => ?_) (fun h9 => ?_)
                · try simp only [Bool.and_eq_true, Bool.or_eq_true, Bool.or_eq_false_iff, Bool.not_eq_true', Bool.not_eq_false', decide_eq_true_eq, decide_eq_false_iff_not, Bool.and_eq_false_iff] at h9
                  have hs := holdS_6 hd hw0 hsh hov hsc (by rw [hk, cnt1]; simpa using h9)
                  rw [hk, cnt1] at hs
                  refine r_seq ?_
                  refine r_region ?_
                  refine p_mv rfl rfl ?_
                  refine p_as rfl rfl ?_
                  refine o_keep (.c 0 rfl (.c 6 rfl (.c 10 rfl .n))) ?_
                  refine r_retv hF rfl (.c (.t rfl) .n) ?_ ?_
                  · refine Ent.catI ?_; rw [hs]; refine Ent.c (boothP_close hv ov dv rfl rfl rfl rfl) ?_; first | exact Ent.rfl | (repeat (first | exact Ent.rfl | refine Ent.c (SelB.ent) ?_ | refine Ent.c (SelS.ent) ?_ | refine Ent.cN ?_ | refine Ent.c (SelX.ent) ?_ | refine Ent.dropR ?_))
                  · rw [hs]; rfl
                · try simp only [Bool.and_eq_true, Bool.or_eq_true, Bool.or_eq_false_iff, Bool.not_eq_true', Bool.not_eq_false', decide_eq_true_eq, decide_eq_false_iff_not, Bool.and_eq_false_iff] at h9
                  have hz : (hold s.c1 w.dl).2 = 0 := by simpa using h9
                  have hs := holdS_7 hd hw0 hsh hov hsc (by rw [hk, cnt1]; simpa using h9)
                  rw [hk, set1, cnt1] at hs
                  refine r_skip ?_
                  refine r_seq ?_
                  refine r_plan (_) ([sl hv 54 3 (s.holds.map rH)]) mo (.c 0 rfl (.c 6 rfl (.c 10 rfl .n))) (SelS.ent) ?_
                  refine qm_q (i := 0) (l := [.k 0]) rfl rfl rfl rfl (by kernel_rfl) rfl (fun He => PV.rq (pv_mv (.n rfl) rfl rfl (fun _ => rfl))) ?_
                  refine qm_q (i := 1) (l := [.k 0]) rfl rfl rfl rfl (by kernel_rfl) rfl (fun He => PV.rq (pv_mv (.n rfl) rfl rfl (fun _ => rfl))) ?_
                  refine qm_q (i := 2) (l := [.o 1]) rfl rfl rfl rfl (by kernel_rfl) rfl (fun He => PV.rq (pv_nilp (.n rfl) rfl rfl (fun _ => rfl))) ?_
                  refine qm_q (i := 3) (l := [.o 2]) rfl rfl rfl rfl (by kernel_rfl) rfl (fun He => PV.rq (pv_fa fa_64_2 (.n rfl) rfl rfl (fun _ => rfl))) ?_
                  refine qm_q (i := 4) (l := [.o 3]) rfl rfl rfl rfl (by kernel_rfl) rfl (fun He => RV.rq (q_ldc tc_45 (.n rfl) rfl rfl (fun _ => rfl) (by rfl))) ?_
                  refine qm_q (i := 5) (l := [.k 10]) rfl rfl rfl rfl (by kernel_rfl) rfl (fun He => RV.rq (q_lda ta_54 (.n rfl) rfl rfl (fun _ => rfl) (by exact (Tk.all rfl)))) ?_
                  refine qm_bslice1 Try.underlying45 (.ofA ta_54) zr_54 rfl (i := 6) [.o 5] (by kernel_rfl) (by kernel_rfl) rfl rfl rfl rfl (by kernel_rfl) (by kernel_rfl) ⟨_, .n rfl, rfl⟩ rfl rfl rfl rfl rfl rfl fun b113 => ?_
                  refine qa_append Try.underlying45 el_54 rfl rfl (i := 7) [.o 4, .o 6] (by kernel_rfl) (by kernel_rfl) rfl rfl rfl rfl (by kernel_rfl) (by kernel_rfl) ⟨_, .n rfl, rfl⟩ rfl rfl rfl (Rd.blit rfl rfl) (by simp; omega) fun v114 => ?_
                  refine qm_rd v114 fun hr114 => ?_
                  refine qm_q (i := 8) (l := [.o 0]) rfl rfl rfl rfl (by kernel_rfl) rfl (fun He => PV.rq (pv_nilp (.n rfl) rfl rfl (fun _ => rfl))) ?_
                  refine qm_q (i := 9) (l := [.o 8]) rfl rfl rfl rfl (by kernel_rfl) rfl (fun He => PV.rq (pv_fa fa_64_2 (.n rfl) rfl rfl (fun _ => rfl))) ?_
                  refine qb_store (.ofC tc_45) (i := 10) [.o 9, .o 7] (by kernel_rfl) (by kernel_rfl) rfl rfl rfl (by kernel_rfl) (by kernel_rfl) (by kernel_rfl) ⟨_, .n rfl, rfl⟩ rfl rfl rfl hr114.c1 rfl hr114.o1 (by repeat constructor) ?_
                  refine qm_n (by kernel_rfl) (by kernel_rfl) (by kernel_rfl) (by kernel_rfl) (.c 6 rfl .n) ?_
                  refine r_seq ?_
                  refine r_region ?_
                  refine p_as rfl rfl ?_
                  refine o_keep (.c 6 rfl .n) ?_
                  refine r_retv hF rfl (.c (.t rfl) .n) ?_ ?_
                  · refine Ent.catI ?_; rw [hs]; refine Ent.c (boothP_close v114 ov dv (by simp [hold_v hz]) (by simp) rfl rfl) ?_; first | exact Ent.rfl | (repeat (first | exact Ent.rfl | refine Ent.c (SelB.ent) ?_ | refine Ent.c (SelS.ent) ?_ | refine Ent.cN ?_ | refine Ent.c (SelX.ent) ?_ | refine Ent.dropR ?_))
                  · rw [hs]; rfl

theorem vE_nil (v c d : Int) (dn : Bool) : vE v c d dn [] = v := by unfold vE; simp [sumH]
theorem vE_skip {l : List Hld} {i : Nat} {x : Hld} (h : l[i]? = some x) (v c d : Int) (dn : Bool) (hn : ¬ (x.ctr = c ∧ x.deal = d) ∨ dn = false) : vE v c d dn (l.take (i + 1)) = vE v c d dn (l.take i) := by
  unfold vE
  rw [sumH_take h]
  rcases hn with hn | hn
  · rw [if_neg hn]; simp
  · rw [hn]; simp
theorem vE_hit {l : List Hld} {i : Nat} {x : Hld} (h : l[i]? = some x) (v c d : Int) (dn : Bool) (hc : x.ctr = c) (hd : x.deal = d) (hn : dn = true) : vE v c d dn (l.take (i + 1)) = vE v c d dn (l.take i) + x.dl := by
  unfold vE
  rw [sumH_take h]; simp only [hn, if_true, hc, hd, and_self]; omega
theorem vE_le {s : ShopS} (hS : ShInv s) (v c d : Int) (dn : Bool) (i : Nat) (hv : 0 ≤ v ∧ v ≤ 100) : -2000 ≤ vE v c d dn (s.holds.take i) ∧ vE v c d dn (s.holds.take i) ≤ 2000 := by
  have h1 := sumH_le (l := s.holds.take i) (fun y hy => hS.dl y (List.mem_of_mem_take hy)) c d
  have h2 := hS.holds_le
  have h3 : (s.holds.take i).length ≤ 16 := by simp; omega
  unfold vE; split <;> omega

theorem booth_End (M : Amb) (b : Nat) (s : ShopS) (hS : ShInv s) (d : Int) (dn : Bool) : FnC Try.prog M 95 [ptr b, .int .i64 d, .bool dn] (.int .i64 (endS s d dn).2) [boothP b s] [boothP b (endS s d dn).1] := by
  have hh1 := hS.holds_le
  have hh2 := hS.over_le
  have hno0 := hS.no0
  have hno3 := hS.no3
  refine fnc_intro Try.func95 rfl Try.ntmps95 rfl fun R F hF => ?_
  refine r_cat ?_
  refine r_ex3 fun hv ov dv => ?_
  refine r_cat ?_
  refine r_rd hv fun hrh => ?_
  refine r_rd ov fun hro => ?_
  refine r_rd dv fun hrd => ?_
  refine r_seq ?_
  refine r_region ?_
  refine p_as rfl rfl ?_
  refine o_keep (.c 0 rfl (.c 1 rfl (.c 2 rfl (.c 6 rfl .n)))) ?_
  refine r_seq ?_
  refine r_seq ?_
  refine r_region ?_
  refine p_mv rfl rfl ?_
  refine p_lss rfl rfl rfl ?_
  refine p_mv rfl rfl ?_
  refine l_op (x_p (pv_mv (.s rfl rfl rfl) rfl rfl (by first | exact fun _ => rfl | exact id | exact fun h => (Bool.and_eq_true_iff.1 h).1 | simp_all)) rfl rfl ?_)
  refine l_op (x_p (pv_geq (.s rfl rfl rfl) rfl rfl rfl (by refine fun h => ⟨?_, ?_⟩ <;> first | rfl | exact h | exact (Bool.and_eq_true_iff.1 h).1 | simp_all)) rfl rfl ?_)
  refine l_op (x_p (pv_or (.n rfl) rfl rfl rfl (fun _ => ⟨rfl, fun hc => by first | rfl | (rw [hc]; rfl) | simp_all⟩)) rfl rfl ?_)
  refine o_keep (.c 0 rfl (.c 1 rfl (.c 2 rfl (.c 6 rfl (.c 18 rfl .n))))) ?_
  refine r_cond _ rfl (fun h1 => ?_) (fun h1 => ?_)
  · try simp only [Bool.and_eq_true, Bool.or_eq_true, Bool.or_eq_false_iff, Bool.not_eq_true', Bool.not_eq_false', decide_eq_true_eq, decide_eq_false_iff_not, Bool.and_eq_false_iff] at h1
    have hs := endS_1 (s := s) (b := dn) h1
    refine r_seq ?_
    refine r_region ?_
    refine p_as rfl rfl ?_
    refine o_keep (.c 0 rfl (.c 1 rfl (.c 2 rfl (.c 6 rfl .n)))) ?_
    refine r_retv hF rfl (.c (.t rfl) .n) ?_ ?_
    · refine Ent.catI ?_; rw [hs]; refine Ent.c (boothP_close hv ov dv rfl rfl rfl rfl) ?_; first | exact Ent.rfl | (repeat (first | exact Ent.rfl | refine Ent.c (SelB.ent) ?_ | refine Ent.c (SelS.ent) ?_ | refine Ent.cN ?_ | refine Ent.c (SelX.ent) ?_ | refine Ent.dropR ?_))
    · rw [hs]; rfl
  · try simp only [Bool.and_eq_true, Bool.or_eq_true, Bool.or_eq_false_iff, Bool.not_eq_true', Bool.not_eq_false', decide_eq_true_eq, decide_eq_false_iff_not, Bool.and_eq_false_iff] at h1
    have hd : ¬ (d < 0 ∨ 8 ≤ d) := by omega
    refine r_skip ?_
    refine r_seq ?_
    refine r_seq ?_
    refine r_region ?_
    refine p_mv rfl rfl ?_
    refine p_mv rfl rfl ?_
    refine p_callv cf_104 (.c rfl (.c rfl .n)) rfl ((booth_Over_o _ b s hv ov dv (by omega) d).q) ?_
    refine p_mv rfl rfl ?_
    refine p_ext rfl rfl rfl ?_
    refine p_ext rfl rfl rfl ?_
    refine p_as rfl rfl ?_
    refine p_as rfl rfl ?_
    refine o_keep (.c 0 rfl (.c 1 rfl (.c 2 rfl (.c 6 rfl (.c 7 rfl (.c 8 rfl .n)))))) ?_
    refine r_seq ?_
    refine r_region ?_
    refine p_mv rfl rfl ?_
    refine o_keep (.c 0 rfl (.c 1 rfl (.c 2 rfl (.c 6 rfl (.c 8 rfl (.c 25 rfl .n)))))) ?_
    refine r_cond _ rfl (fun h2 => ?_) (fun h2 => ?_)
    · try simp only [Bool.and_eq_true, Bool.or_eq_true, Bool.or_eq_false_iff, Bool.not_eq_true', Bool.not_eq_false', decide_eq_true_eq, decide_eq_false_iff_not, Bool.and_eq_false_iff] at h2
      obtain ⟨was, hov⟩ := Option.isSome_iff_exists.1 (show (overL s.over d).isSome = true from h2)
      have hs := endS_2 (b := dn) hd hov
      refine r_seq ?_
      refine r_seq ?_
      refine r_region ?_
      refine p_mv rfl rfl ?_
      refine p_mv rfl rfl ?_
      refine l_op (x_p (pv_bne Try.underlying4 (.n rfl) rfl rfl rfl (fun _ => ⟨rfl, rfl⟩)) rfl rfl ?_)
      refine o_keep (.c 0 rfl (.c 1 rfl (.c 2 rfl (.c 6 rfl (.c 28 rfl .n))))) ?_
      refine r_cond _ rfl (fun h3 => ?_) (fun h3 => ?_)
      · try simp only [Bool.and_eq_true, Bool.or_eq_true, Bool.or_eq_false_iff, Bool.not_eq_true', Bool.not_eq_false', decide_eq_true_eq, decide_eq_false_iff_not, Bool.and_eq_false_iff] at h3
        have hne := h3
        refine r_seq ?_
        refine r_region ?_
        refine p_as rfl rfl ?_
        refine o_keep (.c 0 rfl (.c 1 rfl (.c 2 rfl (.c 6 rfl .n)))) ?_
        refine r_retv hF rfl (.c (.t rfl) .n) ?_ ?_
        · refine Ent.catI ?_; rw [hs]; refine Ent.c (boothP_close hv ov dv rfl rfl rfl rfl) ?_; first | exact Ent.rfl | (repeat (first | exact Ent.rfl | refine Ent.c (SelB.ent) ?_ | refine Ent.c (SelS.ent) ?_ | refine Ent.cN ?_ | refine Ent.c (SelX.ent) ?_ | refine Ent.dropR ?_))
        · rw [hs]; exact int_eq' (by rw [hov] at hne; simp at hne; simp [hne])
      · try simp only [Bool.and_eq_true, Bool.or_eq_true, Bool.or_eq_false_iff, Bool.not_eq_true', Bool.not_eq_false', decide_eq_true_eq, decide_eq_false_iff_not, Bool.and_eq_false_iff] at h3
        have hne := h3
        refine r_skip ?_
        refine r_seq ?_
        refine r_region ?_
        refine p_as rfl rfl ?_
        refine o_keep (.c 0 rfl (.c 1 rfl (.c 2 rfl (.c 6 rfl .n)))) ?_
        refine r_retv hF rfl (.c (.t rfl) .n) ?_ ?_
        · refine Ent.catI ?_; rw [hs]; refine Ent.c (boothP_close hv ov dv rfl rfl rfl rfl) ?_; first | exact Ent.rfl | (repeat (first | exact Ent.rfl | refine Ent.c (SelB.ent) ?_ | refine Ent.c (SelS.ent) ?_ | refine Ent.cN ?_ | refine Ent.c (SelX.ent) ?_ | refine Ent.dropR ?_))
        · rw [hs]; exact int_eq' (by rw [hov] at hne; simp at hne; simp [hne])
    · try simp only [Bool.and_eq_true, Bool.or_eq_true, Bool.or_eq_false_iff, Bool.not_eq_true', Bool.not_eq_false', decide_eq_true_eq, decide_eq_false_iff_not, Bool.and_eq_false_iff] at h2
      have hov : overL s.over d = none := by simpa using h2
      have hend := hS.end' (b := dn) (by omega) (by omega) hov
      have hs : (endS s d dn).2 = 0 := hend.2.1
      refine r_skip ?_
      refine r_seq ?_
      refine r_region ?_
      refine p_as rfl rfl ?_
      refine o_keep (.c 0 rfl (.c 1 rfl (.c 2 rfl (.c 6 rfl (.c 9 rfl .n))))) ?_
      refine r_seq ?_
      refine r_seq ?_
      refine r_region ?_
      refine p_as rfl rfl ?_
      refine o_keep (.c 0 rfl (.c 1 rfl (.c 2 rfl (.c 6 rfl (.c 9 rfl (.c 10 rfl .n)))))) ?_
      refine r_block ?_
      refine r_loop_2 (fun (i : Nat) (rv : Value) => [(10, true, .int .i64 (i : Int)), (9, true, rv)]) (.c 0 rfl (.c 1 rfl (.c 2 rfl (.c 6 rfl .n)))) (fun (i : Nat) (rv : Value) => blk b [.int .i64 s.no, .int .i64 (vE s.c0.v (2 * s.no) d dn (s.holds.take i)), .int .i64 (vE s.c1.v (2 * s.no + 1) d dn (s.holds.take i)), hv, ov, dv] 64 :: sl hv 54 3 (s.holds.map rH) :: sl ov 3 1 ((s.over.map (·.deal)).map rI) :: sl dv 3 1 ((s.over.map dnI).map rI) :: sl rv 54 3 ((restH d (s.holds.take i)).map rH) :: R) (fun (i : Nat) (rv : Value) => i ≤ s.holds.length) (fun (i : Nat) (rv : Value) => s.holds.length - i) (0) (.slice Option.none 0 0) ?_ (.c 10 rfl (.c 9 rfl .n)) ?_ (fun i rv hI => ?_)
      · exact Nat.zero_le _
      · rw [List.take_zero, vE_nil, vE_nil]; first | exact Ent.rfl | (repeat (first | exact Ent.rfl | refine Ent.c (SelB.ent) ?_ | refine Ent.c (SelS.ent) ?_ | refine Ent.cN ?_ | refine Ent.c (SelX.ent) ?_ | refine Ent.dropR ?_))
      · skip
        have hil := hI
        refine r_seq ?_
        refine r_seq ?_
        refine r_region ?_
        refine p_mv rfl rfl ?_
        refine p_mv rfl rfl ?_
        refine p_nil rfl rfl ?_
        refine p_fa fa_64_2 rfl rfl ?_
        refine p_ldc tc_45 rfl (by rfl) rfl ?_
        refine l_op (x_p (pv_lens (Rd.len hrh) ⟨_, Try.underlying45⟩ (.n rfl) rfl rfl rfl rfl (fun _ => rfl)) rfl rfl ?_)
        refine p_lss rfl rfl rfl ?_
        refine o_keep (.c 0 rfl (.c 1 rfl (.c 2 rfl (.c 6 rfl (.c 9 rfl (.c 10 rfl (.c 35 rfl .n))))))) ?_
        refine r_cond _ rfl (fun h4 => ?_) (fun h4 => ?_)
        · try simp only [Bool.and_eq_true, Bool.or_eq_true, Bool.or_eq_false_iff, Bool.not_eq_true', Bool.not_eq_false', decide_eq_true_eq, decide_eq_false_iff_not, Bool.and_eq_false_iff] at h4
          obtain ⟨x, hx⟩ := getlt (l := s.holds) (i := i) (by omega)
          have hts := take_S hx
          have hre := restH_app d (s.holds.take i) x
          rw [← hts] at hre
          have hxk := hS.h x (List.mem_of_getElem? hx)
          have hck0 := chk_ok hS.k0
          have hck1 := chk_ok hS.k1
          have hb0 := vE_le hS s.c0.v (2 * s.no) d dn i (by omega)
          have hb1 := vE_le hS s.c1.v (2 * s.no + 1) d dn i (by omega)
          have hdl0 := hS.dl x (List.mem_of_getElem? hx)
          refine r_skip ?_
          refine r_seq ?_
          refine r_block ?_
          refine r_seq ?_
          refine r_region ?_
          refine p_mv rfl rfl ?_
          refine p_nil rfl rfl ?_
          refine p_fa fa_64_2 rfl rfl ?_
          refine p_ldc tc_45 rfl (by rfl) rfl ?_
          refine p_mv rfl rfl ?_
          refine p_idx Try.underlying45 (.ofA ta_54) hrh rfl (mapget hx) rfl rfl rfl ?_
          refine p_ldats 0 ta_54 (Rd.ent hrh (by repeat (first | exact Ent.rfl | exact Ent.one Ent.h | exact Ent.one (SelS.ent) | exact Ent.nil | exact Ent.left | refine Ent.dropR ?_ | refine Ent.tr Ent.skip ?_))) (mapget hx) rfl rfl (.s (.s (.s .z))) rfl ?_
          refine p_alloc zr_54 rfl fun b11 => ?_
          refine p_store (.ofA ta_54) rfl rfl rfl (by first | rfl | exact rfl) (by first | rfl | exact rfl) (Ins.whole (by first | rfl | (simp only [List.length_map, List.length_cons, List.length_nil]; omega) | (simp [*]; done) | (simp [*]; rfl))) ?_
          refine o_keep (.c 0 rfl (.c 1 rfl (.c 2 rfl (.c 6 rfl (.c 9 rfl (.c 10 rfl (.c 11 rfl .n))))))) ?_
          refine r_seq ?_
          refine r_region ?_
          refine p_fa fa_54_0 rfl rfl ?_
          refine p_ldc tc_3 rfl (by rfl) rfl ?_
          refine p_mv rfl rfl ?_
          refine p_neq rfl rfl rfl ?_
          refine o_keep (.c 0 rfl (.c 1 rfl (.c 2 rfl (.c 6 rfl (.c 9 rfl (.c 10 rfl (.c 11 rfl (.c 48 rfl .n)))))))) ?_
          refine r_cond _ rfl (fun h5 => ?_) (fun h5 => ?_)
          · try simp only [Bool.and_eq_true, Bool.or_eq_true, Bool.or_eq_false_iff, Bool.not_eq_true', Bool.not_eq_false', decide_eq_true_eq, decide_eq_false_iff_not, Bool.and_eq_false_iff] at h5
            rw [if_neg h5] at hre
            have hxd : ¬ x.deal = d := h5
            have hu0 := vE_skip hx s.c0.v (2 * s.no) d dn (.inl fun q => hxd q.2)
            have hu1 := vE_skip hx s.c1.v (2 * s.no + 1) d dn (.inl fun q => hxd q.2)
            refine r_region ?_
            refine p_mv rfl rfl ?_
            refine p_lda ta_54 rfl (by exact (Tk.all rfl)) rfl ?_
            refine p_bslice1 Try.underlying45 (.ofA ta_54) zr_54 rfl rfl rfl rfl rfl rfl rfl fun b51 => ?_
            refine p_append Try.underlying45 el_54 rfl rfl rfl rfl rfl (Rd.blit rfl rfl) (by simp; have := restH_le d (s.holds.take i); simp at this; omega) fun v52 => ?_
            refine o_rd v52 fun hr52 => ?_
            refine p_as rfl rfl ?_
            refine o_keep (.c 0 rfl (.c 1 rfl (.c 2 rfl (.c 6 rfl (.c 9 rfl (.c 10 rfl .n)))))) ?_
            refine r_end ?_
            refine r_region ?_
            refine p_mv rfl rfl ?_
            refine p_add rfl rfl (by omega) rfl ?_
            refine p_as rfl rfl ?_
            refine o_keep (.c 0 rfl (.c 1 rfl (.c 2 rfl (.c 6 rfl (.c 9 rfl (.c 10 rfl .n)))))) ?_
            refine r_back_2 (i + 1) (_) ?_ ?_ (Keep.app (.c 10 rfl (.c 9 rfl .n)) (.c 0 rfl (.c 1 rfl (.c 2 rfl (.c 6 rfl .n))))) ?_
            · omega
            · omega
            · rw [hu0, hu1, hre, List.map_append]; first | exact Ent.rfl | (repeat (first | exact Ent.rfl | refine Ent.c (SelB.ent) ?_ | refine Ent.c (SelS.ent) ?_ | refine Ent.cN ?_ | refine Ent.c (SelX.ent) ?_ | refine Ent.dropR ?_))
          · try simp only [Bool.and_eq_true, Bool.or_eq_true, Bool.or_eq_false_iff, Bool.not_eq_true', Bool.not_eq_false', decide_eq_true_eq, decide_eq_false_iff_not, Bool.and_eq_false_iff] at h5
            have hxd : x.deal = d := by simpa using h5
            rw [if_pos hxd] at hre
            refine r_seq ?_
            refine r_region ?_
            refine p_mv rfl rfl ?_
            refine o_keep (.c 0 rfl (.c 1 rfl (.c 2 rfl (.c 6 rfl (.c 9 rfl (.c 10 rfl (.c 11 rfl (.c 53 rfl .n)))))))) ?_
            refine r_cond _ rfl (fun h6 => ?_) (fun h6 => ?_)
            · try simp only [Bool.and_eq_true, Bool.or_eq_true, Bool.or_eq_false_iff, Bool.not_eq_true', Bool.not_eq_false', decide_eq_true_eq, decide_eq_false_iff_not, Bool.and_eq_false_iff] at h6
              have hdn : dn = true := h6
              rcases hxk.2.2.2.1 with hk | hk
              · skip
                have hu0 := vE_hit hx s.c0.v (2 * s.no) d dn hk hxd hdn
                have hu1 := vE_skip hx s.c1.v (2 * s.no + 1) d dn (.inl fun q => by have := q.1; omega)
                refine r_plan _ [] mo (.c 0 rfl (.c 1 rfl (.c 2 rfl (.c 6 rfl (.c 9 rfl (.c 10 rfl (.c 11 rfl .n))))))) Ent.rfl ?_
                refine qm_q (i := 0) (l := [.k 0]) rfl rfl rfl rfl (by kernel_rfl) rfl (fun He => PV.rq (pv_mv (.n rfl) rfl rfl (fun _ => rfl))) ?_
                refine qm_q (i := 1) (l := [.k 11]) rfl rfl rfl rfl (by kernel_rfl) rfl (fun He => PV.rq (pv_fa fa_54_1 (.n rfl) rfl rfl (fun _ => rfl))) ?_
                refine qm_q (i := 2) (l := [.o 1]) rfl rfl rfl rfl (by kernel_rfl) rfl (fun He => RV.rq (q_ldc tc_3 (.n rfl) rfl rfl (fun _ => rfl) (by rfl))) ?_
                refine qm_q (i := 3) (l := [.k 0]) rfl rfl rfl rfl (by kernel_rfl) rfl (fun He => PV.rq (pv_mv (.n rfl) rfl rfl (fun _ => rfl))) ?_
                refine qm_q (i := 4) (l := [.o 3]) rfl rfl rfl rfl (by kernel_rfl) rfl (fun He => PV.rq (pv_nilp (.n rfl) rfl rfl (fun _ => rfl))) ?_
                refine qm_q (i := 5) (l := [.o 4]) rfl rfl rfl rfl (by kernel_rfl) rfl (fun He => PV.rq (pv_fa fa_64_0 (.n rfl) rfl rfl (fun _ => rfl))) ?_
                refine qm_q (i := 6) (l := [.o 5]) rfl rfl rfl rfl (by kernel_rfl) rfl (fun He => RV.rq (q_ldc tc_3 (.n rfl) rfl rfl (fun _ => rfl) (by rfl))) ?_
                refine qm_q (i := 7) (l := [.o 6]) rfl rfl rfl rfl (by kernel_rfl) rfl (fun He => PV.rq (pv_mul (fun _ => by omega) (.n rfl) rfl rfl rfl (fun _ => ⟨rfl, rfl⟩))) ?_
                refine qm_q (i := 8) (l := [.o 2, .o 7]) rfl rfl rfl rfl (by kernel_rfl) rfl (fun He => PV.rq (pv_sub (fun _ => by omega) (.n rfl) rfl rfl rfl (fun _ => ⟨rfl, rfl⟩))) ?_
                refine qm_q (i := 9) (l := [.o 0]) rfl rfl rfl rfl (by kernel_rfl) rfl (fun He => PV.rq (pv_nilp (.n rfl) rfl rfl (fun _ => rfl))) ?_
                refine qm_q (i := 10) (l := [.o 9]) rfl rfl rfl rfl (by kernel_rfl) rfl (fun He => PV.rq (pv_fa fa_64_1 (.n rfl) rfl rfl (fun _ => rfl))) ?_
                refine qm_q (i := 11) (l := [.o 10, .o 8]) rfl rfl rfl rfl (by kernel_rfl) rfl (fun He => PV.rq (pv_aidx (i := 0) Try.underlying61 (.ofC tc_3) (fun hg => ⟨by omega, by omega⟩) (.n rfl) rfl rfl rfl (fun _ => ⟨rfl, rfl⟩))) ?_
                refine qm_q (i := 12) (l := [.o 11]) rfl rfl rfl rfl (by kernel_rfl) rfl (fun He => RV.rq (q_ldc tc_3 (.n rfl) rfl rfl (fun _ => rfl) (by rfl))) ?_
                refine qm_q (i := 13) (l := [.k 11]) rfl rfl rfl rfl (by kernel_rfl) rfl (fun He => PV.rq (pv_fa fa_54_2 (.n rfl) rfl rfl (fun _ => rfl))) ?_
                refine qm_q (i := 14) (l := [.o 13]) rfl rfl rfl rfl (by kernel_rfl) rfl (fun He => RV.rq (q_ldc tc_3 (.n rfl) rfl rfl (fun _ => rfl) (by rfl))) ?_
                refine qm_q (i := 15) (l := [.o 12, .o 14]) rfl rfl rfl rfl (by kernel_rfl) rfl (fun He => PV.rq (pv_add (fun _ => by omega) (.n rfl) rfl rfl rfl (fun _ => ⟨rfl, rfl⟩))) ?_
                refine qm_q (i := 16) (l := [.o 0]) rfl rfl rfl rfl (by kernel_rfl) rfl (fun He => PV.rq (pv_nilp (.n rfl) rfl rfl (fun _ => rfl))) ?_
                refine qm_q (i := 17) (l := [.o 16]) rfl rfl rfl rfl (by kernel_rfl) rfl (fun He => PV.rq (pv_fa fa_64_1 (.n rfl) rfl rfl (fun _ => rfl))) ?_
                refine qm_q (i := 18) (l := [.o 17, .o 8]) rfl rfl rfl rfl (by kernel_rfl) rfl (fun He => PV.rq (pv_aidx (i := 0) Try.underlying61 (.ofC tc_3) (fun hg => ⟨by omega, by omega⟩) (.n rfl) rfl rfl rfl (fun _ => ⟨rfl, rfl⟩))) ?_
                refine qb_store (.ofC tc_3) (i := 19) [.o 18, .o 15] (by kernel_rfl) (by kernel_rfl) rfl rfl rfl (by kernel_rfl) (by kernel_rfl) (by kernel_rfl) ⟨_, .n rfl, rfl⟩ rfl rfl rfl rfl rfl rfl (by repeat constructor) ?_
                refine qm_n (by kernel_rfl) (by kernel_rfl) (by kernel_rfl) (by kernel_rfl) (.c 0 rfl (.c 1 rfl (.c 2 rfl (.c 6 rfl (.c 9 rfl (.c 10 rfl .n)))))) ?_
                refine r_end ?_
                refine r_region ?_
                refine p_mv rfl rfl ?_
                refine p_add rfl rfl (by omega) rfl ?_
                refine p_as rfl rfl ?_
                refine o_keep (.c 0 rfl (.c 1 rfl (.c 2 rfl (.c 6 rfl (.c 9 rfl (.c 10 rfl .n)))))) ?_
                refine r_back_2 (i + 1) (rv) ?_ ?_ (Keep.app (.c 10 rfl (.c 9 rfl .n)) (.c 0 rfl (.c 1 rfl (.c 2 rfl (.c 6 rfl .n))))) ?_
                · omega
                · omega
                · rw [hu0, hu1, hre, List.append_nil]; first | exact Ent.rfl | (repeat (first | exact Ent.rfl | refine Ent.c (SelB.ent) ?_ | refine Ent.c (SelS.ent) ?_ | refine Ent.cN ?_ | refine Ent.c (SelX.ent) ?_ | refine Ent.dropR ?_))
              · skip
                have hu0 := vE_skip hx s.c0.v (2 * s.no) d dn (.inl fun q => by have := q.1; omega)
                have hu1 := vE_hit hx s.c1.v (2 * s.no + 1) d dn hk hxd hdn
                refine r_plan _ [] mo (.c 0 rfl (.c 1 rfl (.c 2 rfl (.c 6 rfl (.c 9 rfl (.c 10 rfl (.c 11 rfl .n))))))) Ent.rfl ?_
                refine qm_q (i := 0) (l := [.k 0]) rfl rfl rfl rfl (by kernel_rfl) rfl (fun He => PV.rq (pv_mv (.n rfl) rfl rfl (fun _ => rfl))) ?_
                refine qm_q (i := 1) (l := [.k 11]) rfl rfl rfl rfl (by kernel_rfl) rfl (fun He => PV.rq (pv_fa fa_54_1 (.n rfl) rfl rfl (fun _ => rfl))) ?_
                refine qm_q (i := 2) (l := [.o 1]) rfl rfl rfl rfl (by kernel_rfl) rfl (fun He => RV.rq (q_ldc tc_3 (.n rfl) rfl rfl (fun _ => rfl) (by rfl))) ?_
                refine qm_q (i := 3) (l := [.k 0]) rfl rfl rfl rfl (by kernel_rfl) rfl (fun He => PV.rq (pv_mv (.n rfl) rfl rfl (fun _ => rfl))) ?_
                refine qm_q (i := 4) (l := [.o 3]) rfl rfl rfl rfl (by kernel_rfl) rfl (fun He => PV.rq (pv_nilp (.n rfl) rfl rfl (fun _ => rfl))) ?_
                refine qm_q (i := 5) (l := [.o 4]) rfl rfl rfl rfl (by kernel_rfl) rfl (fun He => PV.rq (pv_fa fa_64_0 (.n rfl) rfl rfl (fun _ => rfl))) ?_
                refine qm_q (i := 6) (l := [.o 5]) rfl rfl rfl rfl (by kernel_rfl) rfl (fun He => RV.rq (q_ldc tc_3 (.n rfl) rfl rfl (fun _ => rfl) (by rfl))) ?_
                refine qm_q (i := 7) (l := [.o 6]) rfl rfl rfl rfl (by kernel_rfl) rfl (fun He => PV.rq (pv_mul (fun _ => by omega) (.n rfl) rfl rfl rfl (fun _ => ⟨rfl, rfl⟩))) ?_
                refine qm_q (i := 8) (l := [.o 2, .o 7]) rfl rfl rfl rfl (by kernel_rfl) rfl (fun He => PV.rq (pv_sub (fun _ => by omega) (.n rfl) rfl rfl rfl (fun _ => ⟨rfl, rfl⟩))) ?_
                refine qm_q (i := 9) (l := [.o 0]) rfl rfl rfl rfl (by kernel_rfl) rfl (fun He => PV.rq (pv_nilp (.n rfl) rfl rfl (fun _ => rfl))) ?_
                refine qm_q (i := 10) (l := [.o 9]) rfl rfl rfl rfl (by kernel_rfl) rfl (fun He => PV.rq (pv_fa fa_64_1 (.n rfl) rfl rfl (fun _ => rfl))) ?_
                refine qm_q (i := 11) (l := [.o 10, .o 8]) rfl rfl rfl rfl (by kernel_rfl) rfl (fun He => PV.rq (pv_aidx (i := 1) Try.underlying61 (.ofC tc_3) (fun hg => ⟨by omega, by omega⟩) (.n rfl) rfl rfl rfl (fun _ => ⟨rfl, rfl⟩))) ?_
                refine qm_q (i := 12) (l := [.o 11]) rfl rfl rfl rfl (by kernel_rfl) rfl (fun He => RV.rq (q_ldc tc_3 (.n rfl) rfl rfl (fun _ => rfl) (by rfl))) ?_
                refine qm_q (i := 13) (l := [.k 11]) rfl rfl rfl rfl (by kernel_rfl) rfl (fun He => PV.rq (pv_fa fa_54_2 (.n rfl) rfl rfl (fun _ => rfl))) ?_
                refine qm_q (i := 14) (l := [.o 13]) rfl rfl rfl rfl (by kernel_rfl) rfl (fun He => RV.rq (q_ldc tc_3 (.n rfl) rfl rfl (fun _ => rfl) (by rfl))) ?_
                refine qm_q (i := 15) (l := [.o 12, .o 14]) rfl rfl rfl rfl (by kernel_rfl) rfl (fun He => PV.rq (pv_add (fun _ => by omega) (.n rfl) rfl rfl rfl (fun _ => ⟨rfl, rfl⟩))) ?_
                refine qm_q (i := 16) (l := [.o 0]) rfl rfl rfl rfl (by kernel_rfl) rfl (fun He => PV.rq (pv_nilp (.n rfl) rfl rfl (fun _ => rfl))) ?_
                refine qm_q (i := 17) (l := [.o 16]) rfl rfl rfl rfl (by kernel_rfl) rfl (fun He => PV.rq (pv_fa fa_64_1 (.n rfl) rfl rfl (fun _ => rfl))) ?_
                refine qm_q (i := 18) (l := [.o 17, .o 8]) rfl rfl rfl rfl (by kernel_rfl) rfl (fun He => PV.rq (pv_aidx (i := 1) Try.underlying61 (.ofC tc_3) (fun hg => ⟨by omega, by omega⟩) (.n rfl) rfl rfl rfl (fun _ => ⟨rfl, rfl⟩))) ?_
                refine qb_store (.ofC tc_3) (i := 19) [.o 18, .o 15] (by kernel_rfl) (by kernel_rfl) rfl rfl rfl (by kernel_rfl) (by kernel_rfl) (by kernel_rfl) ⟨_, .n rfl, rfl⟩ rfl rfl rfl rfl rfl rfl (by repeat constructor) ?_
                refine qm_n (by kernel_rfl) (by kernel_rfl) (by kernel_rfl) (by kernel_rfl) (.c 0 rfl (.c 1 rfl (.c 2 rfl (.c 6 rfl (.c 9 rfl (.c 10 rfl .n)))))) ?_
                refine r_end ?_
                refine r_region ?_
                refine p_mv rfl rfl ?_
                refine p_add rfl rfl (by omega) rfl ?_
                refine p_as rfl rfl ?_
                refine o_keep (.c 0 rfl (.c 1 rfl (.c 2 rfl (.c 6 rfl (.c 9 rfl (.c 10 rfl .n)))))) ?_
                refine r_back_2 (i + 1) (rv) ?_ ?_ (Keep.app (.c 10 rfl (.c 9 rfl .n)) (.c 0 rfl (.c 1 rfl (.c 2 rfl (.c 6 rfl .n))))) ?_
                · omega
                · omega
                · rw [hu0, hu1, hre, List.append_nil]; first | exact Ent.rfl | (repeat (first | exact Ent.rfl | refine Ent.c (SelB.ent) ?_ | refine Ent.c (SelS.ent) ?_ | refine Ent.cN ?_ | refine Ent.c (SelX.ent) ?_ | refine Ent.dropR ?_))
            · try simp only [Bool.and_eq_true, Bool.or_eq_true, Bool.or_eq_false_iff, Bool.not_eq_true', Bool.not_eq_false', decide_eq_true_eq, decide_eq_false_iff_not, Bool.and_eq_false_iff] at h6
              have hdn : dn = false := by simpa using h6
              have hu0 := vE_skip hx s.c0.v (2 * s.no) d dn (.inr hdn)
              have hu1 := vE_skip hx s.c1.v (2 * s.no + 1) d dn (.inr hdn)
              refine r_skip ?_
              refine r_end ?_
              refine r_region ?_
              refine p_mv rfl rfl ?_
              refine p_add rfl rfl (by omega) rfl ?_
              refine p_as rfl rfl ?_
              refine o_keep (.c 0 rfl (.c 1 rfl (.c 2 rfl (.c 6 rfl (.c 9 rfl (.c 10 rfl .n)))))) ?_
              refine r_back_2 (i + 1) (rv) ?_ ?_ (Keep.app (.c 10 rfl (.c 9 rfl .n)) (.c 0 rfl (.c 1 rfl (.c 2 rfl (.c 6 rfl .n))))) ?_
              · omega
              · omega
              · rw [hu0, hu1, hre, List.append_nil]; first | exact Ent.rfl | (repeat (first | exact Ent.rfl | refine Ent.c (SelB.ent) ?_ | refine Ent.c (SelS.ent) ?_ | refine Ent.cN ?_ | refine Ent.c (SelX.ent) ?_ | refine Ent.dropR ?_))
        · try simp only [Bool.and_eq_true, Bool.or_eq_true, Bool.or_eq_false_iff, Bool.not_eq_true', Bool.not_eq_false', decide_eq_true_eq, decide_eq_false_iff_not, Bool.and_eq_false_iff] at h4
          have hil2 : s.holds.length ≤ i := by omega
          rw [List.take_of_length_le hil2]
          refine r_exit rfl ?_
          refine r_seq ?_
          refine r_rd rv fun hrr => ?_
          refine r_region ?_
          refine p_mv rfl rfl ?_
          refine p_mv rfl rfl ?_
          refine p_nil rfl rfl ?_
          refine p_fa fa_64_2 rfl rfl ?_
          refine p_store (.ofC tc_45) rfl rfl hrr.c1 rfl hrr.o1 (by repeat constructor) ?_
          refine o_keep (.c 0 rfl (.c 1 rfl (.c 2 rfl (.c 6 rfl .n)))) ?_
          refine r_seq ?_
          refine r_region ?_
          refine p_mv rfl rfl ?_
          refine p_mv rfl rfl ?_
          refine p_nil rfl rfl ?_
          refine p_fa fa_64_3 rfl rfl ?_
          refine p_ldc tc_62 rfl (by rfl) rfl ?_
          refine p_mv rfl rfl ?_
          refine p_bslice1 Try.underlying62 (.ofC tc_3) zr_3 rfl rfl rfl rfl rfl rfl rfl fun b83 => ?_
          refine p_append Try.underlying62 el_3 rfl rfl rfl rfl rfl (Rd.blit rfl rfl) (by simp; omega) fun v84 => ?_
          refine o_rd v84 fun hr84 => ?_
          refine p_nil rfl rfl ?_
          refine p_fa fa_64_3 rfl rfl ?_
          refine p_store (.ofC tc_62) rfl rfl hr84.c1 rfl hr84.o1 (by repeat constructor) ?_
          refine o_keep (.c 0 rfl (.c 2 rfl (.c 6 rfl .n))) ?_
          refine r_seq ?_
          refine r_region ?_
          refine p_as rfl rfl ?_
          refine o_keep (.c 0 rfl (.c 2 rfl (.c 6 rfl (.c 12 rfl .n)))) ?_
          refine r_seq ?_
          refine r_seq ?_
          refine r_region ?_
          refine p_mv rfl rfl ?_
          refine o_keep (.c 0 rfl (.c 6 rfl (.c 12 rfl (.c 87 rfl .n)))) ?_
          refine r_cond _ rfl (fun h7 => ?_) (fun h7 => ?_)
          · try simp only [Bool.and_eq_true, Bool.or_eq_true, Bool.or_eq_false_iff, Bool.not_eq_true', Bool.not_eq_false', decide_eq_true_eq, decide_eq_false_iff_not, Bool.and_eq_false_iff] at h7
            have hdn : dn = true := h7
            refine r_region ?_
            refine p_as rfl rfl ?_
            refine o_keep (.c 0 rfl (.c 6 rfl (.c 12 rfl .n))) ?_
            refine r_seq ?_
            refine r_region ?_
            refine p_mv rfl rfl ?_
            refine p_mv rfl rfl ?_
            refine p_nil rfl rfl ?_
            refine p_fa fa_64_4 rfl rfl ?_
            refine p_ldc tc_62 rfl (by rfl) rfl ?_
            refine p_mv rfl rfl ?_
            refine p_bslice1 Try.underlying62 (.ofC tc_3) zr_3 rfl rfl rfl rfl rfl rfl rfl fun b94 => ?_
            refine p_append Try.underlying62 el_3 rfl rfl rfl rfl rfl (Rd.blit rfl rfl) (by simp; omega) fun v95 => ?_
            refine o_rd v95 fun hr95 => ?_
            refine p_nil rfl rfl ?_
            refine p_fa fa_64_4 rfl rfl ?_
            refine p_store (.ofC tc_62) rfl rfl hr95.c1 rfl hr95.o1 (by repeat constructor) ?_
            refine o_keep (.c 6 rfl .n) ?_
            refine r_seq ?_
            refine r_region ?_
            refine p_as rfl rfl ?_
            refine o_keep (.c 6 rfl .n) ?_
            refine r_retv hF rfl (.c (.t rfl) .n) ?_ ?_
            · refine Ent.catI ?_; obtain ⟨q1, q2, q3, q4, q5, q6, q7⟩ := hend; refine Ent.c (boothP_close rv v84 v95 (by rw [boC, q3, q6, q7]; rfl) (by rw [q4]) (by rw [q5, List.map_append, List.map_append]; rfl) (by rw [q5, List.map_append, List.map_append]; first | rfl | (simp [dnI, hdn]; rfl) | simp [dnI, hdn, rI])) ?_; first | exact Ent.rfl | (repeat (first | exact Ent.rfl | refine Ent.c (SelB.ent) ?_ | refine Ent.c (SelS.ent) ?_ | refine Ent.cN ?_ | refine Ent.c (SelX.ent) ?_ | refine Ent.dropR ?_))
            · rw [hs]; rfl
          · try simp only [Bool.and_eq_true, Bool.or_eq_true, Bool.or_eq_false_iff, Bool.not_eq_true', Bool.not_eq_false', decide_eq_true_eq, decide_eq_false_iff_not, Bool.and_eq_false_iff] at h7
            have hdn : dn = false := by simpa using h7
            refine r_skip ?_
            refine r_seq ?_
            refine r_region ?_
            refine p_mv rfl rfl ?_
            refine p_mv rfl rfl ?_
            refine p_nil rfl rfl ?_
            refine p_fa fa_64_4 rfl rfl ?_
            refine p_ldc tc_62 rfl (by rfl) rfl ?_
            refine p_mv rfl rfl ?_
            refine p_bslice1 Try.underlying62 (.ofC tc_3) zr_3 rfl rfl rfl rfl rfl rfl rfl fun b94 => ?_
            refine p_append Try.underlying62 el_3 rfl rfl rfl rfl rfl (Rd.blit rfl rfl) (by simp; omega) fun v95 => ?_
            refine o_rd v95 fun hr95 => ?_
            refine p_nil rfl rfl ?_
            refine p_fa fa_64_4 rfl rfl ?_
            refine p_store (.ofC tc_62) rfl rfl hr95.c1 rfl hr95.o1 (by repeat constructor) ?_
            refine o_keep (.c 6 rfl .n) ?_
            refine r_seq ?_
            refine r_region ?_
            refine p_as rfl rfl ?_
            refine o_keep (.c 6 rfl .n) ?_
            refine r_retv hF rfl (.c (.t rfl) .n) ?_ ?_
            · refine Ent.catI ?_; obtain ⟨q1, q2, q3, q4, q5, q6, q7⟩ := hend; refine Ent.c (boothP_close rv v84 v95 (by rw [boC, q3, q6, q7]; rfl) (by rw [q4]) (by rw [q5, List.map_append, List.map_append]; rfl) (by rw [q5, List.map_append, List.map_append]; first | rfl | (simp [dnI, hdn]; rfl) | simp [dnI, hdn, rI])) ?_; first | exact Ent.rfl | (repeat (first | exact Ent.rfl | refine Ent.c (SelB.ent) ?_ | refine Ent.c (SelS.ent) ?_ | refine Ent.cN ?_ | refine Ent.c (SelX.ent) ?_ | refine Ent.dropR ?_))
            · rw [hs]; rfl

end Go.Proofs.Ytmakdilmibjpbac
