/- The walks of MarkW: written by a program of ours (gen.py) over the engine. -/
import Derived.Test.YtmakdilmibjpbacGreatPlain
import Derived.Test.YtmakdilmibjpbacGreatFacts
import Derived.Test.YtmakdilmibjpbacGreatMarkP
import Derived.Test.YtmakdilmibjpbacGreatMarkB
import Derived.Test.YtmakdilmibjpbacGreatPenA
import Derived.Test.YtmakdilmibjpbacGreatBookW3
import Derived.Test.YtmakdilmibjpbacGreatTownW
namespace Go.Proofs.YtmakdilmibjpbacGreat
open Go Go.RowKit
set_option linter.unusedVariables false
set_option linter.unusedSimpArgs false
set_option maxRecDepth 20000

def mkN (ws : List Int) (cs : List Nat) : List Value := [.slice Option.none 0 0, .slice Option.none 0 0, .int .i64 (ws.getD 0 0), .int .i64 (ws.getD 1 0), .int .i64 (ws.getD 2 0), .int .i64 (ws.getD 3 0), .int .i64 (ws.getD 4 0), .int .i64 (ws.getD 5 0)] ++ ((cs.map ptr ++ List.replicate (3 - cs.length) (.pointer Option.none)) ++ [.slice Option.none 0 0])
theorem mk_ins {c j : Nat} {ws : List Int} : ∀ {cs : List Nat}, cs.length < 3 → j = 8 + cs.length → Ins (mkN ws cs) j [ptr c] (mkN ws (cs ++ [c]))
  | [], _, e => by subst e; exact (by repeat constructor)
  | [a], _, e => by subst e; exact (by repeat constructor)
  | [a, a'], _, e => by subst e; exact (by repeat constructor)
  | _ :: _ :: _ :: _, h, _ => by simp at h; omega
theorem mk_insN {j : Nat} {ws : List Int} : ∀ {cs : List Nat}, cs.length < 3 → j = 8 + cs.length → Ins (mkN ws cs) j [.pointer Option.none] (mkN ws cs)
  | [], _, e => by subst e; exact (by repeat constructor)
  | [a], _, e => by subst e; exact (by repeat constructor)
  | [a, a'], _, e => by subst e; exact (by repeat constructor)
  | _ :: _ :: _ :: _, h, _ => by simp at h; omega
theorem mk_get {c s : Nat} {ws : List Int} : ∀ {cs : List Nat}, cs.length < 3 → s = cs.length → (mkN ws (cs ++ [c]))[8 + s]? = some (ptr c)
  | [], _, e => by subst e; rfl
  | [a], _, e => by subst e; rfl
  | [a, a'], _, e => by subst e; rfl
  | _ :: _ :: _ :: _, h, _ => by simp at h; omega
theorem mk_getN {s : Nat} {ws : List Int} : ∀ {cs : List Nat}, cs.length < 3 → s = cs.length → (mkN ws cs)[8 + s]? = some (.pointer Option.none)
  | [], _, e => by subst e; rfl
  | [a], _, e => by subst e; rfl
  | [a, a'], _, e => by subst e; rfl
  | _ :: _ :: _ :: _, h, _ => by simp at h; omega
def mNewP : Option TownS → Nat → List HP
  | some t, b => [marketP b t]
  | none, _ => []

theorem market_New (M : Amb) (ws : List Int) (h6 : ws.length = 6) : FnE (α := Nat) Tryz.prog M 7 [.agg (ws.map vI).toArray] [] (fun x => tVal (newT ws) x) (fun x => mNewP (newT ws) x) := by
 obtain ⟨w0, w1, w2, w3, w4, w5, rfl⟩ := list6E h6
 refine fne_intro Tryz.func7 rfl Tryz.ntmps7 rfl fun R F hF => ?_
 show Run _ _ _ _ _ _ R
 refine r_sr (p_box rfl rfl rfl fun b1 => ?_)
 refine p_as rfl rfl (o_keep (.c 1 rfl (.c 2 rfl .n)) (r_seq ?_))
 refine r_cut_1 (fun (b : Nat) => [(3, true, ptr b)]) (.c 1 rfl (.c 2 rfl .n)) (fun (b : Nat) => blk b (mkN [w0, w1, w2, w3, w4, w5] []) 64 :: manyP penP [] [] :: blk b1 ([w0, w1, w2, w3, w4, w5].map vI) 23 :: R) (fun (b : Nat) => True) ?_ (fun b hI => ?_)
 ·skip
  refine r_region ?_
  refine p_lda ta_23 rfl (by exact (Tk.all rfl)) rfl ?_
  refine p_build zr_64 pl_64 (.c rfl (fun _ => rfl) rfl rfl rfl (by repeat constructor) .n) rfl ?_
  refine p_box rfl rfl rfl fun b7 => ?_
  refine p_as rfl rfl (o_keep (.c 1 rfl (.c 2 rfl (.c 3 rfl .n))) ?_)
  refine r_join_1 (b7) ?_ (Keep.app (.c 3 rfl .n) (.c 1 rfl (.c 2 rfl .n))) ?_
  ·trivial
  ·refine Ent.c (show Ent _ (blk b7 (mkN [w0, w1, w2, w3, w4, w5] []) 64 :: _) from SelB.ent) ?_; refine Ent.tr ?_ many_nil; repeat first|exact eR|refine eB ?_|refine eS ?_|refine eN ?_|refine eX ?_|refine eD ?_
 refine r_seq (r_sr (p_as rfl rfl (o_keep (.c 1 rfl (.c 2 rfl (.c 3 rfl (.c 4 rfl .n)))) (r_block ?_))))
 refine r_loop_3 (fun (s : Nat) (cs : List Nat) (ks : List KeepS) => [(4, true, .int .i64 (s : Int))]) (.c 1 rfl (.c 2 rfl (.c 3 rfl .n))) (fun (s : Nat) (cs : List Nat) (ks : List KeepS) => blk b (mkN [w0, w1, w2, w3, w4, w5] cs) 64 :: manyP penP cs ks :: blk b1 ([w0, w1, w2, w3, w4, w5].map vI) 23 :: R) (fun (s : Nat) (cs : List Nat) (ks : List KeepS) => s ≤ 3 ∧ cs.length = s ∧ ks.length = s ∧ ∀ j : Nat, j < s → newK (j : Int) [w0, w1, w2, w3, w4, w5] = ks[j]?) (fun (s : Nat) (cs : List Nat) (ks : List KeepS) => 3 - s) (0) ([]) ([]) ?_ (.c 4 rfl .n) ?_ (fun s cs ks hI => ?_)
 ·exact ⟨Nat.zero_le _, rfl, rfl, fun j hj => by omega⟩
 ·repeat first|exact eR|refine eB ?_|refine eS ?_|refine eN ?_|refine eX ?_|refine eD ?_
 ·skip
  obtain ⟨hs0, hcs, hks, hnk⟩ := hI
  refine r_seq (r_sr (p_mv rfl rfl (p_lss rfl rfl rfl (o_keep (.c 1 rfl (.c 2 rfl (.c 3 rfl (.c 4 rfl (.c 9 rfl .n))))) (r_cond _ rfl (fun h1 => ?_) (fun h1 => ?_))))))
  ·skip
   have hs3 : s < 3 := by have := of_decide_eq_true h1; omega
   refine r_skip (r_seq (r_block (r_seq ?_)))
   rcases hn : newS (s : Int) [w0, w1, w2, w3, w4, w5] with _ | s0
   ·skip
    refine r_plan _ [] mo (.c 1 rfl (.c 2 rfl (.c 3 rfl (.c 4 rfl .n)))) Ent.rfl ?_
    refine qp 0 [.k 3] rfl rfl rfl rfl (by kernel_rfl) rfl (u_mv rfl rfl rfl) (qp 1 [.k 4] rfl rfl rfl rfl (by kernel_rfl) rfl (u_mv rfl rfl rfl) (qp 2 [.k 4] rfl rfl rfl rfl (by kernel_rfl) rfl (u_mv rfl rfl rfl) (qr 3 [.k 1] rfl rfl rfl rfl (by kernel_rfl) rfl (fun He => q_lda ta_23 (.n rfl) rfl rfl (fun _ => rfl) (by exact (Tk.all rfl))) ?_)))
    refine qp 5 [.o 0] rfl rfl rfl rfl (by kernel_rfl) rfl (u_nil rfl rfl rfl) (qp 6 [.o 5] rfl rfl rfl rfl (by kernel_rfl) rfl (u_fa fa_64_2 rfl rfl rfl) ?_)
    refine qm_callc (i := 4) [.o 2, .o 3] (by kernel_rfl) (by kernel_rfl) rfl rfl rfl rfl (by kernel_rfl) (by kernel_rfl) ⟨_, .n rfl, rfl⟩ cf_24 rfl (.c rfl (.c rfl .n)) (pen_New_none _ s [w0, w1, w2, w3, w4, w5] rfl hn) ?_
    refine qp 7 [.o 6, .o 1] rfl rfl rfl rfl (by kernel_rfl) rfl (pv_aidx (i := s) Tryz.underlying61 (.ofC tc_60) (fun hg => ⟨rfl, hs3⟩) (.n rfl) rfl rfl rfl (fun _ => ⟨rfl, rfl⟩)) ?_
    refine qb_store (.ofC tc_60) (i := 8) [.o 7, .o 4] (by kernel_rfl) (by kernel_rfl) rfl rfl rfl (by kernel_rfl) (by kernel_rfl) (by kernel_rfl) ⟨_, .n rfl, rfl⟩ rfl rfl rfl rfl rfl rfl (mk_insN (by omega) (by omega)) ?_
    refine qm_n (by kernel_rfl) (by kernel_rfl) (by kernel_rfl) (by kernel_rfl) (.c 1 rfl (.c 2 rfl (.c 3 rfl (.c 4 rfl .n)))) ?_
    refine r_sr (p_mv rfl rfl (p_mv rfl rfl (p_nil rfl rfl (p_fa fa_64_2 rfl rfl (l_op (x_p (pv_aidx (i := s) Tryz.underlying61 (.ofC tc_60) (fun hg => ⟨rfl, hs3⟩) (.n rfl) rfl rfl rfl (fun _ => ⟨rfl, rfl⟩)) rfl rfl (l_op (x_r (q_ldci (i := 8 + s) tc_60 (.n rfl) rfl rfl (fun _ => rfl) (by omega) (mk_getN (by omega) (by omega))) rfl rfl ?_))))))))
    refine l_op (x_p (pv_peqn Tryz.underlying60 (.n rfl) rfl rfl rfl (fun _ => ⟨rfl, rfl⟩)) rfl rfl (o_keep (.c 1 rfl (.c 2 rfl (.c 3 rfl (.c 4 rfl (.c 26 rfl .n))))) (r_cond _ rfl (fun h2 => ?_) (fun h2 => ?_))))
    ·skip
     refine r_sr (p_as rfl rfl (o_keep (.c 1 rfl (.c 2 rfl (.c 3 rfl (.c 4 rfl .n)))) ?_))
     refine r_rete (0) hF rfl (.c (.t rfl) .n) ?_ ?_
     ·show Ent _ (mNewP _ _ ++ R); rw [newT_none hs3 hn]; show Ent _ R; repeat first|exact eR|refine eB ?_|refine eS ?_|refine eN ?_|refine eX ?_|refine eD ?_
     ·rw [newT_none hs3 hn]; rfl
    ·simp at h2
   ·skip
    refine r_plan _ [] mo (.c 1 rfl (.c 2 rfl (.c 3 rfl (.c 4 rfl .n)))) Ent.rfl ?_
    refine qp 0 [.k 3] rfl rfl rfl rfl (by kernel_rfl) rfl (u_mv rfl rfl rfl) (qp 1 [.k 4] rfl rfl rfl rfl (by kernel_rfl) rfl (u_mv rfl rfl rfl) (qp 2 [.k 4] rfl rfl rfl rfl (by kernel_rfl) rfl (u_mv rfl rfl rfl) (qr 3 [.k 1] rfl rfl rfl rfl (by kernel_rfl) rfl (fun He => q_lda ta_23 (.n rfl) rfl rfl (fun _ => rfl) (by exact (Tk.all rfl))) ?_)))
    refine qp 5 [.o 0] rfl rfl rfl rfl (by kernel_rfl) rfl (u_nil rfl rfl rfl) (qp 6 [.o 5] rfl rfl rfl rfl (by kernel_rfl) rfl (u_fa fa_64_2 rfl rfl rfl) ?_)
    refine qm_calle (i := 4) [.o 2, .o 3] (by kernel_rfl) (by kernel_rfl) rfl rfl rfl rfl (by kernel_rfl) (by kernel_rfl) ⟨_, .n rfl, rfl⟩ cf_24 rfl (.c rfl (.c rfl .n)) (pen_New_some _ s [w0, w1, w2, w3, w4, w5] rfl hn) fun cb => ?_
    refine qm_cat ?_
    refine qp 7 [.o 6, .o 1] rfl rfl rfl rfl (by kernel_rfl) rfl (pv_aidx (i := s) Tryz.underlying61 (.ofC tc_60) (fun hg => ⟨rfl, hs3⟩) (.n rfl) rfl rfl rfl (fun _ => ⟨rfl, rfl⟩)) ?_
    refine qb_store (.ofC tc_60) (i := 8) [.o 7, .o 4] (by kernel_rfl) (by kernel_rfl) rfl rfl rfl (by kernel_rfl) (by kernel_rfl) (by kernel_rfl) ⟨_, .n rfl, rfl⟩ rfl rfl rfl rfl rfl rfl (mk_ins (by omega) (by omega)) ?_
    refine qm_n (by kernel_rfl) (by kernel_rfl) (by kernel_rfl) (by kernel_rfl) (.c 1 rfl (.c 2 rfl (.c 3 rfl (.c 4 rfl .n)))) ?_
    refine r_sr (p_mv rfl rfl (p_mv rfl rfl (p_nil rfl rfl (p_fa fa_64_2 rfl rfl (l_op (x_p (pv_aidx (i := s) Tryz.underlying61 (.ofC tc_60) (fun hg => ⟨rfl, hs3⟩) (.n rfl) rfl rfl rfl (fun _ => ⟨rfl, rfl⟩)) rfl rfl (l_op (x_r (q_ldci (i := 8 + s) tc_60 (.n rfl) rfl rfl (fun _ => rfl) (by omega) (mk_get (by omega) (by omega))) rfl rfl ?_))))))))
    refine l_op (x_p (pv_peqn Tryz.underlying60 (.n rfl) rfl rfl rfl (fun _ => ⟨rfl, rfl⟩)) rfl rfl (o_keep (.c 1 rfl (.c 2 rfl (.c 3 rfl (.c 4 rfl (.c 26 rfl .n))))) (r_cond _ rfl (fun h3 => ?_) (fun h3 => ?_))))
    ·simp at h3
    ·skip
     refine r_skip (r_end (r_region (p_mv rfl rfl (p_add rfl rfl (by omega) rfl (p_as rfl rfl (o_keep (.c 1 rfl (.c 2 rfl (.c 3 rfl (.c 4 rfl .n)))) ?_))))))
     refine r_back_3 (s + 1) (cs ++ [cb]) (ks ++ [⟨s, [w0, w1, w2, w3, w4, w5], s0, []⟩]) ?_ ?_ (Keep.app (.c 4 rfl .n) (.c 1 rfl (.c 2 rfl (.c 3 rfl .n)))) ?_
     ·exact ⟨by omega, by simp; omega, by simp; omega, newK_next hks hnk (by unfold newK; rw [hn]; rfl)⟩
     ·omega
     ·refine Ent.c (SelB.ent) ?_; refine Ent.tr ?_ (many_add (hcs.trans hks.symm)); repeat first|exact eR|refine eB ?_|refine eS ?_|refine eN ?_|refine eX ?_|refine eD ?_
  ·skip
   have hs3 : s = 3 := by have := of_decide_eq_false h1; omega
   obtain ⟨c0, c1, c2, rfl⟩ := len_three (hcs.trans hs3)
   have hT := newT_some (ws := [w0, w1, w2, w3, w4, w5]) (hks.trans hs3) (by rw [← hs3]; exact hnk)
   refine r_exit rfl (r_sr (p_mv rfl rfl (p_as rfl rfl (o_keep (.c 2 rfl .n) ?_))))
   refine r_rete (b) hF rfl (.c (.t rfl) .n) ?_ ?_
   ·show Ent _ (mNewP _ _ ++ R); rw [hT]; show Ent _ (marketP b ⟨brk0, [w0, w1, w2, w3, w4, w5], ks, []⟩ :: R); refine Ent.tr ?_ (marketP_in (t := ⟨brk0, [w0, w1, w2, w3, w4, w5], ks, []⟩) (.slice Option.none 0 0) (.slice Option.none 0 0) [] c0 c1 c2 (.slice Option.none 0 0) rfl); show Ent _ (blk b (mkN [w0, w1, w2, w3, w4, w5] [c0, c1, c2]) 64 :: sl (.slice Option.none 0 0) 106 4 [] :: sl (.slice Option.none 0 0) 3 1 [] :: manyP bdealP [] ([] : List Deal) :: manyP penP [c0, c1, c2] ks :: sl (.slice Option.none 0 0) 72 6 [] :: R); refine Ent.c (SelB.ent) ?_; refine Ent.cN ?_; refine Ent.cN ?_; refine Ent.tr ?_ many_nil; refine Ent.c (SelX.ent) ?_; refine Ent.cN ?_; repeat first|exact eR|refine eB ?_|refine eS ?_|refine eN ?_|refine eX ?_|refine eD ?_
   ·rw [hT]; rfl

theorem market_New_none (M : Amb) (ws : List Int) (h6 : ws.length = 6) (h : newT ws = none) : FnC Tryz.prog M 7 [.agg (ws.map vI).toArray] (.pointer Option.none) [] [] := fun R w ho =>
  (market_New M ws h6 R w ho).mono fun _ _ ⟨v, H', e, ⟨x, h1, h2⟩, ho'⟩ => ⟨v, H', e, ⟨by rw [h1, h]; rfl, by rw [h2, h]; rfl⟩, ho'⟩
theorem market_New_some (M : Amb) (ws : List Int) (h6 : ws.length = 6) {t : TownS} (h : newT ws = some t) : FnE (α := Nat) Tryz.prog M 7 [.agg (ws.map vI).toArray] [] (fun x => ptr x) (fun x => [marketP x t]) := fun R w ho =>
  (market_New M ws h6 R w ho).mono fun _ _ ⟨v, H', e, ⟨x, h1, h2⟩, ho'⟩ => ⟨v, H', e, ⟨x, by rw [h1, h]; rfl, by rw [h2, h]; rfl⟩, ho'⟩

end Go.Proofs.YtmakdilmibjpbacGreat
