/- The walks of PenW2: written by a program of ours (gen.py) over the engine. -/
import Derived.Test.YtmakdilmibjpbabPlain
import Derived.Test.YtmakdilmibjpbabFacts
import Derived.Test.YtmakdilmibjpbabPenW
import Derived.Test.YtmakdilmibjpbabKeepLaws
namespace Go.Proofs.Ytmakdilmibjpbab
open Go Go.RowKit
set_option linter.unusedVariables false
set_option linter.unusedSimpArgs false
set_option maxRecDepth 20000

theorem ref_Replayed (M : Amb) (A : List HP) (no : Int) (ws : List Int) (hws : ws.length = 6) (v : Value) (l : List Rec) (hv : Rd M A v 5 (l.map rR)) (hb : l.length ≤ 1000) : FnE (α := Nat) Try.prog M 50 [.int .i64 no, .agg (ws.map vI).toArray, v] A (fun x => .tuple #[newVal (replayS no ws l).1 x, .agg (rF (replayS no ws l).2).toArray]) (fun x => boNewP (replayS no ws l).1 x ++ A) := by
  refine fne_intro Try.func50 rfl Try.ntmps50 rfl fun R F hF => ?_
  refine r_seq ?_
  refine r_region ?_
  refine p_box rfl rfl rfl fun b4 => ?_
  refine p_as rfl rfl ?_
  refine p_alloc zr_92 rfl fun b7 => ?_
  refine o_keep (.c 0 rfl (.c 2 rfl (.c 4 rfl (.c 6 rfl (.c 7 rfl .n))))) ?_
  refine r_seq ?_
  rcases hn : newS no ws with _ | s0
  · skip
    refine r_region ?_
    refine p_mv rfl rfl ?_
    refine p_lda ta_42 rfl (by exact (Tk.all (by first | rfl | assumption | (simp only [List.drop_zero, List.length_map]; assumption) | (simp [*]; done)))) rfl ?_
    refine p_callc cf_64 (.c rfl (.c rfl .n)) rfl (booth_New_none _ no ws hws hn) ?_
    refine p_as rfl rfl ?_
    refine o_keep (.c 2 rfl (.c 6 rfl (.c 7 rfl (.c 8 rfl .n)))) ?_
    refine r_seq ?_
    refine r_seq ?_
    refine r_region ?_
    refine p_mv rfl rfl ?_
    refine l_op (x_p (pv_peqn Try.underlying45 (.n rfl) rfl rfl rfl (fun _ => ⟨rfl, rfl⟩)) rfl rfl ?_)
    refine o_keep (.c 2 rfl (.c 6 rfl (.c 7 rfl (.c 8 rfl (.c 15 rfl .n))))) ?_
    refine r_cond _ rfl (fun h1 => ?_) (fun h1 => ?_)
    · skip
      have hrep : replayS no ws l = (none, ⟨1, -1⟩) := by unfold replayS; rw [hn]
      refine r_seq ?_
      refine r_region ?_
      refine p_callv cf_80 (.c rfl (.c rfl .n)) rfl (ref_F _ _ _ _) ?_
      refine p_as rfl rfl ?_
      refine p_store (.ofA ta_92) rfl rfl rfl (by first | rfl | exact rfl) (by first | rfl | exact (by first | rfl | simp [vI, Value.oneCell'])) (Ins.whole (by first | rfl | (simp only [List.length_map, List.length_cons, List.length_nil]; omega) | (simp [*]; done) | (simp [*]; rfl))) ?_
      refine o_keep (.c 2 rfl (.c 6 rfl (.c 7 rfl (.c 8 rfl .n)))) ?_
      refine r_rete (0) hF rfl (.c (.t rfl) (.c (.a rfl ta_92 (.blk (SelB.ent) (Tk.all rfl)) rfl) .n)) ?_ ?_
      · show Ent _ ((boNewP _ _ ++ A) ++ R); rw [hrep]; show Ent _ (A ++ R); first | exact Ent.rfl | (repeat (first | exact Ent.rfl | refine Ent.c (SelB.ent) ?_ | refine Ent.c (SelS.ent) ?_ | refine Ent.cN ?_ | refine Ent.c (SelX.ent) ?_ | refine Ent.dropR ?_))
      · rw [hrep]; rfl
    · simp at h1
  · skip
    refine r_region ?_
    refine p_mv rfl rfl ?_
    refine p_lda ta_42 rfl (by exact (Tk.all (by first | rfl | assumption | (simp only [List.drop_zero, List.length_map]; assumption) | (simp [*]; done)))) rfl ?_
    refine p_calle cf_64 (.c rfl (.c rfl .n)) rfl (booth_New_some _ no ws hws hn) fun b8 => ?_
    refine o_cat ?_
    refine p_as rfl rfl ?_
    refine o_keep (.c 2 rfl (.c 6 rfl (.c 7 rfl (.c 8 rfl .n)))) ?_
    refine r_seq ?_
    refine r_seq ?_
    refine r_region ?_
    refine p_mv rfl rfl ?_
    refine l_op (x_p (pv_peqn Try.underlying45 (.n rfl) rfl rfl rfl (fun _ => ⟨rfl, rfl⟩)) rfl rfl ?_)
    refine o_keep (.c 2 rfl (.c 6 rfl (.c 7 rfl (.c 8 rfl (.c 15 rfl .n))))) ?_
    refine r_cond _ rfl (fun h2 => ?_) (fun h2 => ?_)
    · simp at h2
    · skip
      refine r_skip ?_
      refine r_seq ?_
      refine r_seq ?_
      refine r_region ?_
      refine p_as rfl rfl ?_
      refine o_keep (.c 2 rfl (.c 6 rfl (.c 7 rfl (.c 8 rfl (.c 9 rfl .n))))) ?_
      refine r_block ?_
      refine r_loop_2 (fun (i : Nat) (s : ShopS) => [(9, true, .int .i64 (i : Int))]) (.c 2 rfl (.c 6 rfl (.c 7 rfl (.c 8 rfl .n)))) (fun (i : Nat) (s : ShopS) => boothP b8 s :: blk b7 (rF ⟨0, 0⟩) 92 :: blk b4 (ws.map vI) 42 :: (A ++ R)) (fun (i : Nat) (s : ShopS) => i ≤ l.length ∧ ShInv s ∧ replayS no ws l = replayL s (l.drop i) i) (fun (i : Nat) (s : ShopS) => l.length - i) (0) (s0) ?_ (.c 9 rfl .n) ?_ (fun i s hI => ?_)
      · exact ⟨Nat.zero_le _, (newS_ok hn).1, by unfold replayS; rw [hn]; rfl⟩
      · first | exact Ent.rfl | (repeat (first | exact Ent.rfl | refine Ent.c (SelB.ent) ?_ | refine Ent.c (SelS.ent) ?_ | refine Ent.cN ?_ | refine Ent.c (SelX.ent) ?_ | refine Ent.dropR ?_))
      · skip
        obtain ⟨hil, hS, hR⟩ := hI
        refine r_seq ?_
        refine r_seq ?_
        refine r_region ?_
        refine p_mv rfl rfl ?_
        refine p_mv rfl rfl ?_
        refine l_op (x_p (pv_lens hv.len ⟨_, Try.underlying90⟩ (.n rfl) rfl rfl rfl rfl (fun _ => rfl)) rfl rfl ?_)
        refine p_lss rfl rfl rfl ?_
        refine o_keep (.c 2 rfl (.c 6 rfl (.c 7 rfl (.c 8 rfl (.c 9 rfl (.c 20 rfl .n)))))) ?_
        refine r_cond _ rfl (fun h3 => ?_) (fun h3 => ?_)
        · skip
          obtain ⟨r, hr⟩ := getlt (l := l) (i := i) (by have := of_decide_eq_true h3; omega)
          have hil2 := (List.getElem?_eq_some_iff.1 hr).1
          rw [drop_at hr] at hR
          unfold replayL at hR
          refine r_skip ?_
          refine r_seq ?_
          refine r_block ?_
          refine r_seq ?_
          refine r_region ?_
          refine p_mv rfl rfl ?_
          refine p_mv rfl rfl ?_
          refine p_mv rfl rfl ?_
          refine p_idx Try.underlying90 (.ofA ta_103) hv rfl (mapget hr) rfl rfl rfl ?_
          refine p_ldats 0 ta_103 (Rd.ent hv (by repeat (first | exact Ent.rfl | exact Ent.one Ent.h | exact Ent.one (SelS.ent) | exact Ent.nil | exact Ent.left | refine Ent.dropR ?_ | refine Ent.tr Ent.skip ?_))) (mapget hr) rfl rfl (.s (.s (.s (.s (.s .z))))) rfl ?_
          refine p_callc cf_81 (.c rfl (.c rfl .n)) rfl (booth_Do _ b8 s hS r) ?_
          refine p_as rfl rfl ?_
          refine o_keep (.c 2 rfl (.c 6 rfl (.c 7 rfl (.c 8 rfl (.c 9 rfl (.c 10 rfl .n)))))) ?_
          refine r_seq ?_
          refine r_region ?_
          refine p_mv rfl rfl ?_
          refine p_neq rfl rfl rfl ?_
          refine o_keep (.c 2 rfl (.c 6 rfl (.c 7 rfl (.c 8 rfl (.c 9 rfl (.c 10 rfl (.c 30 rfl .n))))))) ?_
          refine r_cond _ rfl (fun h4 => ?_) (fun h4 => ?_)
          · skip
            have hrep : replayS no ws l = (none, ⟨(doC s r).2, i⟩) := by rw [hR, if_pos (by simpa using h4)]
            refine r_seq ?_
            refine r_region ?_
            refine p_mv rfl rfl ?_
            refine p_mv rfl rfl ?_
            refine p_callv cf_80 (.c rfl (.c rfl .n)) rfl (ref_F _ _ _ _) ?_
            refine p_as rfl rfl ?_
            refine p_store (.ofA ta_92) rfl rfl rfl (by first | rfl | exact rfl) (by first | rfl | exact (by first | rfl | simp [vI, Value.oneCell'])) (Ins.whole (by first | rfl | (simp only [List.length_map, List.length_cons, List.length_nil]; omega) | (simp [*]; done) | (simp [*]; rfl))) ?_
            refine o_keep (.c 2 rfl (.c 6 rfl (.c 7 rfl (.c 8 rfl (.c 9 rfl .n))))) ?_
            refine r_rete (0) hF rfl (.c (.t rfl) (.c (.a rfl ta_92 (.blk (SelB.ent) (Tk.all rfl)) rfl) .n)) ?_ ?_
            · show Ent _ ((boNewP _ _ ++ A) ++ R); rw [hrep]; show Ent _ (A ++ R); first | exact Ent.rfl | (repeat (first | exact Ent.rfl | refine Ent.c (SelB.ent) ?_ | refine Ent.c (SelS.ent) ?_ | refine Ent.cN ?_ | refine Ent.c (SelX.ent) ?_ | refine Ent.dropR ?_))
            · rw [hrep]; rfl
          · skip
            rw [if_neg (by simpa using h4)] at hR
            refine r_skip ?_
            refine r_end ?_
            refine r_region ?_
            refine p_mv rfl rfl ?_
            refine p_add rfl rfl (by omega) rfl ?_
            refine p_as rfl rfl ?_
            refine o_keep (.c 2 rfl (.c 6 rfl (.c 7 rfl (.c 8 rfl (.c 9 rfl .n))))) ?_
            refine r_back_2 (i + 1) ((doC s r).1) ?_ ?_ (Keep.app (.c 9 rfl .n) (.c 2 rfl (.c 6 rfl (.c 7 rfl (.c 8 rfl .n))))) ?_
            · exact ⟨by omega, hS.doc r, hR⟩
            · omega
            · first | exact Ent.rfl | (repeat (first | exact Ent.rfl | refine Ent.c (SelB.ent) ?_ | refine Ent.c (SelS.ent) ?_ | refine Ent.cN ?_ | refine Ent.c (SelX.ent) ?_ | refine Ent.dropR ?_))
        · skip
          have hrep : replayS no ws l = (some s, ⟨0, 0⟩) := by rw [hR, List.drop_eq_nil_of_le (by have := of_decide_eq_false h3; omega)]; rfl
          refine r_exit rfl ?_
          refine r_seq ?_
          refine r_region ?_
          refine p_mv rfl rfl ?_
          refine p_build zr_92 pl_92 (.n) rfl ?_
          refine p_as rfl rfl ?_
          refine p_store (.ofA ta_92) rfl rfl rfl (by first | rfl | exact rfl) (by first | rfl | exact (by first | rfl | simp [vI, Value.oneCell'])) (Ins.whole (by first | rfl | (simp only [List.length_map, List.length_cons, List.length_nil]; omega) | (simp [*]; done) | (simp [*]; rfl))) ?_
          refine o_keep (.c 6 rfl (.c 7 rfl .n)) ?_
          refine r_rete (b8) hF rfl (.c (.t rfl) (.c (.a rfl ta_92 (.blk (SelB.ent) (Tk.all rfl)) rfl) .n)) ?_ ?_
          · show Ent _ ((boNewP _ _ ++ A) ++ R); rw [hrep]; show Ent _ (boothP b8 s :: (A ++ R)); first | exact Ent.rfl | (repeat (first | exact Ent.rfl | refine Ent.c (SelB.ent) ?_ | refine Ent.c (SelS.ent) ?_ | refine Ent.cN ?_ | refine Ent.c (SelX.ent) ?_ | refine Ent.dropR ?_))
          · rw [hrep]; rfl

theorem kr_n (M : Amb) (no : Int) (ws : List Int) (hws : ws.length = 6) (v : Value) (l : List Rec) (hv : Rd M [] v 5 (l.map rR)) (hb : l.length ≤ 1000) {fl : Flt} (h : replayS no ws l = (none, fl)) : FnC Try.prog M 49 [.int .i64 no, .agg (ws.map vI).toArray, v] (.tuple #[.pointer Option.none, .agg (rF fl).toArray]) [] [] := fun R w ho =>
  (keep_Replay M [] no ws hws v l hv hb R w ho).mono fun _ _ ⟨v, H', e, ⟨x, h1, h2⟩, ho'⟩ => ⟨v, H', e, ⟨by rw [h1, h]; rfl, by rw [h2, h]; rfl⟩, ho'⟩
theorem kr_s (M : Amb) (no : Int) (ws : List Int) (hws : ws.length = 6) (v : Value) (l : List Rec) (hv : Rd M [] v 5 (l.map rR)) (hb : l.length ≤ 1000) {s : ShopS} {fl : Flt} (h : replayS no ws l = (some s, fl)) : FnE (α := Nat) Try.prog M 49 [.int .i64 no, .agg (ws.map vI).toArray, v] [] (fun x => .tuple #[ptr x, .agg (rF fl).toArray]) (fun x => [shopP x s]) := fun R w ho =>
  (keep_Replay M [] no ws hws v l hv hb R w ho).mono fun _ _ ⟨v, H', e, ⟨x, h1, h2⟩, ho'⟩ => ⟨v, H', e, ⟨x, by rw [h1, h]; rfl, by rw [h2, h]; rfl⟩, ho'⟩
theorem br_n (M : Amb) (no : Int) (ws : List Int) (hws : ws.length = 6) (v : Value) (l : List Rec) (hv : Rd M [] v 5 (l.map rR)) (hb : l.length ≤ 1000) {fl : Flt} (h : replayS no ws l = (none, fl)) : FnC Try.prog M 50 [.int .i64 no, .agg (ws.map vI).toArray, v] (.tuple #[.pointer Option.none, .agg (rF fl).toArray]) [] [] := fun R w ho =>
  (ref_Replayed M [] no ws hws v l hv hb R w ho).mono fun _ _ ⟨v, H', e, ⟨x, h1, h2⟩, ho'⟩ => ⟨v, H', e, ⟨by rw [h1, h]; rfl, by rw [h2, h]; rfl⟩, ho'⟩
theorem br_s (M : Amb) (no : Int) (ws : List Int) (hws : ws.length = 6) (v : Value) (l : List Rec) (hv : Rd M [] v 5 (l.map rR)) (hb : l.length ≤ 1000) {s : ShopS} {fl : Flt} (h : replayS no ws l = (some s, fl)) : FnE (α := Nat) Try.prog M 50 [.int .i64 no, .agg (ws.map vI).toArray, v] [] (fun x => .tuple #[ptr x, .agg (rF fl).toArray]) (fun x => [boothP x s]) := fun R w ho =>
  (ref_Replayed M [] no ws hws v l hv hb R w ho).mono fun _ _ ⟨v, H', e, ⟨x, h1, h2⟩, ho'⟩ => ⟨v, H', e, ⟨x, by rw [h1, h]; rfl, by rw [h2, h]; rfl⟩, ho'⟩
theorem replayL_inv : ∀ (l : List Rec) (s0 : ShopS) (i : Int) {s : ShopS} {fl : Flt}, ShInv s0 → replayL s0 l i = (some s, fl) → ShInv s
  | [], s0, i, s, fl, h0, h => by simp only [replayL, Prod.mk.injEq, Option.some.injEq] at h; exact h.1 ▸ h0
  | r :: l, s0, i, s, fl, h0, h => by
    simp only [replayL] at h
    split at h
    · simp at h
    · exact replayL_inv l _ _ (h0.doc r) h
theorem replayS_inv {no : Int} {ws : List Int} {l : List Rec} {s : ShopS} {fl : Flt} (h : replayS no ws l = (some s, fl)) : ShInv s := by
  unfold replayS at h
  split at h
  · simp at h
  · rename_i hn; exact replayL_inv _ _ _ (newS_ok hn).1 h
theorem pen_New_none (M : Amb) (no : Int) (ws : List Int) (hws : ws.length = 6) (h : newS no ws = none) : FnC Try.prog M 52 [.int .i64 no, .agg (ws.map vI).toArray] (.pointer Option.none) [] [] := fun R w ho =>
  (pen_New M no ws hws R w ho).mono fun _ _ ⟨v, H', e, ⟨x, h1, h2⟩, ho'⟩ => ⟨v, H', e, ⟨by rw [h1, h]; rfl, by rw [h2, h]; rfl⟩, ho'⟩
theorem pen_New_some (M : Amb) (no : Int) (ws : List Int) (hws : ws.length = 6) {s : ShopS} (h : newS no ws = some s) : FnE (α := Nat) Try.prog M 52 [.int .i64 no, .agg (ws.map vI).toArray] [] (fun x => ptr x) (fun x => [penP x ⟨no, ws, s, []⟩]) := fun R w ho =>
  (pen_New M no ws hws R w ho).mono fun _ _ ⟨v, H', e, ⟨x, h1, h2⟩, ho'⟩ => ⟨v, H', e, ⟨x, by rw [h1, h]; rfl, by rw [h2, h]; rfl⟩, ho'⟩

end Go.Proofs.Ytmakdilmibjpbab
