/- Markets, which are towns by the document: how they lie. -/
import Derived.Test.YtmakdilmibjpbacGreatTowns
import Derived.Test.YtmakdilmibjpbacGreatBookP
import Derived.Test.YtmakdilmibjpbacGreatBoothP
import Derived.Test.YtmakdilmibjpbacGreatTownP
namespace Go.Proofs.YtmakdilmibjpbacGreat
open Go Go.RowKit
set_option linter.unusedVariables false
set_option maxRecDepth 20000

abbrev mkR (ws : List Int) (p0 p1 p2 : Nat) (bv : Value) : List Value := [.int .i64 (ws.getD 0 0), .int .i64 (ws.getD 1 0), .int .i64 (ws.getD 2 0), .int .i64 (ws.getD 3 0), .int .i64 (ws.getD 4 0), .int .i64 (ws.getD 5 0), ptr p0, ptr p1, ptr p2, bv]
abbrev mkL (b : Nat) (t : TownS) (lv ov : Value) (ts : List DT) (p0 p1 p2 : Nat) (bv : Value) : List HP := [blk b (lv :: ov :: mkR t.ws p0 p1 p2 bv) 64, sl lv 106 4 (List.zipWith rowD ts t.b.l), sl ov 3 1 (t.b.order.map rI), manyP bdealP ts t.b.l, manyP penP [p0, p1, p2] t.ks, sl bv 72 6 (t.post.map rM)]
def marketP (b : Nat) (t : TownS) : HP := fun h => ∃ lv ov ts p0 p1 p2 bv, ts.length = t.b.l.length ∧ sep (mkL b t lv ov ts p0 p1 p2 bv) h
theorem marketP_open {M : Amb} {R : List HP} {b : Nat} {t : TownS} {w : World} (ho : Own M (marketP b t :: R) w) : ∃ lv ov ts p0 p1 p2 bv, ts.length = t.b.l.length ∧ Own M (mkL b t lv ov ts p0 p1 p2 bv ++ R) w := by
  obtain ⟨hb, hs, g, ⟨x, y, ⟨lv, ov, ts, p0, p1, p2, bv, hl, hx⟩, hr, hd, e⟩, hh⟩ := ho
  subst e
  exact ⟨lv, ov, ts, p0, p1, p2, bv, hl, hb, hs, _, sep_app' hx hr hd, hh⟩
theorem marketP_in {R : List HP} {b : Nat} {t : TownS} (lv ov : Value) (ts : List DT) (p0 p1 p2 : Nat) (bv : Value) (hl : ts.length = t.b.l.length) : Ent (mkL b t lv ov ts p0 p1 p2 bv ++ R) (marketP b t :: R) := fun h hx => by
  obtain ⟨p, q, hp, hq, hd, e⟩ := sep_app (A := mkL b t lv ov ts p0 p1 p2 bv) hx
  exact ⟨h, ⟨p, q, ⟨lv, ov, ts, p0, p1, p2, bv, hl, hp⟩, hq, hd, e⟩, Hp.sub_refl h⟩
section opening
variable {P : Program} {F : Exit → Act → World → Prop} {N : Nat} {M : Amb} {K : List KI} {env : Env} {b : Nat} {t : TownS} {R : List HP}
theorem r_market (h : ∀ lv ov ts p0 p1 p2 bv, ts.length = t.b.l.length → Run P F N M K env (mkL b t lv ov ts p0 p1 p2 bv ++ R)) : Run P F N M K env (marketP b t :: R) := fun a w hf ho => by
  obtain ⟨lv, ov, ts, p0, p1, p2, bv, hl, ho'⟩ := marketP_open ho
  exact h lv ov ts p0 p1 p2 bv hl a w hf ho'
end opening

abbrev mbxL (b : Nat) (ws : List Int) (lv ov : Value) (p0 p1 p2 : Nat) (l : List Mail) (bv : Value) : List HP := [blk b (lv :: ov :: mkR ws p0 p1 p2 bv) 64, sl bv 72 6 (l.map rM)]
/-- A market's own block with its bag. -/
def mboxP (b : Nat) (ws : List Int) (lv ov : Value) (p0 p1 p2 : Nat) (l : List Mail) : HP := exS fun bv => mbxL b ws lv ov p0 p1 p2 l bv
section closing
variable {H R R0 R1 R2 R3 R4 R5 : List HP} {b : Nat} {t : TownS} {ws : List Int} {l : List Mail}
theorem mbox_close {lv ov : Value} {p0 p1 p2 : Nat} (bv : Value) {cs : List Value} {r : List (List Value)} [a : SelB H b cs 64 R] [u : SelS R bv 72 6 r R1] (e : cs = lv :: ov :: mkR ws p0 p1 p2 bv) (e1 : r = l.map rM) : Ent H (mboxP b ws lv ov p0 p1 p2 l :: R1) := by
  subst e; subst e1
  exact Ent.tr (Ent.tr a.ent (Ent.mono u.ent)) (Ent.ex (L := mbxL b ws lv ov p0 p1 p2 l) bv)
theorem marketP_close (lv ov : Value) (ts : List DT) (p0 p1 p2 : Nat) (bv : Value) (hl : ts.length = t.b.l.length) {cs : List Value} {r1 r2 r3 : List (List Value)} [a : SelB H b cs 64 R0] [u : SelS R0 lv 106 4 r1 R1] [v : SelS R1 ov 3 1 r2 R2] [w : SelX R2 (manyP bdealP ts t.b.l) R3] [x : SelX R3 (manyP penP [p0, p1, p2] t.ks) R4] [y : SelS R4 bv 72 6 r3 R5]
    (e : cs = lv :: ov :: mkR t.ws p0 p1 p2 bv) (e1 : r1 = List.zipWith rowD ts t.b.l) (e2 : r2 = t.b.order.map rI) (e3 : r3 = t.post.map rM) : Ent H (marketP b t :: R5) := by
  subst e; subst e1; subst e2; subst e3
  exact Ent.tr (Ent.tr a.ent (Ent.mono (Ent.tr u.ent (Ent.mono (Ent.tr v.ent (Ent.mono (Ent.tr w.ent (Ent.mono (Ent.tr x.ent (Ent.mono y.ent)))))))))) (marketP_in lv ov ts p0 p1 p2 bv hl)
theorem marketP_xclose (lv ov : Value) (ts : List DT) (p0 p1 p2 : Nat) (hl : ts.length = t.b.l.length) {r1 r2 : List (List Value)} [a : SelX H (mboxP b t.ws lv ov p0 p1 p2 t.post) R0] [u : SelS R0 lv 106 4 r1 R1] [v : SelS R1 ov 3 1 r2 R2] [w : SelX R2 (manyP bdealP ts t.b.l) R3] [x : SelX R3 (manyP penP [p0, p1, p2] t.ks) R4]
    (e1 : r1 = List.zipWith rowD ts t.b.l) (e2 : r2 = t.b.order.map rI) : Ent H (marketP b t :: R4) := by
  subst e1; subst e2
  refine Ent.tr (Ent.tr a.ent (Ent.mono (Ent.tr u.ent (Ent.mono (Ent.tr v.ent (Ent.mono (Ent.tr w.ent (Ent.mono x.ent)))))))) fun h hx => ?_
  obtain ⟨c, d, ⟨bv, hc⟩, hd, hj, e⟩ := hx
  subst e
  have h1 : sep (blk b (lv :: ov :: mkR t.ws p0 p1 p2 bv) 64 :: sl bv 72 6 (t.post.map rM) :: sl lv 106 4 (List.zipWith rowD ts t.b.l) :: sl ov 3 1 (t.b.order.map rI) :: manyP bdealP ts t.b.l :: manyP penP [p0, p1, p2] t.ks :: R4) _ := sep_app' (A := mbxL b t.ws lv ov p0 p1 p2 t.post bv) hc hd hj
  exact marketP_close (t := t) lv ov ts p0 p1 p2 bv hl rfl rfl rfl rfl _ h1
theorem marketP_bclose (p0 p1 p2 : Nat) (bv : Value) {r : List (List Value)} [a : SelX H (bookP b 64 (mkR t.ws p0 p1 p2 bv) t.b) R0] [x : SelX R0 (manyP penP [p0, p1, p2] t.ks) R1] [y : SelS R1 bv 72 6 r R2] (e : r = t.post.map rM) : Ent H (marketP b t :: R2) := by
  subst e
  refine Ent.tr (Ent.tr a.ent (Ent.mono (Ent.tr x.ent (Ent.mono y.ent)))) fun h hx => ?_
  obtain ⟨c, d, ⟨lv, ov, ts, hl, hc⟩, hd, hj, e⟩ := hx
  subst e
  exact marketP_in (b := b) (t := t) (R := R2) lv ov ts p0 p1 p2 bv hl _ (sep_app' (A := bookL b 64 (mkR t.ws p0 p1 p2 bv) t.b lv ov ts) hc hd hj)
end closing
section opening2
variable {P : Program} {F : Exit → Act → World → Prop} {N : Nat} {M : Amb} {K : List KI} {env : Env} {b : Nat} {t : TownS} {R : List HP}
theorem r_marketX (h : ∀ lv ov ts p0 p1 p2, ts.length = t.b.l.length → Run P F N M K env (mboxP b t.ws lv ov p0 p1 p2 t.post :: sl lv 106 4 (List.zipWith rowD ts t.b.l) :: sl ov 3 1 (t.b.order.map rI) :: manyP bdealP ts t.b.l :: manyP penP [p0, p1, p2] t.ks :: R)) : Run P F N M K env (marketP b t :: R) :=
  r_market fun lv ov ts p0 p1 p2 bv hl => r_ent (mbox_close bv rfl rfl) (h lv ov ts p0 p1 p2 hl)
theorem r_marketB (h : ∀ p0 p1 p2 bv, Run P F N M K env (bookP b 64 (mkR t.ws p0 p1 p2 bv) t.b :: manyP penP [p0, p1, p2] t.ks :: sl bv 72 6 (t.post.map rM) :: R)) : Run P F N M K env (marketP b t :: R) :=
  r_market fun lv ov ts p0 p1 p2 bv hl => r_ent (bookP_close lv ov ts hl rfl rfl rfl) (h p0 p1 p2 bv)
end opening2
theorem mk_cell {lv ov bv : Value} {p0 p1 p2 s : Nat} {ws : List Int} (h : s < 3) : (lv :: ov :: mkR ws p0 p1 p2 bv)[8 + s]? = some (ptr (cAt p0 p1 p2 s)) := by
  rcases lt3 h with rfl | rfl | rfl <;> rfl

end Go.Proofs.YtmakdilmibjpbacGreat
