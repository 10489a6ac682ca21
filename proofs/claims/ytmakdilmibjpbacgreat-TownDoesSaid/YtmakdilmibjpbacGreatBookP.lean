/- Brokers: how they lie. Books, which are brokers by the document: how they lie. -/
import Derived.Test.YtmakdilmibjpbacGreatFun
import Derived.Test.YtmakdilmibjpbacGreatBrokL
import Derived.Test.YtmakdilmibjpbacGreatPlanW
namespace Go.Proofs.YtmakdilmibjpbacGreat
open Go Go.RowKit
set_option linter.unusedVariables false
set_option maxRecDepth 20000

def rBo (b : Bool) : List Value := [.bool b]
def rPt (q : Nat) : List Value := [ptr q]
abbrev dlC (d : Deal) (wv yv tv : Value) : List Value := [wv, .int .i64 d.state, yv, tv]
abbrev dlL (q : Nat) (d : Deal) (wv yv tv : Value) : List HP := [blk q (dlC d wv yv tv) 112, sl wv 42 2 (d.wants.map rW), sl yv 4 1 (d.yes.map rBo), sl tv 3 1 (d.over.map rI)]
def dealP (q : Nat) (d : Deal) : HP := ex3 fun wv yv tv => dlL q d wv yv tv
variable {H R R1 R2 R3 : List HP} {b q : Nat} {d : Deal} {s : BrokS}
theorem dealP_close (wv yv tv : Value) {cs : List Value} {r1 r2 r3 : List (List Value)} [a : SelB H q cs 112 R] [t : SelS R wv 42 2 r1 R1] [u : SelS R1 yv 4 1 r2 R2] [w : SelS R2 tv 3 1 r3 R3] (e : cs = dlC d wv yv tv) (e1 : r1 = d.wants.map rW) (e2 : r2 = d.yes.map rBo) (e3 : r3 = d.over.map rI) : Ent H (dealP q d :: R3) := by
  subst e; subst e1; subst e2; subst e3
  exact Ent.tr (Ent.tr a.ent (Ent.mono (Ent.tr t.ent (Ent.mono (Ent.tr u.ent (Ent.mono w.ent)))))) (Ent.ex3 (L := fun wv yv tv => dlL q d wv yv tv) wv yv tv)
abbrev bkL (b : Nat) (s : BrokS) (dv ov : Value) (bs : List Nat) : List HP := [blk b [dv, ov] 109, sl dv 113 1 (bs.map rPt), sl ov 3 1 (s.order.map rI), manyP dealP bs s.l]
def brokP (b : Nat) (s : BrokS) : HP := fun h => ∃ dv ov bs, bs.length = s.l.length ∧ sep (bkL b s dv ov bs) h
theorem brokP_close (dv ov : Value) (bs : List Nat) (hl : bs.length = s.l.length) {cs : List Value} {r1 r2 : List (List Value)} [a : SelB H b cs 109 R] [t : SelS R dv 113 1 r1 R1] [u : SelS R1 ov 3 1 r2 R2] [w : SelX R2 (manyP dealP bs s.l) R3] (e : cs = [dv, ov]) (e1 : r1 = bs.map rPt) (e2 : r2 = s.order.map rI) : Ent H (brokP b s :: R3) := by
  subst e; subst e1; subst e2
  refine Ent.tr (Ent.tr a.ent (Ent.mono (Ent.tr t.ent (Ent.mono (Ent.tr u.ent (Ent.mono w.ent)))))) (fun h hx => ?_)
  obtain ⟨x, y, hx, hy, hd, e⟩ := sep_app (A := bkL b s dv ov bs) hx
  exact ⟨h, ⟨x, y, ⟨dv, ov, bs, hl, hx⟩, hy, hd, e⟩, Hp.sub_refl h⟩
section opening
variable {P : Program} {F : Exit → Act → World → Prop} {N : Nat} {M : Amb} {K : List KI} {env : Env}
theorem r_brok (h : ∀ dv ov bs, bs.length = s.l.length → Run P F N M K env (bkL b s dv ov bs ++ R)) : Run P F N M K env (brokP b s :: R) := fun a w hf ho => by
  obtain ⟨hb, hs, g, ⟨x, y, ⟨dv, ov, bs, hl, hx⟩, hr, hd, e⟩, hh⟩ := ho
  subst e
  exact h dv ov bs hl a w hf ⟨hb, hs, _, sep_app' hx hr hd, hh⟩
theorem r_deal (i : Nat) {bs : List Nat} {ds : List Deal} (h1 : bs[i]? = some q) (h2 : ds[i]? = some d) [t : SelX H (manyP dealP bs ds) R] (h : Run P F N M K env (dealP q d :: restP dealP bs ds i :: R)) : Run P F N M K env H := r_ent (Ent.tr t.ent (many_out h1 h2)) h
end opening

end Go.Proofs.YtmakdilmibjpbacGreat

namespace Go.Proofs.YtmakdilmibjpbacGreat
open Go Go.RowKit
set_option linter.unusedVariables false
set_option maxRecDepth 20000

/-- What a deal of a book hides. -/
structure DT where
  wv : Value
  yv : Value
  tv : Value
  ys : List Int
/-- Which wants are held: told by their numbers. -/
structure YesR (ys : List Int) (d : Deal) : Prop where
  nd : ys.Nodup
  rng : ∀ x ∈ ys, 0 ≤ x ∧ x < (d.wants.length : Int)
  is : ∀ i : Nat, i < d.wants.length → ((i : Int) ∈ ys ↔ d.yes[i]? = some true)
def rowD (t : DT) (d : Deal) : List Value := [t.wv, .int .i64 d.state, t.yv, t.tv]
abbrev bdL (t : DT) (d : Deal) : List HP := [sl t.wv 42 2 (d.wants.map rW), sl t.yv 3 1 (t.ys.map rI), sl t.tv 3 1 (d.over.map rI)]
def bdealP (t : DT) (d : Deal) : HP := fun h => YesR t.ys d ∧ sep (bdL t d) h
abbrev bookL (b : Nat) (T : TypeId) (rest : List Value) (s : BrokS) (lv ov : Value) (ts : List DT) : List HP := [blk b (lv :: ov :: rest) T, sl lv 106 4 (List.zipWith rowD ts s.l), sl ov 3 1 (s.order.map rI), manyP bdealP ts s.l]
/-- A book, in a block that may hold more. -/
def bookP (b : Nat) (T : TypeId) (rest : List Value) (s : BrokS) : HP := fun h => ∃ lv ov ts, ts.length = s.l.length ∧ sep (bookL b T rest s lv ov ts) h
variable {H R R1 R2 R3 : List HP} {b q : Nat} {d : Deal} {s : BrokS} {T : TypeId} {rest : List Value} {t : DT}
theorem bookP_close (lv ov : Value) (ts : List DT) (hl : ts.length = s.l.length) {cs : List Value} {r1 r2 : List (List Value)} [a : SelB H b cs T R] [u : SelS R lv 106 4 r1 R1] [v : SelS R1 ov 3 1 r2 R2] [w : SelX R2 (manyP bdealP ts s.l) R3] (e : cs = lv :: ov :: rest) (e1 : r1 = List.zipWith rowD ts s.l) (e2 : r2 = s.order.map rI) : Ent H (bookP b T rest s :: R3) := by
  subst e; subst e1; subst e2
  refine Ent.tr (Ent.tr a.ent (Ent.mono (Ent.tr u.ent (Ent.mono (Ent.tr v.ent (Ent.mono w.ent)))))) (fun h hx => ?_)
  obtain ⟨x, y, hx, hy, hd, e⟩ := sep_app (A := bookL b T rest s lv ov ts) hx
  exact ⟨h, ⟨x, y, ⟨lv, ov, ts, hl, hx⟩, hy, hd, e⟩, Hp.sub_refl h⟩
theorem bdealP_close (t : DT) (hy : YesR t.ys d) {r1 r2 r3 : List (List Value)} [a : SelS H t.wv 42 2 r1 R] [u : SelS R t.yv 3 1 r2 R1] [v : SelS R1 t.tv 3 1 r3 R2] (e1 : r1 = d.wants.map rW) (e2 : r2 = t.ys.map rI) (e3 : r3 = d.over.map rI) : Ent H (bdealP t d :: R2) := by
  subst e1; subst e2; subst e3
  refine Ent.tr (Ent.tr a.ent (Ent.mono (Ent.tr u.ent (Ent.mono v.ent)))) (fun h hx => ?_)
  obtain ⟨x, y, hx, hy', hd, e⟩ := sep_app (A := bdL t d) hx
  exact ⟨h, ⟨x, y, ⟨hy, hx⟩, hy', hd, e⟩, Hp.sub_refl h⟩
theorem Rd.lenz {M : Amb} {α β : Type} {f : β → α → List Value} {v : Value} {sz : Nat} {bs : List β} {l : List α} (h : Rd M H v sz (List.zipWith f bs l)) (e : bs.length = l.length) : ∃ ao c, v = .slice ao l.length c := by
  obtain ⟨ao, c, e'⟩ := h.shape
  exact ⟨ao, c, by rw [e', List.length_zipWith, e, Nat.min_self]⟩
section opening
variable {P : Program} {F : Exit → Act → World → Prop} {N : Nat} {M : Amb} {K : List KI} {env : Env}
theorem r_book (h : ∀ lv ov ts, ts.length = s.l.length → Run P F N M K env (bookL b T rest s lv ov ts ++ R)) : Run P F N M K env (bookP b T rest s :: R) := fun a w hf ho => by
  obtain ⟨hb, hs, g, ⟨x, y, ⟨lv, ov, ts, hl, hx⟩, hr, hd, e⟩, hh⟩ := ho
  subst e
  exact h lv ov ts hl a w hf ⟨hb, hs, _, sep_app' hx hr hd, hh⟩
theorem r_bdeal (i : Nat) {ts : List DT} {ds : List Deal} (h1 : ts[i]? = some t) (h2 : ds[i]? = some d) [u : SelX H (manyP bdealP ts ds) R] (h : YesR t.ys d → Run P F N M K env (bdL t d ++ (restP bdealP ts ds i :: R))) : Run P F N M K env H := fun a w hf ho => by
  have ho' := ho.ent (Ent.tr u.ent (many_out h1 h2))
  obtain ⟨hb, hs, g, ⟨x, y, ⟨hy, hx⟩, hr, hd, e⟩, hh⟩ := ho'
  subst e
  exact h hy a w hf ⟨hb, hs, _, sep_app' hx hr hd, hh⟩
end opening

end Go.Proofs.YtmakdilmibjpbacGreat
