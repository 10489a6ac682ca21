/- Brokers: how they lie. -/
import Derived.Test.YtmakdilmibjpbabGreatDoorElt
import Derived.Test.YtmakdilmibjpbabGreatDoorFun
import Derived.Test.YtmakdilmibjpbabGreatDoorBrokL
import Derived.Test.YtmakdilmibjpbabGreatDoorPlanW
namespace Go.Proofs.YtmakdilmibjpbabGreatDoor
open Go Go.RowKit
set_option linter.unusedVariables false
set_option maxRecDepth 20000

def rBo (b : Bool) : List Value := [.bool b]
def rPt (q : Nat) : List Value := [ptr q]
abbrev dlC (d : Deal) (wv yv tv : Value) : List Value := [wv, .int .i64 d.state, yv, tv]
abbrev dlL (q : Nat) (d : Deal) (wv yv tv : Value) : List HP := [blk q (dlC d wv yv tv) 125, sl wv 115 2 (d.wants.map rW), sl yv 4 1 (d.yes.map rBo), sl tv 3 1 (d.over.map rI)]
def dealP (q : Nat) (d : Deal) : HP := ex3 fun wv yv tv => dlL q d wv yv tv
variable {H R R1 R2 R3 : List HP} {b q : Nat} {d : Deal} {s : BrokS}
theorem dealP_close (wv yv tv : Value) {cs : List Value} {r1 r2 r3 : List (List Value)} [a : SelB H q cs 125 R] [t : SelS R wv 115 2 r1 R1] [u : SelS R1 yv 4 1 r2 R2] [w : SelS R2 tv 3 1 r3 R3] (e : cs = dlC d wv yv tv) (e1 : r1 = d.wants.map rW) (e2 : r2 = d.yes.map rBo) (e3 : r3 = d.over.map rI) : Ent H (dealP q d :: R3) := by
  subst e; subst e1; subst e2; subst e3
  exact Ent.tr (Ent.tr a.ent (Ent.mono (Ent.tr t.ent (Ent.mono (Ent.tr u.ent (Ent.mono w.ent)))))) (Ent.ex3 (L := fun wv yv tv => dlL q d wv yv tv) wv yv tv)
abbrev bkL (b : Nat) (s : BrokS) (dv ov : Value) (bs : List Nat) : List HP := [blk b [dv, ov] 70, sl dv 126 1 (bs.map rPt), sl ov 3 1 (s.order.map rI), manyP dealP bs s.l]
def brokP (b : Nat) (s : BrokS) : HP := fun h => ∃ dv ov bs, bs.length = s.l.length ∧ sep (bkL b s dv ov bs) h
theorem brokP_close (dv ov : Value) (bs : List Nat) (hl : bs.length = s.l.length) {cs : List Value} {r1 r2 : List (List Value)} [a : SelB H b cs 70 R] [t : SelS R dv 126 1 r1 R1] [u : SelS R1 ov 3 1 r2 R2] [w : SelX R2 (manyP dealP bs s.l) R3] (e : cs = [dv, ov]) (e1 : r1 = bs.map rPt) (e2 : r2 = s.order.map rI) : Ent H (brokP b s :: R3) := by
  subst e; subst e1; subst e2
  refine Ent.tr (Ent.tr a.ent (Ent.mono (Ent.tr t.ent (Ent.mono (Ent.tr u.ent (Ent.mono w.ent)))))) (fun h hx => ?_)
  obtain ⟨x, y, hx, hy, hd, e⟩ := sep_app (A := bkL b s dv ov bs) hx
  exact ⟨h, ⟨x, y, ⟨dv, ov, bs, hl, hx⟩, hy, hd, e⟩, Hp.sub_refl h⟩
section opening
variable {P : Program} {F : Exit → Act → World → Prop} {N : Nat} {M : Amb} {K : List KI} {env : Env}
theorem r_brok (h : ∀ dv ov bs, bs.length = s.l.length → Run P F N M K env (bkL b s dv ov bs ++ R)) : Run P F N M K env (brokP b s :: R) := fun a w hf ho => by
  obtain ⟨hb, hs, g, ⟨x, y, ⟨dv, ov, bs, hl, hx⟩, hr, hd, e⟩, hh⟩ := ho
  subst e
  exact h dv ov bs hl a w hf ⟨hb, hs, _, sep_app' hx hr hd, hh⟩
theorem r_deal (i : Nat) {bs : List Nat} {ds : List Deal} (h1 : bs[i]? = some q) (h2 : ds[i]? = some d) [t : SelX H (manyP dealP bs ds) R] (h : Run P F N M K env (dealP q d :: restP dealP bs ds i :: R)) : Run P F N M K env H := r_ent (Ent.tr t.ent (many_out h1 h2)) h
end opening

end Go.Proofs.YtmakdilmibjpbabGreatDoor
