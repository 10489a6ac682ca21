/- Desks: how they lie. -/
import Derived.Test.YtmakdilmibjpbabGreatDoorTownP
import Derived.Test.YtmakdilmibjpbabGreatDoorLib
import Derived.Test.YtmakdilmibjpbabGreatDoorBld
namespace Go.Proofs.YtmakdilmibjpbabGreatDoor
open Go Go.RowKit
set_option linter.unusedVariables false
set_option maxRecDepth 20000

abbrev bdL (b tb : Nat) (u : List UInt8) (x : Value × Value) : List HP := [blk b [x.1, x.2, ptr tb] 42, sl x.2 5 1 (u.map rBy)]
abbrev bdR (b : Nat) (u : List UInt8) (x : Value × Value) : Prop := (x.1 = .pointer Option.none ∨ x.1 = ptr b) ∧ (u = [] → x.2 = .slice Option.none 0 0)
/-- A desk's own block, that has told u; its town lies at tb. -/
def bdP (b tb : Nat) (u : List UInt8) : HP := exP (bdR b u) (bdL b tb u)
/-- A desk's own block between two calls. -/
def bdI (b tb : Nat) : HP := ex2 fun (av bv : Value) => [blk b [av, bv, ptr tb] 42]
section closing
variable {H R R1 R2 : List HP} {b tb : Nat} {u : List UInt8}
theorem bdP_close (av bv : Value) {cs : List Value} {r : List (List Value)} [x : SelB H b cs 42 R] [y : SelS R bv 5 1 r R1] (e : cs = [av, bv, ptr tb]) (e1 : r = u.map rBy) (ha : av = .pointer Option.none ∨ av = ptr b) (hb : u = [] → bv = .slice Option.none 0 0) : Ent H (bdP b tb u :: R1) := by
  subst e; subst e1
  exact Ent.tr (Ent.tr x.ent (Ent.mono y.ent)) (Ent.exP (φ := bdR b u) (L := bdL b tb u) (av, bv) ⟨ha, hb⟩)
theorem bdI_close (av bv : Value) {cs : List Value} [x : SelB H b cs 42 R] (e : cs = [av, bv, ptr tb]) : Ent H (bdI b tb :: R) := by
  subst e
  exact Ent.tr x.ent (Ent.ex2 (L := fun (av bv : Value) => [blk b [av, bv, ptr tb] 42]) av bv)
theorem bd_cell {M : Amb} (h : Ent H (bdP b tb u :: R)) : CellAt M H b 2 (ptr tb) := fun w ho => by
  obtain ⟨x, _, hx⟩ := (show Own M (bdP b tb u :: R) w from ho.ent h).exP
  have hx1 : Own M (blk b [x.1, x.2, ptr tb] 42 :: sl x.2 5 1 (u.map rBy) :: R) w := hx
  rw [hx1.cell]; rfl
end closing
section opening
variable {P : Program} {F : Exit → Act → World → Prop} {N : Nat} {M : Amb} {K : List KI} {env : Env} {b tb : Nat} {u : List UInt8} {R : List HP}
theorem r_bd (h : ∀ av bv, (av = .pointer Option.none ∨ av = ptr b) → (u = [] → bv = .slice Option.none 0 0) → Run P F N M K env (blk b [av, bv, ptr tb] 42 :: sl bv 5 1 (u.map rBy) :: R)) : Run P F N M K env (bdP b tb u :: R) :=
  r_exP fun x hx => h x.1 x.2 hx.1 hx.2
end opening

end Go.Proofs.YtmakdilmibjpbabGreatDoor
