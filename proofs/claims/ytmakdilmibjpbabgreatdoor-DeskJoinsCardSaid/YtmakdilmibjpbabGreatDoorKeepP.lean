/- Keepers: how they lie. -/
import Derived.Test.YtmakdilmibjpbabGreatDoorKeeps
import Derived.Test.YtmakdilmibjpbabGreatDoorShopP
namespace Go.Proofs.YtmakdilmibjpbabGreatDoor
open Go Go.RowKit
set_option linter.unusedVariables false
set_option maxRecDepth 20000

def rR (r : Rec) : List Value := [.int .i64 r.kind, .int .i64 r.deal, .int .i64 r.ctr, .int .i64 r.dl, .bool r.done]
abbrev w6 (ws : List Int) : List Int := [ws.getD 0 0, ws.getD 1 0, ws.getD 2 0, ws.getD 3 0, ws.getD 4 0, ws.getD 5 0]
theorem w6_eq {ws : List Int} (h : ws.length = 6) : w6 ws = ws := by
  match ws, h with
  | [a, b, c, d, e, f], _ => rfl
theorem list6E {ws : List Int} (h : ws.length = 6) : ∃ a b c d e f, ws = [a, b, c, d, e, f] := by
  match ws, h with
  | [a, b, c, d, e, f], _ => exact ⟨a, b, c, d, e, f, rfl⟩
abbrev kpC (k : KeepS) (sb : Nat) (lv : Value) : List Value := [ptr sb, .int .i64 k.no, .int .i64 (k.ws.getD 0 0), .int .i64 (k.ws.getD 1 0), .int .i64 (k.ws.getD 2 0), .int .i64 (k.ws.getD 3 0), .int .i64 (k.ws.getD 4 0), .int .i64 (k.ws.getD 5 0), lv]
abbrev kpL (b : Nat) (k : KeepS) (sb : Nat) (lv : Value) : List HP := [blk b (kpC k sb lv) 102, sl lv 184 5 (k.l.map rR), shopP sb k.shop]
def keepP (b : Nat) (k : KeepS) : HP := ex2 fun sb lv => kpL b k sb lv
variable {H R R1 R2 : List HP} {b : Nat} {k : KeepS}
theorem keepP_close (sb : Nat) (lv : Value) {cs : List Value} {r1 : List (List Value)} [a : SelB H b cs 102 R] [t : SelS R lv 184 5 r1 R1] [u : SelX R1 (shopP sb k.shop) R2] (e : cs = kpC k sb lv) (e1 : r1 = k.l.map rR) : Ent H (keepP b k :: R2) := by
  subst e; subst e1
  exact Ent.tr (Ent.tr a.ent (Ent.mono (Ent.tr t.ent (Ent.mono u.ent)))) (Ent.ex2 (L := fun sb lv => kpL b k sb lv) sb lv)
theorem eq_Record {m n : Rec} : EqT Tryz.prog 184 (rR m) (rR n) (decide (m = n)) :=
  ⟨Tryz.eqGuardType184, fun w => by
    obtain ⟨a, b, c, d, e⟩ := m
    obtain ⟨a', b', c', d', e'⟩ := n
    simp only [rR]
    rw [show (10000 : Nat) = 9998 + 1 + 1 from rfl, run_equalIn_agg w _ _ _ _ Tryz.underlying184 Tryz.stoodInHeld184]
    have hb : ∀ f f' : Bool, (Op.equalIn 9999 4 (.bool f) (.bool f')).run Tryz.prog w = .ok (f == f') w := fun f f' => run_equalIn_bool' w 9998 4 f f' Tryz.underlying4
    by_cases h1 : a = a' <;> by_cases h2 : b = b' <;> by_cases h3 : c = c' <;> by_cases h4 : d = d' <;> by_cases h5 : e = e' <;> simp [Program.fieldsOf, Op.eqFields, part, run_equalIn_int w _ _ _ _ _ _ Tryz.underlying3, h1, h2, h3, h4, h5, hb]⟩

end Go.Proofs.YtmakdilmibjpbabGreatDoor
