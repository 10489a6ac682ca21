/- Mail, in plain Lean, and how it lies. -/
import Derived.Test.YtmakdilmibjpbabGreatDoorWants
import Derived.Test.YtmakdilmibjpbabGreatDoorFacts
namespace Go.Proofs.YtmakdilmibjpbabGreatDoor
open Go Go.RowKit
set_option linter.unusedVariables false
set_option maxRecDepth 20000

structure Mail where
  kind : Int
  deal : Int
  shop : Int
  ctr : Int
  dl : Int
  yes : Bool
  deriving DecidableEq
def Mail.z : Mail := ⟨0, 0, 0, 0, 0, false⟩
def rM (m : Mail) : List Value := [.int .i64 m.kind, .int .i64 m.deal, .int .i64 m.shop, .int .i64 m.ctr, .int .i64 m.dl, .bool m.yes]
def vM (m : Mail) : Value := .agg (rM m).toArray
theorem rM_len (m : Mail) : (rM m).length = 6 := rfl

theorem eq_Mail {m n : Mail} : EqT Tryz.prog 129 (rM m) (rM n) (decide (m = n)) :=
  ⟨Tryz.eqGuardType129, fun w => by
    obtain ⟨a, b, c, d, e, f⟩ := m
    obtain ⟨a', b', c', d', e', f'⟩ := n
    simp only [rM]
    rw [show (10000 : Nat) = 9998 + 1 + 1 from rfl, run_equalIn_agg w _ _ _ _ Tryz.underlying129 Tryz.stoodInHeld129]
    have hw : (Op.equalIn 9999 115 (.agg #[.int .i64 d, .int .i64 e]) (.agg #[.int .i64 d', .int .i64 e'])).run Tryz.prog w = .ok (decide (d = d') && decide (e = e')) w := by
      rw [show (9999 : Nat) = 9997 + 1 + 1 from rfl, run_equalIn_agg w _ _ _ _ Tryz.underlying115 Tryz.stoodInHeld115]
      by_cases h4 : d = d' <;> by_cases h5 : e = e' <;> simp [Program.fieldsOf, Op.eqFields, part, run_equalIn_int w _ _ _ _ _ _ Tryz.underlying3, h4, h5]
    have hb : ∀ f f' : Bool, (Op.equalIn 9999 4 (.bool f) (.bool f')).run Tryz.prog w = .ok (f == f') w := fun f f' => run_equalIn_bool' w 9998 4 f f' Tryz.underlying4
    simp [Program.fieldsOf, Op.eqFields, part, run_equalIn_int w _ _ _ _ _ _ Tryz.underlying3, hw]
    by_cases h1 : a = a' <;> by_cases h2 : b = b' <;> by_cases h3 : c = c' <;> by_cases h4 : d = d' <;> by_cases h5 : e = e' <;> by_cases h6 : f = f' <;> simp [h1, h2, h3, h4, h5, h6, hb]⟩


end Go.Proofs.YtmakdilmibjpbabGreatDoor
