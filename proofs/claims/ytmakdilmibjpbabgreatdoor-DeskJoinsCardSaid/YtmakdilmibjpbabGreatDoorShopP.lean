/- Shops and booths: how they lie. -/
import Derived.Test.YtmakdilmibjpbabGreatDoorShopL
import Derived.Test.YtmakdilmibjpbabGreatDoorFun
import Derived.Test.YtmakdilmibjpbabGreatDoorFacts
import Derived.Test.YtmakdilmibjpbabGreatDoorTwo
namespace Go.Proofs.YtmakdilmibjpbabGreatDoor
open Go Go.RowKit
set_option linter.unusedVariables false
set_option maxRecDepth 20000

def rH (h : Hld) : List Value := [.int .i64 h.deal, .int .i64 h.ctr, .int .i64 h.dl]
def rO (o : Ovr) : List Value := [.int .i64 o.deal, .bool o.done]
abbrev shC (s : ShopS) (hv ov : Value) : List Value := [.int .i64 s.no, .int .i64 s.c0.v, .int .i64 s.c0.o, .int .i64 s.c0.i, .int .i64 s.c1.v, .int .i64 s.c1.o, .int .i64 s.c1.i, hv, ov]
abbrev shL (b : Nat) (s : ShopS) (hv ov : Value) : List HP := [blk b (shC s hv ov) 139, sl hv 136 3 (s.holds.map rH), sl ov 205 2 (s.over.map rO)]
def shopP (b : Nat) (s : ShopS) : HP := ex2 fun hv ov => shL b s hv ov
variable {H R R1 R2 : List HP} {b : Nat} {s : ShopS}
theorem shopP_close (hv ov : Value) {cs : List Value} {r1 r2 : List (List Value)} [a : SelB H b cs 139 R] [t : SelS R hv 136 3 r1 R1] [u : SelS R1 ov 205 2 r2 R2] (e : cs = shC s hv ov) (e1 : r1 = s.holds.map rH) (e2 : r2 = s.over.map rO) : Ent H (shopP b s :: R2) := by
  subst e; subst e1; subst e2
  exact Ent.tr (Ent.tr a.ent (Ent.mono (Ent.tr t.ent (Ent.mono u.ent)))) (Ent.ex2 (L := fun hv ov => shL b s hv ov) hv ov)
theorem eq_Hold {m n : Hld} : EqT Tryz.prog 136 (rH m) (rH n) (decide (m = n)) :=
  ⟨Tryz.eqGuardType136, fun w => by
    obtain ⟨a, b, c⟩ := m
    obtain ⟨a', b', c'⟩ := n
    simp only [rH]
    rw [show (10000 : Nat) = 9998 + 1 + 1 from rfl, run_equalIn_agg w _ _ _ _ Tryz.underlying136 Tryz.stoodInHeld136]
    by_cases h1 : a = a' <;> by_cases h2 : b = b' <;> by_cases h3 : c = c' <;> simp [Program.fieldsOf, Op.eqFields, part, run_equalIn_int w _ _ _ _ _ _ Tryz.underlying3, h1, h2, h3]⟩

theorem run_eqCnt (d : Nat) (w : World) (m n : Cnt) : (Op.equalIn (d + 1 + 1) 117 (.agg (cntL m).toArray) (.agg (cntL n).toArray)).run Tryz.prog w = .ok (decide (m = n)) w := by
  obtain ⟨a, b, c⟩ := m
  obtain ⟨a', b', c'⟩ := n
  simp only [cntL]
  rw [run_equalIn_agg w _ _ _ _ Tryz.underlying117 Tryz.stoodInHeld117]
  by_cases h1 : a = a' <;> by_cases h2 : b = b' <;> by_cases h3 : c = c' <;> simp [Program.fieldsOf, Op.eqFields, part, run_equalIn_int w _ _ _ _ _ _ Tryz.underlying3, h1, h2, h3]
theorem eq_Cnt {m n : Cnt} : EqT Tryz.prog 117 (cntL m) (cntL n) (decide (m = n)) := ⟨Tryz.eqGuardType117, fun w => run_eqCnt 9998 w m n⟩
theorem eq_Cnts {a b c d : Cnt} : EqT Tryz.prog 118 (cntL a ++ cntL b) (cntL c ++ cntL d) (decide (a = c ∧ b = d)) :=
  ⟨by kernel_rfl, fun w => by
    rw [show (10000 : Nat) = 9999 + 1 from rfl, run_equalIn_array w 9999 _ _ Tryz.underlying118 (show Tryz.prog.info? 117 = some ((Tryz.prog.info? 117).getD default) by kernel_rfl), show Tryz.prog.cellsOf 117 = 3 by kernel_rfl, show List.range 2 = [0, 1] from rfl]
    obtain ⟨h1, inf, h3, h4⟩ := run_isAgg_yes (P := Tryz.prog) ta_117 w
    have hp : ∀ (x y : Cnt) (i : Nat), i = 0 ∨ i = 1 → (part 117 (cntL x ++ cntL y).toArray (i * 3)).run Tryz.prog w = .ok (.agg (cntL (if i = 0 then x else y)).toArray) w := fun x y i hi => by
      simp only [part, Sem.run_bind, h1, Result.andThen_ok, if_true, sizeOf, run_info h3, h4, Sem.run_pure]
      rcases hi with rfl | rfl <;> rfl
    rw [eqItems_all (fun i => if i = 0 then decide (a = c) else decide (b = d)) w [0, 1] (fun i hi => ?_)]
    · congr 1; simp
    · have hi : i = 0 ∨ i = 1 := by simpa using hi
      refine ⟨_, _, hp a b i hi, hp c d i hi, ?_⟩
      rw [show (9999 : Nat) = 9997 + 1 + 1 from rfl, run_eqCnt 9997]
      rcases hi with rfl | rfl <;> simp⟩

end Go.Proofs.YtmakdilmibjpbabGreatDoor
