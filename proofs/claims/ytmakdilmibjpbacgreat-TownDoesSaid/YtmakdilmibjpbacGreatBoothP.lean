/- Booths and pens: how they lie. -/
import Derived.Test.YtmakdilmibjpbacGreatKeepP
import Derived.Test.YtmakdilmibjpbacGreatShopL
namespace Go.Proofs.YtmakdilmibjpbacGreat
open Go Go.RowKit
set_option linter.unusedVariables false
set_option maxRecDepth 20000

def dnI (o : Ovr) : Int := if o.done = true then 1 else 0
abbrev boC (s : ShopS) (hv ov dv : Value) : List Value := [.int .i64 s.no, .int .i64 s.c0.v, .int .i64 s.c1.v, hv, ov, dv]
abbrev boL (b : Nat) (s : ShopS) (hv ov dv : Value) : List HP := [blk b (boC s hv ov dv) 99, sl hv 139 3 (s.holds.map rH), sl ov 3 1 ((s.over.map (·.deal)).map rI), sl dv 3 1 ((s.over.map dnI).map rI)]
def boothP (b : Nat) (s : ShopS) : HP := ex3 fun hv ov dv => boL b s hv ov dv
variable {H R R1 R2 R3 : List HP} {b : Nat} {s : ShopS} {k : KeepS}
theorem boothP_close (hv ov dv : Value) {cs : List Value} {r1 r2 r3 : List (List Value)} [a : SelB H b cs 99 R] [t : SelS R hv 139 3 r1 R1] [u : SelS R1 ov 3 1 r2 R2] [w : SelS R2 dv 3 1 r3 R3] (e : cs = boC s hv ov dv) (e1 : r1 = s.holds.map rH) (e2 : r2 = (s.over.map (·.deal)).map rI) (e3 : r3 = (s.over.map dnI).map rI) : Ent H (boothP b s :: R3) := by
  subst e; subst e1; subst e2; subst e3
  exact Ent.tr (Ent.tr a.ent (Ent.mono (Ent.tr t.ent (Ent.mono (Ent.tr u.ent (Ent.mono w.ent)))))) (Ent.ex3 (L := fun hv ov dv => boL b s hv ov dv) hv ov dv)
abbrev pnL (b : Nat) (k : KeepS) (bb : Nat) (lv : Value) : List HP := [blk b [ptr bb, lv] 83, sl lv 133 5 (k.l.map rR), boothP bb k.shop]
def penP (b : Nat) (k : KeepS) : HP := ex2 fun bb lv => pnL b k bb lv
theorem penP_close (bb : Nat) (lv : Value) {cs : List Value} {r1 : List (List Value)} [a : SelB H b cs 83 R] [t : SelS R lv 133 5 r1 R1] [u : SelX R1 (boothP bb k.shop) R2] (e : cs = [ptr bb, lv]) (e1 : r1 = k.l.map rR) : Ent H (penP b k :: R2) := by
  subst e; subst e1
  exact Ent.tr (Ent.tr a.ent (Ent.mono (Ent.tr t.ent (Ent.mono u.ent)))) (Ent.ex2 (L := fun bb lv => pnL b k bb lv) bb lv)
theorem overL_hit : ∀ {l : List Ovr} {d : Int} {i : Nat} {o : Ovr}, l[i]? = some o → o.deal = d → (∀ (j : Nat) x, j < i → l[j]? = some x → decide (x.deal = d) = false) → overL l d = some o.done
  | [], _, _, _, h, _, _ => by simp at h
  | x :: l, d, 0, o, h, e, _ => by simp at h; subst h; simp [overL, e]
  | x :: l, d, i + 1, o, h, e, hm => by
    have h0 := hm 0 x (by omega) (by simp)
    simp only [overL]
    rw [if_neg (by simpa using h0)]
    exact overL_hit (i := i) (by simpa using h) e (fun j y hj hy => hm (j + 1) y (by omega) (by simpa using hy))
theorem overL_miss {l : List Ovr} {d : Int} (hm : ∀ (j : Nat) x, j < l.length → l[j]? = some x → decide (x.deal = d) = false) : overL l d = none := by
  rw [overL_none]
  intro o ho
  obtain ⟨i, hi, rfl⟩ := List.mem_iff_getElem.1 ho
  simpa using hm i _ hi (List.getElem?_eq_getElem hi)
def vE (v c d : Int) (dn : Bool) (l : List Hld) : Int := v + (if dn = true then sumH c d l else 0)
theorem dnI_one (o : Ovr) : decide (dnI o = 1) = o.done := by unfold dnI; cases o.done <;> simp

end Go.Proofs.YtmakdilmibjpbacGreat
