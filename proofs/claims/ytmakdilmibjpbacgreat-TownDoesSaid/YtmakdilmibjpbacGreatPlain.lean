/- What the layers reckon, in plain Lean: counters, wants, mail. No program in sight. -/
import Derived.Test.YtmakdilmibjpbacGreatDel
namespace Go.Proofs.YtmakdilmibjpbacGreat
open Go Go.RowKit

theorem int_eq {k : IntKind} {a b : Int} (h : a = b) : Value.int k a = Value.int k b := by rw [h]
theorem bool_eq {a b : Bool} (h : a = b) : Value.bool a = Value.bool b := by rw [h]

abbrev ptr (b : Nat) : Value := .pointer (some ⟨b, 0, Option.none⟩)
def rI (n : Int) : List Value := [.int .i64 n]
/-! ### Layer 1: a counter -/
structure Cnt where
  v : Int
  o : Int
  i : Int
  deriving DecidableEq
def Cnt.z : Cnt := ⟨0, 0, 0⟩
def cntL (c : Cnt) : List Value := [.int .i64 c.v, .int .i64 c.o, .int .i64 c.i]
def cntV (c : Cnt) : Value := .agg (cntL c).toArray

def chk (c : Cnt) : Int := if c.v < 0 ∨ 100 < c.v then 1 else if c.o < 0 ∨ c.v < c.o then 5 else if c.i < 0 ∨ 100 - c.v < c.i then 6 else 0
def dlt (n : Int) : Int := if n = 0 then 2 else if n < -100 ∨ 100 < n then 1 else 0
theorem chk_ok {c : Cnt} (h : chk c = 0) : 0 ≤ c.v ∧ c.v ≤ 100 ∧ 0 ≤ c.o ∧ c.o ≤ c.v ∧ 0 ≤ c.i ∧ c.i ≤ 100 - c.v := by
  unfold chk at h; split at h
  · simp at h
  · split at h
    · simp at h
    · split at h
      · simp at h
      · omega
theorem dlt_ok {n : Int} (h : dlt n = 0) : n ≠ 0 ∧ -100 ≤ n ∧ n ≤ 100 := by
  unfold dlt at h; split at h
  · simp at h
  · split at h
    · simp at h
    · omega

def hold (c : Cnt) (n : Int) : Cnt × Int :=
  if chk c ≠ 0 then (.z, chk c) else if dlt n ≠ 0 then (.z, dlt n)
  else if n < 0 ∧ c.v - c.o < -n then (.z, 5)
  else if n < 0 then (⟨c.v, c.o - n, c.i⟩, 0)
  else if 100 < c.v + c.i + n then (.z, 6)
  else (⟨c.v, c.o, c.i + n⟩, 0)
def endc (c : Cnt) (n : Int) (d : Bool) : Cnt × Int :=
  if chk c ≠ 0 then (.z, chk c) else if dlt n ≠ 0 then (.z, dlt n)
  else if n < 0 ∧ c.o < -n ∨ 0 < n ∧ c.i < n then (.z, 7)
  else if n < 0 then (⟨if d then c.v + n else c.v, c.o + n, c.i⟩, 0)
  else (⟨if d then c.v + n else c.v, c.o, c.i - n⟩, 0)

theorem hold_ok {c : Cnt} {n : Int} (h : (hold c n).2 = 0) : chk c = 0 ∧ dlt n = 0 ∧
    ((n < 0 ∧ -n ≤ c.v - c.o ∧ hold c n = (⟨c.v, c.o - n, c.i⟩, 0)) ∨ (0 < n ∧ c.v + c.i + n ≤ 100 ∧ hold c n = (⟨c.v, c.o, c.i + n⟩, 0))) := by
  unfold hold at h ⊢
  by_cases h1 : chk c = 0
  · by_cases h2 : dlt n = 0
    · have hd := dlt_ok h2
      simp only [h1, h2, ne_eq, not_true_eq_false, if_false] at h ⊢
      refine ⟨trivial, trivial, ?_⟩
      by_cases h3 : n < 0 ∧ c.v - c.o < -n
      · rw [if_pos h3] at h; simp at h
      · rw [if_neg h3] at h ⊢
        by_cases h4 : n < 0
        · rw [if_pos h4]; exact .inl ⟨h4, by omega, rfl⟩
        · rw [if_neg h4] at h ⊢
          by_cases h5 : 100 < c.v + c.i + n
          · rw [if_pos h5] at h; simp at h
          · rw [if_neg h5]; exact .inr ⟨by omega, by omega, rfl⟩
    · simp [h1, h2] at h
  · simp [h1] at h
theorem chk_of {v o i : Int} (h : 0 ≤ v ∧ v ≤ 100 ∧ 0 ≤ o ∧ o ≤ v ∧ 0 ≤ i ∧ i ≤ 100 - v) : chk ⟨v, o, i⟩ = 0 := by
  unfold chk; simp only; (repeat' split) <;> omega
theorem hold_chk {c : Cnt} {n : Int} (h : (hold c n).2 = 0) : chk (hold c n).1 = 0 := by
  obtain ⟨h1, h2, h3⟩ := hold_ok h
  have hc := chk_ok h1; have hd := dlt_ok h2
  rcases h3 with ⟨_, _, e⟩ | ⟨_, _, e⟩ <;> rw [e] <;> exact chk_of (by first | omega | (simp only; omega))
/-- What was held can be ended. -/
theorem endc_ok {c : Cnt} {n : Int} (d : Bool) (h1 : chk c = 0) (h2 : dlt n = 0) (h3 : n < 0 → -n ≤ c.o) (h4 : 0 < n → n ≤ c.i) :
    endc c n d = (⟨if d then c.v + n else c.v, if n < 0 then c.o + n else c.o, if n < 0 then c.i else c.i - n⟩, 0) := by
  unfold endc; simp only [h1, h2, ne_eq, not_true_eq_false, if_false]
  rw [if_neg (by omega)]
  by_cases h : n < 0
  · simp [h]
  · simp [h]
theorem endc_chk {c : Cnt} {n : Int} {d : Bool} (h1 : chk c = 0) (h2 : dlt n = 0) (h3 : n < 0 → -n ≤ c.o) (h4 : 0 < n → n ≤ c.i) : chk (endc c n d).1 = 0 := by
  rw [endc_ok d h1 h2 h3 h4]
  have hc := chk_ok h1; have hd := dlt_ok h2
  refine chk_of ?_
  cases d <;> by_cases h : n < 0 <;> simp [h] <;> omega
/-! ### Lists compared element by element -/
theorem same_step {α : Type} {l k : List α} {i : Nat} {a : α} (h : l.take i = k.take i) (h1 : l[i]? = some a) (h2 : k[i]? = some a) : l.take (i + 1) = k.take (i + 1) := by
  rw [List.take_add_one, List.take_add_one, h, h1, h2]
theorem same_fin {α : Type} {l k : List α} {i : Nat} (hl : l.length = k.length) (h : l.take i = k.take i) (hi : l.length ≤ i) : l = k := by
  rw [List.take_of_length_le hi, List.take_of_length_le (by omega)] at h; exact h
theorem not_in_step {α : Type} {l : List α} {i : Nat} {x n : α} (h : n ∉ l.take i) (h1 : l[i]? = some x) (hx : ¬ x = n) : n ∉ l.take (i + 1) := by
  rw [List.take_add_one, h1]
  simp only [Option.toList_some, List.mem_append, List.mem_singleton]
  rintro (h2 | h2)
  · exact h h2
  · exact hx h2.symm
theorem same_ne {α : Type} {l k : List α} {i : Nat} {a b : α} (h1 : l[i]? = some a) (h2 : k[i]? = some b) (h : a ≠ b) : l ≠ k := by
  intro e; subst e; rw [h1] at h2; cases h2; exact h rfl

/-! ### A number counted round -/
def rnd (n : Int) (L : Nat) : Nat := (n % 18446744073709551616).toNat % L
theorem rnd_lt {n : Int} {L : Nat} (h : 0 < L) : rnd n L < L := Nat.mod_lt _ h
theorem u64_wrap (n : Int) : IntKind.u64.wrap n = n % 18446744073709551616 := by
  simp [IntKind.wrap, IntKind.bits, IntKind.signed]
theorem rnd_eq {n : Int} {L : Nat} (h : 0 < L) (hL : L ≤ 9223372036854775807) : IntKind.i64.wrap ((IntKind.u64.wrap n).tmod (IntKind.u64.wrap (L : Int))) = (rnd n L : Int) := by
  have h1 : IntKind.u64.wrap (L : Int) = (L : Int) := by rw [u64_wrap]; omega
  rw [h1, u64_wrap]
  have h2 : 0 ≤ n % 18446744073709551616 := Int.emod_nonneg _ (by decide)
  have h3 : (n % 18446744073709551616).tmod (L : Int) = (rnd n L : Int) := by
    rw [Int.tmod_eq_emod_of_nonneg h2]
    unfold rnd
    rw [Int.natCast_emod, Int.toNat_of_nonneg h2]
  rw [h3]
  have := rnd_lt (n := n) h
  exact wrap_in (by omega)
theorem u64_ne {L : Nat} (h : 0 < L) (hL : L ≤ 9223372036854775807) : ¬ IntKind.u64.wrap (L : Int) = 0 := by rw [u64_wrap]; omega

end Go.Proofs.YtmakdilmibjpbacGreat
