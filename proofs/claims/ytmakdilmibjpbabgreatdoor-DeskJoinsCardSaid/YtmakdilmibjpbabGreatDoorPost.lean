/- Mail and posts: what they are in plain Lean, and how they lie. -/
import Derived.Test.YtmakdilmibjpbabGreatDoorWants
import Derived.Test.YtmakdilmibjpbabGreatDoorTwo
import Derived.Test.YtmakdilmibjpbabGreatDoorMails
namespace Go.Proofs.YtmakdilmibjpbabGreatDoor
open Go Go.RowKit
set_option linter.unusedVariables false

def sendL (l : List Mail) (m : Mail) : List Mail := if l.length < 40 then l ++ [m] else l
def takeM (l : List Mail) (n : Int) : Option Mail := l[rnd n l.length]?
def takeL (l : List Mail) (n : Int) : List Mail := l.take (rnd n l.length) ++ l.drop (rnd n l.length + 1)
def dblOk (l : List Mail) : Bool := decide (0 < l.length ∧ l.length < 40)
def dblL (l : List Mail) (n : Int) : List Mail := match takeM l n with | some m => sendL l m | none => l
theorem takeM_nil (n : Int) : takeM [] n = Option.none := by simp [takeM]
theorem takeM_some {l : List Mail} (n : Int) (h : 0 < l.length) : ∃ m, takeM l n = some m := getlt (rnd_lt h)
theorem takeL_nil (n : Int) : takeL [] n = [] := by simp [takeL]
theorem takeL_len {l : List Mail} (n : Int) (h : 0 < l.length) : (takeL l n).length + 1 = l.length := by
  have := rnd_lt (n := n) h
  simp [takeL]; omega

theorem sendL_le {l : List Mail} {m : Mail} (h : l.length ≤ 40) : (sendL l m).length ≤ 40 := by
  unfold sendL; split
  · simp; omega
  · exact h
theorem takeL_le {l : List Mail} {n : Int} (h : l.length ≤ 40) : (takeL l n).length ≤ 40 := by
  simp [takeL]; omega
theorem dblL_le {l : List Mail} {n : Int} (h : l.length ≤ 40) : (dblL l n).length ≤ 40 := by
  unfold dblL; split
  · exact sendL_le h
  · exact h
theorem perm_at {α : Type} {l : List α} {i : Nat} {a : α} (h : l[i]? = some a) : l.Perm (a :: (l.take i ++ l.drop (i + 1))) := by
  obtain ⟨hi, rfl⟩ := List.getElem?_eq_some_iff.1 h
  have e : l = l.take i ++ l[i] :: l.drop (i + 1) := by
    rw [← List.drop_eq_getElem_cons hi, List.take_append_drop]
  conv => lhs; rw [e]
  exact List.perm_middle
theorem perm_take {l k : List Mail} {n : Int} {m : Mail} {a : Nat} (h : l.Perm k) (hm : takeM l n = some m) (ha : k[a]? = some m) : (takeL l n).Perm (k.take a ++ k.drop (a + 1)) := by
  have h1 := perm_at hm
  have h2 := perm_at ha
  exact List.Perm.cons_inv ((h1.symm.trans h).trans h2)
def KeepAt (k : List Mail) (m : Mail) (j : Nat) (t : Int) : Prop := (t = -1 ∧ ∀ q, q < j → k[q]? ≠ some m) ∨ ∃ a : Nat, t = a ∧ k[a]? = some m
theorem keep_next {k : List Mail} {m y : Mail} {j : Nat} {t : Int} (h : KeepAt k m j t) (hy : k[j]? = some y) (hne : y ≠ m) : KeepAt k m (j + 1) t := by
  rcases h with ⟨h1, h2⟩ | h
  · refine .inl ⟨h1, fun q hq => ?_⟩
    by_cases e : q = j
    · subst e; rw [hy]; intro e; cases e; exact hne rfl
    · exact h2 q (by omega)
  · exact .inr h
theorem keep_found {l k : List Mail} {m : Mail} {n : Int} {j : Nat} {t : Int} (hP : l.Perm k) (hm : takeM l n = some m) (hj : k.length ≤ j) (h : KeepAt k m j t) : ∃ a : Nat, t = a ∧ k[a]? = some m := by
  rcases h with ⟨h1, h2⟩ | h
  · exfalso
    have : m ∈ k := hP.mem_iff.1 (List.mem_of_getElem? hm)
    obtain ⟨q, hq, e⟩ := List.mem_iff_getElem.1 this
    exact h2 q (by omega) (by rw [List.getElem?_eq_getElem hq, e])
  · exact h
theorem ord_send {l : List Mail} {d : Int} {sm : Mail} {t : Option Mail} (hd : d = 0) (h : l.length ≤ 40) : (decide (l.length < 40) = false → sendL l sm = l) ∧ (decide (l.length < 40) = true → ∃ m, sendL l sm = l ++ [m] ∧ ((d = 0 ∧ m = sm) ∨ (d = 2 ∧ t = some m))) ∧ (sendL l sm).length ≤ 40 := by
  refine ⟨fun e => ?_, fun e => ⟨sm, ?_, .inl ⟨hd, rfl⟩⟩, sendL_le h⟩
  · have := of_decide_eq_false e; unfold sendL; rw [if_neg this]
  · have := of_decide_eq_true e; unfold sendL; rw [if_pos this]
theorem ord_dbl {l : List Mail} {d n : Int} {sm : Mail} (hd : d = 2) (h : l.length ≤ 40) : (dblOk l = false → dblL l n = l) ∧ (dblOk l = true → ∃ m, dblL l n = l ++ [m] ∧ ((d = 0 ∧ m = sm) ∨ (d = 2 ∧ takeM l n = some m))) ∧ (dblL l n).length ≤ 40 := by
  refine ⟨fun e => ?_, fun e => ?_, dblL_le h⟩
  · rcases Nat.eq_zero_or_pos l.length with h0 | h0
    · exact (by have := List.eq_nil_of_length_eq_zero h0; subst this; simp [dblL, takeM_nil])
    · obtain ⟨m, hm⟩ := takeM_some (l := l) n h0
      simp only [dblL, hm, sendL]
      simp [dblOk] at e
      rw [if_neg (by have := e h0; omega)]
  · simp only [dblOk, decide_eq_true_eq] at e
    obtain ⟨m, hm⟩ := takeM_some (l := l) n e.1
    exact ⟨m, by simp only [dblL, hm, sendL]; rw [if_pos e.2], .inr ⟨hd, hm⟩⟩
structure PStep where
  d : Int
  n : Int
  m : Mail
def rPS (s : PStep) : List Value := [.int .i64 s.d, .int .i64 s.n, .int .i64 s.m.kind, .int .i64 s.m.deal, .int .i64 s.m.shop, .int .i64 s.m.ctr, .int .i64 s.m.dl, .bool s.m.yes]
theorem take_none {l : List Mail} {n : Int} (h : l.length = 0) : takeM l n = Option.none ∧ takeL l n = l := by
  have := List.eq_nil_of_length_eq_zero h; subst this; exact ⟨takeM_nil n, takeL_nil n⟩
theorem takeM_isSome {l : List Mail} {n : Int} : (takeM l n).isSome = decide (0 < l.length) := by
  rcases Nat.eq_zero_or_pos l.length with h | h
  · rw [(take_none (n := n) h).1]; simp [h]
  · obtain ⟨m, hm⟩ := takeM_some (l := l) n h
    rw [hm]; simp [h]
theorem dbl_none {l : List Mail} {n : Int} (h : l.length = 0) : dblL l n = l ∧ dblOk l = false := by
  have := List.eq_nil_of_length_eq_zero h; subst this; exact ⟨by simp [dblL, takeM_nil], rfl⟩
theorem dbl_some {l : List Mail} {n : Int} {m : Mail} (h : takeM l n = some m) (h0 : 0 < l.length) : dblL l n = sendL l m ∧ dblOk l = decide (l.length < 40) := by
  refine ⟨by simp [dblL, h], ?_⟩
  simp [dblOk, h0]
theorem at_neg {L : Nat} {n : Int} : ((if L = 0 then (-1 : Int) else (rnd n L : Int)) < 0) ↔ L = 0 := by
  by_cases h : L = 0 <;> simp [h] <;> omega
theorem at_nn {L : Nat} {n : Int} : ((0 : Int) ≤ (if L = 0 then (-1 : Int) else (rnd n L : Int))) ↔ 0 < L := by
  by_cases h : L = 0 <;> simp [h] <;> omega
def postP (b : Nat) (l : List Mail) : HP := exS fun pv => [blk b [pv] 73, sl pv 129 6 (l.map rM)]

variable {H R R1 : List HP} {b : Nat} {pv : Value} {l : List Mail} {rows : List (List Value)}
theorem postP_close [s : SelB H b [pv] 73 R] [t : SelS R pv 129 6 rows R1] (e : rows = l.map rM) : Ent H (postP b l :: R1) :=
  Ent.tr (Ent.tr s.ent (Ent.mono (e ▸ t.ent))) (Ent.ex (L := fun pv => [blk b [pv] 73, sl pv 129 6 (l.map rM)]) pv)
theorem postP_nil [s : SelB H b [.slice Option.none 0 0] 73 R] : Ent H (postP b [] :: R) :=
  Ent.tr (Ent.tr s.ent (Ent.mono Ent.slN)) (Ent.ex (L := fun pv => [blk b [pv] 73, sl pv 129 6 (([] : List Mail).map rM)]) _)

end Go.Proofs.YtmakdilmibjpbabGreatDoor
