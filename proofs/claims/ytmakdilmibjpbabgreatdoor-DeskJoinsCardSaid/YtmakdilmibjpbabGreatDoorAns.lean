/- What a clerk answers, in plain Lean. No program in sight. -/
import Derived.Test.YtmakdilmibjpbabGreatDoorKeeps
import Derived.Test.YtmakdilmibjpbabGreatDoorMails
namespace Go.Proofs.YtmakdilmibjpbabGreatDoor
open Go Go.RowKit
set_option linter.unusedVariables false
set_option linter.unusedSimpArgs false
def Mail.z0 : Mail := ⟨0, 0, 0, 0, 0, false⟩
/-- What a clerk answers. -/
def ansK (k : KeepS) (m : Mail) : KeepS × Option Mail :=
  if m.shop ≠ k.no then (k, none)
  else if m.kind = 1 then ((doK k ⟨1, m.deal, m.ctr, m.dl, false⟩).1, some { m with kind := 2, yes := decide ((doK k ⟨1, m.deal, m.ctr, m.dl, false⟩).2 = 0) })
  else if m.kind = 3 then ((doK k ⟨2, m.deal, 0, 0, m.yes⟩).1, if (doK k ⟨2, m.deal, 0, 0, m.yes⟩).2 = 0 then some { m with kind := 4 } else none)
  else (k, none)
theorem ansK_kind {k : KeepS} {m x : Mail} (h : (ansK k m).2 = some x) : x.kind = 2 ∨ x.kind = 4 := by
  unfold ansK at h
  split at h
  · cases h
  · split at h
    · cases h; exact .inl rfl
    · split at h
      · dsimp only at h; split at h
        · cases h; exact .inr rfl
        · cases h
      · cases h
theorem ansK_1 {k : KeepS} {m : Mail} (h : m.shop ≠ k.no) : ansK k m = (k, none) := by unfold ansK; rw [if_pos h]
theorem ansK_2 {k : KeepS} {m : Mail} (h : ¬ m.shop ≠ k.no) (hk : m.kind = 1) : ansK k m = ((doK k ⟨1, m.deal, m.ctr, m.dl, false⟩).1, some { m with kind := 2, yes := decide ((doK k ⟨1, m.deal, m.ctr, m.dl, false⟩).2 = 0) }) := by
  unfold ansK; rw [if_neg h, if_pos hk]
theorem ansK_3 {k : KeepS} {m : Mail} (h : ¬ m.shop ≠ k.no) (h1 : ¬ m.kind = 1) (hk : m.kind = 3) (h0 : ¬ (doK k ⟨2, m.deal, 0, 0, m.yes⟩).2 = 0) : ansK k m = ((doK k ⟨2, m.deal, 0, 0, m.yes⟩).1, none) := by
  unfold ansK; rw [if_neg h, if_neg h1, if_pos hk, if_neg h0]
theorem ansK_4 {k : KeepS} {m : Mail} (h : ¬ m.shop ≠ k.no) (h1 : ¬ m.kind = 1) (hk : m.kind = 3) (h0 : (doK k ⟨2, m.deal, 0, 0, m.yes⟩).2 = 0) : ansK k m = ((doK k ⟨2, m.deal, 0, 0, m.yes⟩).1, some { m with kind := 4 }) := by
  unfold ansK; rw [if_neg h, if_neg h1, if_pos hk, if_pos h0]
theorem ansK_5 {k : KeepS} {m : Mail} (h : ¬ m.shop ≠ k.no) (h1 : ¬ m.kind = 1) (hk : ¬ m.kind = 3) : ansK k m = (k, none) := by
  unfold ansK; rw [if_neg h, if_neg h1, if_neg hk]
theorem ansK_no (k : KeepS) (m : Mail) : (ansK k m).1.no = k.no ∧ (ansK k m).1.ws = k.ws := by
  unfold ansK
  split
  · exact ⟨rfl, rfl⟩
  · split
    · exact ⟨rfl, rfl⟩
    · split
      · exact ⟨rfl, rfl⟩
      · exact ⟨rfl, rfl⟩
theorem KInv.ans {k : KeepS} (h : KInv k) (m : Mail) : KInv (ansK k m).1 := by
  unfold ansK
  split
  · exact h
  · split
    · exact h.step _
    · split
      · exact h.step _
      · exact h

end Go.Proofs.YtmakdilmibjpbabGreatDoor
