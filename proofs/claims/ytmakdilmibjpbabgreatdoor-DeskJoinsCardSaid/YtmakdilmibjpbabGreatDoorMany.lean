/- A list of parts that lie each in a block of its own. -/
import Derived.Test.YtmakdilmibjpbabGreatDoorAnn
namespace Go.Proofs.YtmakdilmibjpbabGreatDoor
open Go Go.RowKit
set_option linter.unusedVariables false
variable {H R : List HP} {α β : Type} {P : β → α → HP} {bs : List β} {ds : List α} {i : Nat} {b : β} {d : α}

def allP (L : List HP) : HP := fun h => sep L h
theorem allP_out {L : List HP} : Ent (allP L :: R) (L ++ R) := fun h ⟨a, b, ha, hb, hd, e⟩ => ⟨h, by subst e; exact sep_app' ha hb hd, Hp.sub_refl h⟩
theorem allP_in {L : List HP} : Ent (L ++ R) (allP L :: R) := fun h hx => by
  obtain ⟨a, b, ha, hb, hd, e⟩ := sep_app hx
  exact ⟨h, ⟨a, b, ha, hb, hd, e⟩, Hp.sub_refl h⟩
theorem entOut {X : HP} : ∀ {A B : List HP}, Ent (A ++ X :: B) (X :: (A ++ B))
  | [], _ => Ent.rfl
  | Y :: A, B => Ent.tr (Ent.mono (entOut (A := A) (B := B))) Ent.swap
def manyP (P : β → α → HP) (bs : List β) (ds : List α) : HP := allP (List.zipWith P bs ds)
def restP (P : β → α → HP) (bs : List β) (ds : List α) (i : Nat) : HP := allP (List.zipWith P (bs.take i) (ds.take i) ++ List.zipWith P (bs.drop (i + 1)) (ds.drop (i + 1)))
theorem zip_cut : ∀ {bs : List β} {ds : List α} {i : Nat} {b : β} {d : α}, bs[i]? = some b → ds[i]? = some d →
    List.zipWith P bs ds = List.zipWith P (bs.take i) (ds.take i) ++ P b d :: List.zipWith P (bs.drop (i + 1)) (ds.drop (i + 1))
  | [], _, _, _, _, h, _ => by simp at h
  | _ :: _, [], _, _, _, _, h => by simp at h
  | x :: bs, y :: ds, 0, b, d, h1, h2 => by simp at h1 h2; subst h1; subst h2; simp
  | x :: bs, y :: ds, i + 1, b, d, h1, h2 => by
    have := zip_cut (bs := bs) (ds := ds) (i := i) (b := b) (d := d) (by simpa using h1) (by simpa using h2)
    simp [this]
/-- One of them is taken out. -/
theorem many_out (h1 : bs[i]? = some b) (h2 : ds[i]? = some d) : Ent (manyP P bs ds :: R) (P b d :: restP P bs ds i :: R) := by
  refine Ent.tr allP_out ?_
  rw [zip_cut h1 h2, List.append_assoc, List.cons_append]
  refine Ent.tr entOut (Ent.mono ?_)
  rw [← List.append_assoc]
  exact allP_in
/-- It is laid back, as it is now. -/
theorem many_in {d' : α} (h1 : bs[i]? = some b) (h2 : ds[i]? = some d) : Ent (P b d' :: restP P bs ds i :: R) (manyP P bs (ds.set i d') :: R) := by
  have hi := (List.getElem?_eq_some_iff.1 h2).1
  have hz := zip_cut (P := P) (bs := bs) (ds := ds.set i d') (i := i) (b := b) (d := d') h1 (by simp [hi])
  rw [List.take_set_of_le (Nat.le_refl i), List.drop_set_of_lt (Nat.lt_succ_self i)] at hz
  refine Ent.tr (Ent.mono allP_out) ?_
  unfold manyP
  rw [hz]
  refine Ent.tr ?_ allP_in
  rw [List.append_assoc, List.append_assoc, List.cons_append]
  exact Ent.unA Ent.rfl
/-- The same, where what it hides has changed too. -/
theorem many_in2 {b' : β} {d' : α} (h1 : bs[i]? = some b) (h2 : ds[i]? = some d) : Ent (P b' d' :: restP P bs ds i :: R) (manyP P (bs.set i b') (ds.set i d') :: R) := by
  have hi := (List.getElem?_eq_some_iff.1 h2).1
  have hj := (List.getElem?_eq_some_iff.1 h1).1
  have hz := zip_cut (P := P) (bs := bs.set i b') (ds := ds.set i d') (i := i) (b := b') (d := d') (by simp [hj]) (by simp [hi])
  rw [List.take_set_of_le (Nat.le_refl i), List.drop_set_of_lt (Nat.lt_succ_self i), List.take_set_of_le (Nat.le_refl i), List.drop_set_of_lt (Nat.lt_succ_self i)] at hz
  refine Ent.tr (Ent.mono allP_out) ?_
  unfold manyP
  rw [hz]
  refine Ent.tr ?_ allP_in
  rw [List.append_assoc, List.append_assoc, List.cons_append]
  exact Ent.unA Ent.rfl
theorem zip_set {γ : Type} {f : β → α → γ} {b' : β} {d' : α} : ∀ {bs : List β} {ds : List α} {i : Nat}, (List.zipWith f bs ds).set i (f b' d') = List.zipWith f (bs.set i b') (ds.set i d')
  | [], _, _ => by simp
  | _ :: _, [], i => by cases i <;> simp
  | _ :: _, _ :: _, 0 => by simp
  | _ :: bs, _ :: ds, i + 1 => by simp [zip_set (bs := bs) (ds := ds) (i := i)]
theorem zip_get {γ : Type} {f : β → α → γ} (h1 : bs[i]? = some b) (h2 : ds[i]? = some d) : (List.zipWith f bs ds)[i]? = some (f b d) := by
  rw [List.getElem?_zipWith, h1, h2]
theorem many_back (h1 : bs[i]? = some b) (h2 : ds[i]? = some d) : Ent (P b d :: restP P bs ds i :: R) (manyP P bs ds :: R) := by
  have e : ds.set i d = ds := by
    apply List.ext_getElem?
    intro j
    by_cases hj : i = j
    · subst hj; rw [h2]; simp [(List.getElem?_eq_some_iff.1 h2).1]
    · rw [List.getElem?_set_ne hj]
  have := many_in (P := P) (R := R) (d' := d) h1 h2
  rwa [e] at this
/-- One more. -/
theorem many_add (hl : bs.length = ds.length) : Ent (P b d :: manyP P bs ds :: R) (manyP P (bs ++ [b]) (ds ++ [d]) :: R) := by
  refine Ent.tr (Ent.mono allP_out) ?_
  unfold manyP
  refine Ent.tr ?_ allP_in
  rw [List.zipWith_append hl, List.append_assoc]
  exact Ent.unA Ent.rfl
theorem r_many {Pg : Program} {F : Exit → Act → World → Prop} {N : Nat} {M : Amb} {K : List KI} {env : Env} (i : Nat) {bs : List β} {ds : List α} {b : β} {d : α} (h1 : bs[i]? = some b) (h2 : ds[i]? = some d) [t : SelX H (manyP P bs ds) R] (h : Run Pg F N M K env (P b d :: restP P bs ds i :: R)) : Run Pg F N M K env H := r_ent (Ent.tr t.ent (many_out h1 h2)) h
theorem many_nil : Ent R (manyP P [] ([] : List α) :: R) := allP_in (L := [])

end Go.Proofs.YtmakdilmibjpbabGreatDoor
