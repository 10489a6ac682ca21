/- Loops and joins, with relations of several parameters. Written by looptpl.py. -/
import Derived.Test.YtmakdilmibjpbabAuto
namespace Go.Proofs.Ytmakdilmibjpbab
open Go Go.RowKit

variable {P : Program} {F : Exit → Act → World → Prop} {N : Nat} {M : Amb} {env eb : Env} {H H' R : List HP} {K : List KI}

theorem run_goal {c : Code} {φ ψ : Act → World → Prop} (h : ∀ a w, φ a w → ψ a w) (r : Run P F N M (.code c :: .goal φ :: K) env H) : Run P F N M (.code c :: .goal ψ :: K) env H := by
  intro a w hf ho
  refine wp_mono (r a w hf ho) ?_
  intro e a' w' hq
  cases e with
  | normal => exact h _ _ hq
  | _ => exact hq
theorem r_cut {c : Code} {φ : Act → World → Prop} (first : Run P F N M (.code c :: .goal φ :: K) env H) (next : ∀ a w, φ a w → post P F K .normal a w) : Run P F N M (.code c :: K) env H := by
  intro a w hf ho
  refine wp_mono (first a w hf ho) ?_
  intro e a' w' hq
  cases e with
  | normal => exact next _ _ hq
  | _ => exact hq

theorem r_loop_1 {α1 : Type} {c : Code} (E : α1 → Env) (hb : Keep env eb) (Hh : α1 → List HP) (Inv : α1 → Prop) (μ : α1 → Nat) (x1 : α1) (hi : Inv x1) (hk : Keep env (E x1)) (he : Ent H (Hh x1))
    (round : ∀ x1, Inv x1 → Run P F N M (.code c :: .goal (fun a w => ∃ y1, (Inv y1 ∧ μ y1 < μ x1) ∧ Fits N (E y1 ++ eb) a ∧ Own M (Hh y1) w) :: K) (E x1 ++ eb) (Hh x1)) :
    Run P F N M (.code (.loop c) :: K) env H :=
  r_loop (α := α1) (fun x => E x ++ eb) (fun x => Hh x) (fun x => Inv x) (fun x => μ x) x1 hi (hk.app hb) he fun x hx => run_goal (fun _ _ ⟨y1, h⟩ => ⟨y1, h⟩) (round x hx)
theorem r_back_1 {α1 : Type} {E : α1 → Env} {Hh : α1 → List HP} {Inv : α1 → Prop} {μ : α1 → Nat} {m : Nat} (y1 : α1) (hi : Inv y1) (hm : μ y1 < m) (hk : Keep env (E y1 ++ eb)) (he : Ent H (Hh y1)) :
    Run P F N M (.goal (fun a w => ∃ y1, (Inv y1 ∧ μ y1 < m) ∧ Fits N (E y1 ++ eb) a ∧ Own M (Hh y1) w) :: K) env H :=
  fun _ _ hf ho => ⟨y1, ⟨hi, hm⟩, hf.keep hk, ho.ent he⟩
theorem r_cut_1 {α1 : Type} {c : Code} (E : α1 → Env) (_ : Keep env eb) (Hh : α1 → List HP) (Inv : α1 → Prop)
    (first : Run P F N M (.code c :: .goal (fun a w => ∃ y1, Inv y1 ∧ Fits N (E y1 ++ eb) a ∧ Own M (Hh y1) w) :: K) env H) (next : ∀ x1, Inv x1 → Run P F N M K (E x1 ++ eb) (Hh x1)) : Run P F N M (.code c :: K) env H :=
  r_cut first fun _ _ ⟨y1, hi, hf, ho⟩ => next y1 hi _ _ hf ho
theorem r_join_1 {α1 : Type} {E : α1 → Env} {Hh : α1 → List HP} {Inv : α1 → Prop} (y1 : α1) (hi : Inv y1) (hk : Keep env (E y1 ++ eb)) (he : Ent H (Hh y1)) :
    Run P F N M (.goal (fun a w => ∃ y1, Inv y1 ∧ Fits N (E y1 ++ eb) a ∧ Own M (Hh y1) w) :: K) env H :=
  fun _ _ hf ho => ⟨y1, hi, hf.keep hk, ho.ent he⟩

theorem r_loop_2 {α1 α2 : Type} {c : Code} (E : α1 → α2 → Env) (hb : Keep env eb) (Hh : α1 → α2 → List HP) (Inv : α1 → α2 → Prop) (μ : α1 → α2 → Nat) (x1 : α1) (x2 : α2) (hi : Inv x1 x2) (hk : Keep env (E x1 x2)) (he : Ent H (Hh x1 x2))
    (round : ∀ x1 x2, Inv x1 x2 → Run P F N M (.code c :: .goal (fun a w => ∃ y1 y2, (Inv y1 y2 ∧ μ y1 y2 < μ x1 x2) ∧ Fits N (E y1 y2 ++ eb) a ∧ Own M (Hh y1 y2) w) :: K) (E x1 x2 ++ eb) (Hh x1 x2)) :
    Run P F N M (.code (.loop c) :: K) env H :=
  r_loop (α := α1 × α2) (fun x => E x.1 x.2 ++ eb) (fun x => Hh x.1 x.2) (fun x => Inv x.1 x.2) (fun x => μ x.1 x.2) (x1, x2) hi (hk.app hb) he fun x hx => run_goal (fun _ _ ⟨y1, y2, h⟩ => ⟨(y1, y2), h⟩) (round x.1 x.2 hx)
theorem r_back_2 {α1 α2 : Type} {E : α1 → α2 → Env} {Hh : α1 → α2 → List HP} {Inv : α1 → α2 → Prop} {μ : α1 → α2 → Nat} {m : Nat} (y1 : α1) (y2 : α2) (hi : Inv y1 y2) (hm : μ y1 y2 < m) (hk : Keep env (E y1 y2 ++ eb)) (he : Ent H (Hh y1 y2)) :
    Run P F N M (.goal (fun a w => ∃ y1 y2, (Inv y1 y2 ∧ μ y1 y2 < m) ∧ Fits N (E y1 y2 ++ eb) a ∧ Own M (Hh y1 y2) w) :: K) env H :=
  fun _ _ hf ho => ⟨y1, y2, ⟨hi, hm⟩, hf.keep hk, ho.ent he⟩
theorem r_cut_2 {α1 α2 : Type} {c : Code} (E : α1 → α2 → Env) (_ : Keep env eb) (Hh : α1 → α2 → List HP) (Inv : α1 → α2 → Prop)
    (first : Run P F N M (.code c :: .goal (fun a w => ∃ y1 y2, Inv y1 y2 ∧ Fits N (E y1 y2 ++ eb) a ∧ Own M (Hh y1 y2) w) :: K) env H) (next : ∀ x1 x2, Inv x1 x2 → Run P F N M K (E x1 x2 ++ eb) (Hh x1 x2)) : Run P F N M (.code c :: K) env H :=
  r_cut first fun _ _ ⟨y1, y2, hi, hf, ho⟩ => next y1 y2 hi _ _ hf ho
theorem r_join_2 {α1 α2 : Type} {E : α1 → α2 → Env} {Hh : α1 → α2 → List HP} {Inv : α1 → α2 → Prop} (y1 : α1) (y2 : α2) (hi : Inv y1 y2) (hk : Keep env (E y1 y2 ++ eb)) (he : Ent H (Hh y1 y2)) :
    Run P F N M (.goal (fun a w => ∃ y1 y2, Inv y1 y2 ∧ Fits N (E y1 y2 ++ eb) a ∧ Own M (Hh y1 y2) w) :: K) env H :=
  fun _ _ hf ho => ⟨y1, y2, hi, hf.keep hk, ho.ent he⟩

theorem r_loop_3 {α1 α2 α3 : Type} {c : Code} (E : α1 → α2 → α3 → Env) (hb : Keep env eb) (Hh : α1 → α2 → α3 → List HP) (Inv : α1 → α2 → α3 → Prop) (μ : α1 → α2 → α3 → Nat) (x1 : α1) (x2 : α2) (x3 : α3) (hi : Inv x1 x2 x3) (hk : Keep env (E x1 x2 x3)) (he : Ent H (Hh x1 x2 x3))
    (round : ∀ x1 x2 x3, Inv x1 x2 x3 → Run P F N M (.code c :: .goal (fun a w => ∃ y1 y2 y3, (Inv y1 y2 y3 ∧ μ y1 y2 y3 < μ x1 x2 x3) ∧ Fits N (E y1 y2 y3 ++ eb) a ∧ Own M (Hh y1 y2 y3) w) :: K) (E x1 x2 x3 ++ eb) (Hh x1 x2 x3)) :
    Run P F N M (.code (.loop c) :: K) env H :=
  r_loop (α := α1 × α2 × α3) (fun x => E x.1 x.2.1 x.2.2 ++ eb) (fun x => Hh x.1 x.2.1 x.2.2) (fun x => Inv x.1 x.2.1 x.2.2) (fun x => μ x.1 x.2.1 x.2.2) (x1, x2, x3) hi (hk.app hb) he fun x hx => run_goal (fun _ _ ⟨y1, y2, y3, h⟩ => ⟨(y1, y2, y3), h⟩) (round x.1 x.2.1 x.2.2 hx)
theorem r_back_3 {α1 α2 α3 : Type} {E : α1 → α2 → α3 → Env} {Hh : α1 → α2 → α3 → List HP} {Inv : α1 → α2 → α3 → Prop} {μ : α1 → α2 → α3 → Nat} {m : Nat} (y1 : α1) (y2 : α2) (y3 : α3) (hi : Inv y1 y2 y3) (hm : μ y1 y2 y3 < m) (hk : Keep env (E y1 y2 y3 ++ eb)) (he : Ent H (Hh y1 y2 y3)) :
    Run P F N M (.goal (fun a w => ∃ y1 y2 y3, (Inv y1 y2 y3 ∧ μ y1 y2 y3 < m) ∧ Fits N (E y1 y2 y3 ++ eb) a ∧ Own M (Hh y1 y2 y3) w) :: K) env H :=
  fun _ _ hf ho => ⟨y1, y2, y3, ⟨hi, hm⟩, hf.keep hk, ho.ent he⟩
theorem r_cut_3 {α1 α2 α3 : Type} {c : Code} (E : α1 → α2 → α3 → Env) (_ : Keep env eb) (Hh : α1 → α2 → α3 → List HP) (Inv : α1 → α2 → α3 → Prop)
    (first : Run P F N M (.code c :: .goal (fun a w => ∃ y1 y2 y3, Inv y1 y2 y3 ∧ Fits N (E y1 y2 y3 ++ eb) a ∧ Own M (Hh y1 y2 y3) w) :: K) env H) (next : ∀ x1 x2 x3, Inv x1 x2 x3 → Run P F N M K (E x1 x2 x3 ++ eb) (Hh x1 x2 x3)) : Run P F N M (.code c :: K) env H :=
  r_cut first fun _ _ ⟨y1, y2, y3, hi, hf, ho⟩ => next y1 y2 y3 hi _ _ hf ho
theorem r_join_3 {α1 α2 α3 : Type} {E : α1 → α2 → α3 → Env} {Hh : α1 → α2 → α3 → List HP} {Inv : α1 → α2 → α3 → Prop} (y1 : α1) (y2 : α2) (y3 : α3) (hi : Inv y1 y2 y3) (hk : Keep env (E y1 y2 y3 ++ eb)) (he : Ent H (Hh y1 y2 y3)) :
    Run P F N M (.goal (fun a w => ∃ y1 y2 y3, Inv y1 y2 y3 ∧ Fits N (E y1 y2 y3 ++ eb) a ∧ Own M (Hh y1 y2 y3) w) :: K) env H :=
  fun _ _ hf ho => ⟨y1, y2, y3, hi, hf.keep hk, ho.ent he⟩

theorem r_loop_4 {α1 α2 α3 α4 : Type} {c : Code} (E : α1 → α2 → α3 → α4 → Env) (hb : Keep env eb) (Hh : α1 → α2 → α3 → α4 → List HP) (Inv : α1 → α2 → α3 → α4 → Prop) (μ : α1 → α2 → α3 → α4 → Nat) (x1 : α1) (x2 : α2) (x3 : α3) (x4 : α4) (hi : Inv x1 x2 x3 x4) (hk : Keep env (E x1 x2 x3 x4)) (he : Ent H (Hh x1 x2 x3 x4))
    (round : ∀ x1 x2 x3 x4, Inv x1 x2 x3 x4 → Run P F N M (.code c :: .goal (fun a w => ∃ y1 y2 y3 y4, (Inv y1 y2 y3 y4 ∧ μ y1 y2 y3 y4 < μ x1 x2 x3 x4) ∧ Fits N (E y1 y2 y3 y4 ++ eb) a ∧ Own M (Hh y1 y2 y3 y4) w) :: K) (E x1 x2 x3 x4 ++ eb) (Hh x1 x2 x3 x4)) :
    Run P F N M (.code (.loop c) :: K) env H :=
  r_loop (α := α1 × α2 × α3 × α4) (fun x => E x.1 x.2.1 x.2.2.1 x.2.2.2 ++ eb) (fun x => Hh x.1 x.2.1 x.2.2.1 x.2.2.2) (fun x => Inv x.1 x.2.1 x.2.2.1 x.2.2.2) (fun x => μ x.1 x.2.1 x.2.2.1 x.2.2.2) (x1, x2, x3, x4) hi (hk.app hb) he fun x hx => run_goal (fun _ _ ⟨y1, y2, y3, y4, h⟩ => ⟨(y1, y2, y3, y4), h⟩) (round x.1 x.2.1 x.2.2.1 x.2.2.2 hx)
theorem r_back_4 {α1 α2 α3 α4 : Type} {E : α1 → α2 → α3 → α4 → Env} {Hh : α1 → α2 → α3 → α4 → List HP} {Inv : α1 → α2 → α3 → α4 → Prop} {μ : α1 → α2 → α3 → α4 → Nat} {m : Nat} (y1 : α1) (y2 : α2) (y3 : α3) (y4 : α4) (hi : Inv y1 y2 y3 y4) (hm : μ y1 y2 y3 y4 < m) (hk : Keep env (E y1 y2 y3 y4 ++ eb)) (he : Ent H (Hh y1 y2 y3 y4)) :
    Run P F N M (.goal (fun a w => ∃ y1 y2 y3 y4, (Inv y1 y2 y3 y4 ∧ μ y1 y2 y3 y4 < m) ∧ Fits N (E y1 y2 y3 y4 ++ eb) a ∧ Own M (Hh y1 y2 y3 y4) w) :: K) env H :=
  fun _ _ hf ho => ⟨y1, y2, y3, y4, ⟨hi, hm⟩, hf.keep hk, ho.ent he⟩
theorem r_cut_4 {α1 α2 α3 α4 : Type} {c : Code} (E : α1 → α2 → α3 → α4 → Env) (_ : Keep env eb) (Hh : α1 → α2 → α3 → α4 → List HP) (Inv : α1 → α2 → α3 → α4 → Prop)
    (first : Run P F N M (.code c :: .goal (fun a w => ∃ y1 y2 y3 y4, Inv y1 y2 y3 y4 ∧ Fits N (E y1 y2 y3 y4 ++ eb) a ∧ Own M (Hh y1 y2 y3 y4) w) :: K) env H) (next : ∀ x1 x2 x3 x4, Inv x1 x2 x3 x4 → Run P F N M K (E x1 x2 x3 x4 ++ eb) (Hh x1 x2 x3 x4)) : Run P F N M (.code c :: K) env H :=
  r_cut first fun _ _ ⟨y1, y2, y3, y4, hi, hf, ho⟩ => next y1 y2 y3 y4 hi _ _ hf ho
theorem r_join_4 {α1 α2 α3 α4 : Type} {E : α1 → α2 → α3 → α4 → Env} {Hh : α1 → α2 → α3 → α4 → List HP} {Inv : α1 → α2 → α3 → α4 → Prop} (y1 : α1) (y2 : α2) (y3 : α3) (y4 : α4) (hi : Inv y1 y2 y3 y4) (hk : Keep env (E y1 y2 y3 y4 ++ eb)) (he : Ent H (Hh y1 y2 y3 y4)) :
    Run P F N M (.goal (fun a w => ∃ y1 y2 y3 y4, Inv y1 y2 y3 y4 ∧ Fits N (E y1 y2 y3 y4 ++ eb) a ∧ Own M (Hh y1 y2 y3 y4) w) :: K) env H :=
  fun _ _ hf ho => ⟨y1, y2, y3, y4, hi, hf.keep hk, ho.ent he⟩

theorem r_loop_5 {α1 α2 α3 α4 α5 : Type} {c : Code} (E : α1 → α2 → α3 → α4 → α5 → Env) (hb : Keep env eb) (Hh : α1 → α2 → α3 → α4 → α5 → List HP) (Inv : α1 → α2 → α3 → α4 → α5 → Prop) (μ : α1 → α2 → α3 → α4 → α5 → Nat) (x1 : α1) (x2 : α2) (x3 : α3) (x4 : α4) (x5 : α5) (hi : Inv x1 x2 x3 x4 x5) (hk : Keep env (E x1 x2 x3 x4 x5)) (he : Ent H (Hh x1 x2 x3 x4 x5))
    (round : ∀ x1 x2 x3 x4 x5, Inv x1 x2 x3 x4 x5 → Run P F N M (.code c :: .goal (fun a w => ∃ y1 y2 y3 y4 y5, (Inv y1 y2 y3 y4 y5 ∧ μ y1 y2 y3 y4 y5 < μ x1 x2 x3 x4 x5) ∧ Fits N (E y1 y2 y3 y4 y5 ++ eb) a ∧ Own M (Hh y1 y2 y3 y4 y5) w) :: K) (E x1 x2 x3 x4 x5 ++ eb) (Hh x1 x2 x3 x4 x5)) :
    Run P F N M (.code (.loop c) :: K) env H :=
  r_loop (α := α1 × α2 × α3 × α4 × α5) (fun x => E x.1 x.2.1 x.2.2.1 x.2.2.2.1 x.2.2.2.2 ++ eb) (fun x => Hh x.1 x.2.1 x.2.2.1 x.2.2.2.1 x.2.2.2.2) (fun x => Inv x.1 x.2.1 x.2.2.1 x.2.2.2.1 x.2.2.2.2) (fun x => μ x.1 x.2.1 x.2.2.1 x.2.2.2.1 x.2.2.2.2) (x1, x2, x3, x4, x5) hi (hk.app hb) he fun x hx => run_goal (fun _ _ ⟨y1, y2, y3, y4, y5, h⟩ => ⟨(y1, y2, y3, y4, y5), h⟩) (round x.1 x.2.1 x.2.2.1 x.2.2.2.1 x.2.2.2.2 hx)
theorem r_back_5 {α1 α2 α3 α4 α5 : Type} {E : α1 → α2 → α3 → α4 → α5 → Env} {Hh : α1 → α2 → α3 → α4 → α5 → List HP} {Inv : α1 → α2 → α3 → α4 → α5 → Prop} {μ : α1 → α2 → α3 → α4 → α5 → Nat} {m : Nat} (y1 : α1) (y2 : α2) (y3 : α3) (y4 : α4) (y5 : α5) (hi : Inv y1 y2 y3 y4 y5) (hm : μ y1 y2 y3 y4 y5 < m) (hk : Keep env (E y1 y2 y3 y4 y5 ++ eb)) (he : Ent H (Hh y1 y2 y3 y4 y5)) :
    Run P F N M (.goal (fun a w => ∃ y1 y2 y3 y4 y5, (Inv y1 y2 y3 y4 y5 ∧ μ y1 y2 y3 y4 y5 < m) ∧ Fits N (E y1 y2 y3 y4 y5 ++ eb) a ∧ Own M (Hh y1 y2 y3 y4 y5) w) :: K) env H :=
  fun _ _ hf ho => ⟨y1, y2, y3, y4, y5, ⟨hi, hm⟩, hf.keep hk, ho.ent he⟩
theorem r_cut_5 {α1 α2 α3 α4 α5 : Type} {c : Code} (E : α1 → α2 → α3 → α4 → α5 → Env) (_ : Keep env eb) (Hh : α1 → α2 → α3 → α4 → α5 → List HP) (Inv : α1 → α2 → α3 → α4 → α5 → Prop)
    (first : Run P F N M (.code c :: .goal (fun a w => ∃ y1 y2 y3 y4 y5, Inv y1 y2 y3 y4 y5 ∧ Fits N (E y1 y2 y3 y4 y5 ++ eb) a ∧ Own M (Hh y1 y2 y3 y4 y5) w) :: K) env H) (next : ∀ x1 x2 x3 x4 x5, Inv x1 x2 x3 x4 x5 → Run P F N M K (E x1 x2 x3 x4 x5 ++ eb) (Hh x1 x2 x3 x4 x5)) : Run P F N M (.code c :: K) env H :=
  r_cut first fun _ _ ⟨y1, y2, y3, y4, y5, hi, hf, ho⟩ => next y1 y2 y3 y4 y5 hi _ _ hf ho
theorem r_join_5 {α1 α2 α3 α4 α5 : Type} {E : α1 → α2 → α3 → α4 → α5 → Env} {Hh : α1 → α2 → α3 → α4 → α5 → List HP} {Inv : α1 → α2 → α3 → α4 → α5 → Prop} (y1 : α1) (y2 : α2) (y3 : α3) (y4 : α4) (y5 : α5) (hi : Inv y1 y2 y3 y4 y5) (hk : Keep env (E y1 y2 y3 y4 y5 ++ eb)) (he : Ent H (Hh y1 y2 y3 y4 y5)) :
    Run P F N M (.goal (fun a w => ∃ y1 y2 y3 y4 y5, Inv y1 y2 y3 y4 y5 ∧ Fits N (E y1 y2 y3 y4 y5 ++ eb) a ∧ Own M (Hh y1 y2 y3 y4 y5) w) :: K) env H :=
  fun _ _ hf ho => ⟨y1, y2, y3, y4, y5, hi, hf.keep hk, ho.ent he⟩

theorem r_loop_6 {α1 α2 α3 α4 α5 α6 : Type} {c : Code} (E : α1 → α2 → α3 → α4 → α5 → α6 → Env) (hb : Keep env eb) (Hh : α1 → α2 → α3 → α4 → α5 → α6 → List HP) (Inv : α1 → α2 → α3 → α4 → α5 → α6 → Prop) (μ : α1 → α2 → α3 → α4 → α5 → α6 → Nat) (x1 : α1) (x2 : α2) (x3 : α3) (x4 : α4) (x5 : α5) (x6 : α6) (hi : Inv x1 x2 x3 x4 x5 x6) (hk : Keep env (E x1 x2 x3 x4 x5 x6)) (he : Ent H (Hh x1 x2 x3 x4 x5 x6))
    (round : ∀ x1 x2 x3 x4 x5 x6, Inv x1 x2 x3 x4 x5 x6 → Run P F N M (.code c :: .goal (fun a w => ∃ y1 y2 y3 y4 y5 y6, (Inv y1 y2 y3 y4 y5 y6 ∧ μ y1 y2 y3 y4 y5 y6 < μ x1 x2 x3 x4 x5 x6) ∧ Fits N (E y1 y2 y3 y4 y5 y6 ++ eb) a ∧ Own M (Hh y1 y2 y3 y4 y5 y6) w) :: K) (E x1 x2 x3 x4 x5 x6 ++ eb) (Hh x1 x2 x3 x4 x5 x6)) :
    Run P F N M (.code (.loop c) :: K) env H :=
  r_loop (α := α1 × α2 × α3 × α4 × α5 × α6) (fun x => E x.1 x.2.1 x.2.2.1 x.2.2.2.1 x.2.2.2.2.1 x.2.2.2.2.2 ++ eb) (fun x => Hh x.1 x.2.1 x.2.2.1 x.2.2.2.1 x.2.2.2.2.1 x.2.2.2.2.2) (fun x => Inv x.1 x.2.1 x.2.2.1 x.2.2.2.1 x.2.2.2.2.1 x.2.2.2.2.2) (fun x => μ x.1 x.2.1 x.2.2.1 x.2.2.2.1 x.2.2.2.2.1 x.2.2.2.2.2) (x1, x2, x3, x4, x5, x6) hi (hk.app hb) he fun x hx => run_goal (fun _ _ ⟨y1, y2, y3, y4, y5, y6, h⟩ => ⟨(y1, y2, y3, y4, y5, y6), h⟩) (round x.1 x.2.1 x.2.2.1 x.2.2.2.1 x.2.2.2.2.1 x.2.2.2.2.2 hx)
theorem r_back_6 {α1 α2 α3 α4 α5 α6 : Type} {E : α1 → α2 → α3 → α4 → α5 → α6 → Env} {Hh : α1 → α2 → α3 → α4 → α5 → α6 → List HP} {Inv : α1 → α2 → α3 → α4 → α5 → α6 → Prop} {μ : α1 → α2 → α3 → α4 → α5 → α6 → Nat} {m : Nat} (y1 : α1) (y2 : α2) (y3 : α3) (y4 : α4) (y5 : α5) (y6 : α6) (hi : Inv y1 y2 y3 y4 y5 y6) (hm : μ y1 y2 y3 y4 y5 y6 < m) (hk : Keep env (E y1 y2 y3 y4 y5 y6 ++ eb)) (he : Ent H (Hh y1 y2 y3 y4 y5 y6)) :
    Run P F N M (.goal (fun a w => ∃ y1 y2 y3 y4 y5 y6, (Inv y1 y2 y3 y4 y5 y6 ∧ μ y1 y2 y3 y4 y5 y6 < m) ∧ Fits N (E y1 y2 y3 y4 y5 y6 ++ eb) a ∧ Own M (Hh y1 y2 y3 y4 y5 y6) w) :: K) env H :=
  fun _ _ hf ho => ⟨y1, y2, y3, y4, y5, y6, ⟨hi, hm⟩, hf.keep hk, ho.ent he⟩
theorem r_cut_6 {α1 α2 α3 α4 α5 α6 : Type} {c : Code} (E : α1 → α2 → α3 → α4 → α5 → α6 → Env) (_ : Keep env eb) (Hh : α1 → α2 → α3 → α4 → α5 → α6 → List HP) (Inv : α1 → α2 → α3 → α4 → α5 → α6 → Prop)
    (first : Run P F N M (.code c :: .goal (fun a w => ∃ y1 y2 y3 y4 y5 y6, Inv y1 y2 y3 y4 y5 y6 ∧ Fits N (E y1 y2 y3 y4 y5 y6 ++ eb) a ∧ Own M (Hh y1 y2 y3 y4 y5 y6) w) :: K) env H) (next : ∀ x1 x2 x3 x4 x5 x6, Inv x1 x2 x3 x4 x5 x6 → Run P F N M K (E x1 x2 x3 x4 x5 x6 ++ eb) (Hh x1 x2 x3 x4 x5 x6)) : Run P F N M (.code c :: K) env H :=
  r_cut first fun _ _ ⟨y1, y2, y3, y4, y5, y6, hi, hf, ho⟩ => next y1 y2 y3 y4 y5 y6 hi _ _ hf ho
theorem r_join_6 {α1 α2 α3 α4 α5 α6 : Type} {E : α1 → α2 → α3 → α4 → α5 → α6 → Env} {Hh : α1 → α2 → α3 → α4 → α5 → α6 → List HP} {Inv : α1 → α2 → α3 → α4 → α5 → α6 → Prop} (y1 : α1) (y2 : α2) (y3 : α3) (y4 : α4) (y5 : α5) (y6 : α6) (hi : Inv y1 y2 y3 y4 y5 y6) (hk : Keep env (E y1 y2 y3 y4 y5 y6 ++ eb)) (he : Ent H (Hh y1 y2 y3 y4 y5 y6)) :
    Run P F N M (.goal (fun a w => ∃ y1 y2 y3 y4 y5 y6, Inv y1 y2 y3 y4 y5 y6 ∧ Fits N (E y1 y2 y3 y4 y5 y6 ++ eb) a ∧ Own M (Hh y1 y2 y3 y4 y5 y6) w) :: K) env H :=
  fun _ _ hf ho => ⟨y1, y2, y3, y4, y5, y6, hi, hf.keep hk, ho.ent he⟩

theorem r_loop_7 {α1 α2 α3 α4 α5 α6 α7 : Type} {c : Code} (E : α1 → α2 → α3 → α4 → α5 → α6 → α7 → Env) (hb : Keep env eb) (Hh : α1 → α2 → α3 → α4 → α5 → α6 → α7 → List HP) (Inv : α1 → α2 → α3 → α4 → α5 → α6 → α7 → Prop) (μ : α1 → α2 → α3 → α4 → α5 → α6 → α7 → Nat) (x1 : α1) (x2 : α2) (x3 : α3) (x4 : α4) (x5 : α5) (x6 : α6) (x7 : α7) (hi : Inv x1 x2 x3 x4 x5 x6 x7) (hk : Keep env (E x1 x2 x3 x4 x5 x6 x7)) (he : Ent H (Hh x1 x2 x3 x4 x5 x6 x7))
    (round : ∀ x1 x2 x3 x4 x5 x6 x7, Inv x1 x2 x3 x4 x5 x6 x7 → Run P F N M (.code c :: .goal (fun a w => ∃ y1 y2 y3 y4 y5 y6 y7, (Inv y1 y2 y3 y4 y5 y6 y7 ∧ μ y1 y2 y3 y4 y5 y6 y7 < μ x1 x2 x3 x4 x5 x6 x7) ∧ Fits N (E y1 y2 y3 y4 y5 y6 y7 ++ eb) a ∧ Own M (Hh y1 y2 y3 y4 y5 y6 y7) w) :: K) (E x1 x2 x3 x4 x5 x6 x7 ++ eb) (Hh x1 x2 x3 x4 x5 x6 x7)) :
    Run P F N M (.code (.loop c) :: K) env H :=
  r_loop (α := α1 × α2 × α3 × α4 × α5 × α6 × α7) (fun x => E x.1 x.2.1 x.2.2.1 x.2.2.2.1 x.2.2.2.2.1 x.2.2.2.2.2.1 x.2.2.2.2.2.2 ++ eb) (fun x => Hh x.1 x.2.1 x.2.2.1 x.2.2.2.1 x.2.2.2.2.1 x.2.2.2.2.2.1 x.2.2.2.2.2.2) (fun x => Inv x.1 x.2.1 x.2.2.1 x.2.2.2.1 x.2.2.2.2.1 x.2.2.2.2.2.1 x.2.2.2.2.2.2) (fun x => μ x.1 x.2.1 x.2.2.1 x.2.2.2.1 x.2.2.2.2.1 x.2.2.2.2.2.1 x.2.2.2.2.2.2) (x1, x2, x3, x4, x5, x6, x7) hi (hk.app hb) he fun x hx => run_goal (fun _ _ ⟨y1, y2, y3, y4, y5, y6, y7, h⟩ => ⟨(y1, y2, y3, y4, y5, y6, y7), h⟩) (round x.1 x.2.1 x.2.2.1 x.2.2.2.1 x.2.2.2.2.1 x.2.2.2.2.2.1 x.2.2.2.2.2.2 hx)
theorem r_back_7 {α1 α2 α3 α4 α5 α6 α7 : Type} {E : α1 → α2 → α3 → α4 → α5 → α6 → α7 → Env} {Hh : α1 → α2 → α3 → α4 → α5 → α6 → α7 → List HP} {Inv : α1 → α2 → α3 → α4 → α5 → α6 → α7 → Prop} {μ : α1 → α2 → α3 → α4 → α5 → α6 → α7 → Nat} {m : Nat} (y1 : α1) (y2 : α2) (y3 : α3) (y4 : α4) (y5 : α5) (y6 : α6) (y7 : α7) (hi : Inv y1 y2 y3 y4 y5 y6 y7) (hm : μ y1 y2 y3 y4 y5 y6 y7 < m) (hk : Keep env (E y1 y2 y3 y4 y5 y6 y7 ++ eb)) (he : Ent H (Hh y1 y2 y3 y4 y5 y6 y7)) :
    Run P F N M (.goal (fun a w => ∃ y1 y2 y3 y4 y5 y6 y7, (Inv y1 y2 y3 y4 y5 y6 y7 ∧ μ y1 y2 y3 y4 y5 y6 y7 < m) ∧ Fits N (E y1 y2 y3 y4 y5 y6 y7 ++ eb) a ∧ Own M (Hh y1 y2 y3 y4 y5 y6 y7) w) :: K) env H :=
  fun _ _ hf ho => ⟨y1, y2, y3, y4, y5, y6, y7, ⟨hi, hm⟩, hf.keep hk, ho.ent he⟩
theorem r_cut_7 {α1 α2 α3 α4 α5 α6 α7 : Type} {c : Code} (E : α1 → α2 → α3 → α4 → α5 → α6 → α7 → Env) (_ : Keep env eb) (Hh : α1 → α2 → α3 → α4 → α5 → α6 → α7 → List HP) (Inv : α1 → α2 → α3 → α4 → α5 → α6 → α7 → Prop)
    (first : Run P F N M (.code c :: .goal (fun a w => ∃ y1 y2 y3 y4 y5 y6 y7, Inv y1 y2 y3 y4 y5 y6 y7 ∧ Fits N (E y1 y2 y3 y4 y5 y6 y7 ++ eb) a ∧ Own M (Hh y1 y2 y3 y4 y5 y6 y7) w) :: K) env H) (next : ∀ x1 x2 x3 x4 x5 x6 x7, Inv x1 x2 x3 x4 x5 x6 x7 → Run P F N M K (E x1 x2 x3 x4 x5 x6 x7 ++ eb) (Hh x1 x2 x3 x4 x5 x6 x7)) : Run P F N M (.code c :: K) env H :=
  r_cut first fun _ _ ⟨y1, y2, y3, y4, y5, y6, y7, hi, hf, ho⟩ => next y1 y2 y3 y4 y5 y6 y7 hi _ _ hf ho
theorem r_join_7 {α1 α2 α3 α4 α5 α6 α7 : Type} {E : α1 → α2 → α3 → α4 → α5 → α6 → α7 → Env} {Hh : α1 → α2 → α3 → α4 → α5 → α6 → α7 → List HP} {Inv : α1 → α2 → α3 → α4 → α5 → α6 → α7 → Prop} (y1 : α1) (y2 : α2) (y3 : α3) (y4 : α4) (y5 : α5) (y6 : α6) (y7 : α7) (hi : Inv y1 y2 y3 y4 y5 y6 y7) (hk : Keep env (E y1 y2 y3 y4 y5 y6 y7 ++ eb)) (he : Ent H (Hh y1 y2 y3 y4 y5 y6 y7)) :
    Run P F N M (.goal (fun a w => ∃ y1 y2 y3 y4 y5 y6 y7, Inv y1 y2 y3 y4 y5 y6 y7 ∧ Fits N (E y1 y2 y3 y4 y5 y6 y7 ++ eb) a ∧ Own M (Hh y1 y2 y3 y4 y5 y6 y7) w) :: K) env H :=
  fun _ _ hf ho => ⟨y1, y2, y3, y4, y5, y6, y7, hi, hf.keep hk, ho.ent he⟩


class SelX (H : List HP) (X : HP) (R : outParam (List HP)) : Prop where
  ent : Ent H (X :: R)
instance selXh {X : HP} : SelX (X :: R) X R := ⟨Ent.h⟩
instance selXt {X Y : HP} {R' : List HP} [s : SelX R X R'] : SelX (Y :: R) X (Y :: R') := ⟨Ent.t s.ent⟩
instance selXa {X : HP} {A B R' : List HP} [s : SelX B X R'] : SelX (A ++ B) X (A ++ R') := ⟨Ent.selA s.ent⟩
theorem Ent.cN {E : TypeId} {sz : Nat} {L : List HP} (k : Ent H L) : Ent H (sl (.slice Option.none 0 0) E sz [] :: L) := Ent.tr Ent.slN (Ent.mono k)
theorem r_slN (E : TypeId) (sz : Nat) (h : Run P F N M K env (sl (.slice Option.none 0 0) E sz [] :: H)) : Run P F N M K env H := r_ent Ent.slN h
theorem mapget {α β : Type} {f : α → β} {l : List α} {i : Nat} {a : α} (h : l[i]? = some a) : (l.map f)[i]? = some (f a) := by rw [List.getElem?_map, h]; rfl
theorem getlt {α : Type} {l : List α} {i : Nat} (h : i < l.length) : ∃ a, l[i]? = some a := ⟨l[i], List.getElem?_eq_getElem h⟩
theorem Rd.len {α : Type} {f : α → List Value} {v : Value} {sz : Nat} {l : List α} (h : Rd M H v sz (l.map f)) : ∃ ao c, v = .slice ao l.length c := by
  obtain ⟨ao, c, e⟩ := h.shape
  exact ⟨ao, c, by rw [e, List.length_map]⟩
theorem pv_lens {ops : Array Oper} {o : Oper} {g gx : Bool} {x : Operand} {T Tr : TypeId} {v : Value} {n : Nat} {at' : Array TypeId} (hv : ∃ ao c, v = .slice ao n c) (hs : ∃ e, P.underlying T = some (.slice e)) (hg : Gd ops env o g)
    (hop : o.op = .call { callee := .builtin .len, args := #[x], argTypes := at' }) (hT : at'[0]? = some T) (ht : o.type = Tr) (hx : evo env x = some (gx, v)) (hi : g = true → gx = true) : PV P ops o env g (.int .i64 n) := by
  obtain ⟨ao, c, rfl⟩ := hv
  exact pv_len hs hg hop hT ht hx hi
theorem Rd.to {v : Value} {sz : Nat} {rows rows' : List (List Value)} (h : Rd M H v sz rows) (e : rows = rows') : Rd M H v sz rows' := e ▸ h
theorem Rd.all {v : Value} {sz : Nat} {rows : List (List Value)} (h : Rd M [] v sz rows) : Rd M H v sz rows := h.ent Ent.nil

end Go.Proofs.Ytmakdilmibjpbab
