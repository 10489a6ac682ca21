/- BrokerStays of the given program returns true for whatever it is given, and what it was given reads as it did. No condition. -/
import Derived.Test.YtmakdilmibjpbabFrame
import Derived.Test.YtmakdilmibjpbabFrameB
import Derived.Test.YtmakdilmibjpbabBrokStays
namespace Go.Proofs.Ytmakdilmibjpbab
open Go Go.RowKit Go.ChangeShapes Go.WideShapes Go.ChangeAt
set_option linter.unusedVariables false

set_option maxRecDepth 100000 in
theorem lifted_BrokerStays (os : Os) (started : os.Started) (H : Type) (enc : TypeId × Value → H) :
    ReturnsInHanded {} Try.checked os 8 .any (Rows.brokerStaysSpec.pre6 enc Try.prog Try.f8 Rows.brokerStaysRow.domain false) (Rows.brokerStaysSpec.post enc Try.prog Try.f8 false true false false) := by
  refine returnsInHanded_of_change (C := Try.checked) own started (by kernel_rfl) Try.func8
    (ChangeSpec.witness6 (enc := enc) (C := Try.checked) false ⟨#[], #[.slice none 0 0], []⟩ 8 (by kernel_rfl) (by kernel_rfl) (by kernel_rfl) (by kernel_rfl)) ?_
  intro W base args ds gs before hval0 hW hcnd _
  have hval : ∀ (j : Nat) t v, Try.f8.params[j]? = some t → args[j]? = some v → Value.okWide Try.prog W .any base t v := hval0
  have hW' := hW
  obtain ⟨p, q, hA0, hV, rfl, hfz, hnd⟩ := hW
  have hA : DataW.TrodAll enc Try.prog W 0 (fun _ => true) true Try.f8.params.toList args.toList ds p := hA0
  rw [Try.params8] at hA hval
  obtain ⟨v0, vs0, d0, ds0, p0, q0, hargs, rfl, rfl, h0, r0⟩ := trodAll_cons hA
  obtain ⟨rfl, rfl, rfl⟩ := trodAll_nil r0
  obtain rfl : args = #[v0] := by cases args; simp_all
  obtain ⟨rfl, rfl⟩ := trodVars_none hV
  have k0 := h0
  have lt0 : ∀ x ∈ p0, x.block < W.heap.size := by obtain ⟨m, hm⟩ := k0; exact DataW.trod_lt m _ _ _ hm
  obtain ⟨rw0, rd0, al0⟩ := open_nest (HH := []) (n := 10) (ks := kBk) rfl Try.underlying72 Try.underlying80 (by kernel_rfl) rfl (by decide) (by kernel_rfl) (hval 0 72 v0 rfl rfl) h0
  obtain ⟨l0, rfl, ax0⟩ := rows_Bk al0
  clear hA0 hval0
  refine (law_BrokerStays ⟨W.heap.size, W⟩ [] l0 v0 rd0 ax0 W (Own.start W)).mono fun e W' ⟨_, _, he, ⟨hv, _⟩, ho⟩ => ?_
  subst hv; subst he
  have bel := ho.below
  exact ⟨_, rfl, _, _, _, [], _, [], hW', trodAll_mk1 (shut_bool Try.underlying4 _), (trodAll_cons_mk (Below.trod laidOut (by kernel_rfl) (of_decide_eq_true (by kernel_rfl)) k0 bel lt0) trodAll_mk0), rfl, bel.frame _, fun h => by cases h⟩

/-- The statement. -/
theorem done_BrokerStays : Rows.BrokerStaysSaid :=
  OpenClaim.holds_of_wide 8 Try.f8 rfl rfl rfl rfl rfl rfl rfl ⟨rfl, rfl, rfl, rfl, rfl⟩ rfl rfl rfl rfl rfl (by kernel_rfl) Try.func8 (by kernel_rfl)
    (of_decide_eq_true (by kernel_rfl)) (by unfold Func.isWrapper; first | (rw [if_pos (by decide +kernel)]; kernel_rfl) | (rw [if_neg (by decide +kernel)]; exact ⟨rfl, rfl⟩))
    (fun os started H enc _ => lifted_BrokerStays os started H enc)
#print axioms done_BrokerStays

end Go.Proofs.Ytmakdilmibjpbab
