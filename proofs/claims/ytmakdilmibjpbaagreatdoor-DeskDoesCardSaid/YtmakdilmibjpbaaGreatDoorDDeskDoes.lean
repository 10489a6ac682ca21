/- DeskDoes of the given program returns true for whatever it is given, and what it was given reads as it did. The condition: the package-level variables of the library that the row lists hold what the program lays them with; the card ties that to the text. -/
import Derived.Test.YtmakdilmibjpbaaGreatDoorFrameG
import Derived.Test.YtmakdilmibjpbaaGreatDoorTie
import Derived.Test.YtmakdilmibjpbaaGreatDoorCards
import Derived.Test.YtmakdilmibjpbaaGreatDoorDeskDoes
namespace Go.Proofs.YtmakdilmibjpbaaGreatDoor
open Go Go.RowKit Go.ChangeShapes Go.WideShapes Go.ChangeAt
set_option linter.unusedVariables false
set_option maxRecDepth 100000 in
theorem lifted_DeskDoes (os : Os) (started : os.Started) (H : Type) (enc : TypeId × Value → H) :
    ReturnsInHanded {} Tryz.checked os 3 .any (fun w args => (Rows.deskDoesSpec.pre enc Tryz.prog Tryz.f3 Rows.deskDoesRow.domain false w args ∧ laidMetH Tryz.prog laidV w) ∧ sizedMet enc Tryz.prog Tryz.f3 (OpenSpec.ofChange Rows.deskDoesSpec) false w args) (Rows.deskDoesSpec.post enc Tryz.prog Tryz.f3 false true false false) := by
  refine returns_laid own started (by kernel_rfl) Tryz.func3
    (ChangeSpec.witness_shaped (enc:=enc) (C:=Tryz.checked) (os:=os) (X:=fun w _=>laidMetH Tryz.prog laidV w) false (World.laidAll Tryz.prog os laidV) #[.slice none 0 0,.slice none 0 0] 8 (World.laidAll_os _ _ _)
      (World.shaped_of_ZipB (by kernel_rfl) (by kernel_rfl)) (by kernel_rfl) (by kernel_rfl) (by kernel_rfl)
      (by rw[MakeChecks.laidMetH_plain _ _ _ (by kernel_rfl)];exact laidMet_laidAll _ (by kernel_rfl) (by kernel_rfl))) ?_
  intro W base args ds gs before hval0 hW hz hL hsh
  have hval:∀ (j:Nat) t v,Tryz.f3.params[j]?=some t→args[j]?=some v→Value.okWide Tryz.prog W .any base t v:=hval0
  have hW':=hW
  obtain⟨p,q,hA0,hV,rfl,hfz,hnd⟩:=hW
  have hA:DataW.TrodAll enc Tryz.prog W 0 (fun _=>true) true Tryz.f3.params.toList args.toList ds p:=hA0
  rw[Tryz.params3] at hA hval
  obtain⟨v0,vs0,d0,ds0,p0,q0,hargs,rfl,rfl,h0,r0⟩:=trodAll_cons hA
  obtain⟨v1,vs1,d1,ds1,p1,q1,rfl,rfl,rfl,h1,r1⟩:=trodAll_cons r0
  obtain⟨rfl,rfl,rfl⟩:=trodAll_nil r1
  obtain rfl:args=#[v0,v1]:=by cases args;simp_all
  obtain⟨rfl,rfl⟩:=trodVars_none hV
  have k0:=h0
  have lt0:∀ x∈p0,x.block<W.heap.size:=by obtain⟨m,hm⟩:=k0;exact DataW.trod_lt m _ _ _ hm
  have k1:=h1
  have lt1:∀ x∈p1,x.block<W.heap.size:=by obtain⟨m,hm⟩:=k1;exact DataW.trod_lt m _ _ _ hm
  obtain⟨rw0,rd0,al0⟩:=open_rows (HH:=[]) (n:=1) rfl Tryz.underlying22 (show kinds Tryz.prog 9 9=some [.s] by kernel_rfl) rfl (by kernel_rfl) (hval 0 22 v0 rfl rfl) h0
  obtain⟨l0,rfl,hb0⟩:=rows_str al0
  have hw0:=strs_weights rd0 Tryz.underlying22 Tryz.underlying9 (by kernel_rfl) h0
  have hc0:∀ s∈l0,s.length≤140737488355328:=fun s hs=>Nat.le_trans (of_decide_eq_true (List.all_eq_true.1 hz _ (DataW.weights_mem_each (j:=0) (t:=22) (d:=d0) (by kernel_rfl) rfl _ (hw0 s hs)))) (by decide)
  obtain⟨rw1,rd1,al1⟩:=open_rows (HH:=[]) (n:=1) rfl Tryz.underlying22 (show kinds Tryz.prog 9 9=some [.s] by kernel_rfl) rfl (by kernel_rfl) (hval 1 22 v1 rfl rfl) h1
  obtain⟨l1,rfl,hb1⟩:=rows_str al1
  have hw1:=strs_weights rd1 Tryz.underlying22 Tryz.underlying9 (by kernel_rfl) h1
  have hc1:∀ s∈l1,s.length≤140737488355328:=fun s hs=>Nat.le_trans (of_decide_eq_true (List.all_eq_true.1 hz _ (DataW.weights_mem_each (j:=1) (t:=22) (d:=d1) (by kernel_rfl) rfl _ (hw1 s hs)))) (by decide)
  clear hA0 hval0
  have hLO:=lib_ok hL hsh
  refine (law_DeskDoes ⟨W.heap.size,W⟩ [] hLO v0 l0 rd0 hc0 v1 l1 rd1 hc1 W (Own.start W)).mono fun e W' ⟨_,_,he,⟨hv,_⟩,ho⟩=>?_
  subst hv;subst he
  have bel:=ho.below
  exact⟨_,rfl,_,_,_,[],_,[],hW',trodAll_mk1 (shut_bool Tryz.underlying4 _),(trodAll_cons_mk (Below.trod laidOut (by kernel_rfl) (of_decide_eq_true (by kernel_rfl)) k0 bel lt0) (trodAll_cons_mk (Below.trod laidOut (by kernel_rfl) (of_decide_eq_true (by kernel_rfl)) k1 bel lt1) trodAll_mk0)),rfl,bel.frame _,fun h=>by cases h⟩
theorem row_DeskDoes:Rows.DeskDoesSaid:=
  OpenClaim.holds_of_wide 3 Tryz.f3 rfl rfl rfl rfl rfl rfl rfl ⟨rfl,rfl,rfl,rfl,rfl⟩ rfl rfl rfl rfl rfl (by kernel_rfl) Tryz.func3 (by kernel_rfl)
    (of_decide_eq_true (by kernel_rfl)) (by unfold Func.isWrapper;first|(rw[if_pos (by decide +kernel)];kernel_rfl)|(rw[if_neg (by decide +kernel)];exact⟨rfl,rfl⟩))
    (fun os started H enc _=>lifted_DeskDoes os started H enc)
theorem done_DeskDoes:Rows.DeskDoesCardSaid:=
  Claim7.holds_tied_plain_at .later [] [.data,.data,.data,.data,.sentinel,.sentinel,.pinned] true (true, "147ef8c28951e07f40277218194a1f898e9bdb465fbbc089c11a8534c833c61e") true row_DeskDoes (fun _ h=>by cases h) (by kernel_rfl) (fun _ h=>by cases h) deskDoes_row_tie rfl ⟨rfl,rfl⟩ (by kernel_rfl) rfl
    (fun f fn hf hfn=>by
      obtain rfl:f=3:=Option.some.inj ((show Tryz.prog.funcNamed Rows.deskDoesRow.func=some 3 by kernel_rfl).symm.trans hf) |>.symm
      obtain rfl:fn=Tryz.f3:=(Option.some.inj (Tryz.func3.symm.trans hfn)).symm
      exact⟨by kernel_rfl,fun j t ht=>by
        rw[Tryz.params3] at ht
        have hm:t∈[22,22]:=by simpa using Array.mem_of_getElem? ht
        have hall:([22,22].all fun u=>!Tryz.prog.wantsStandIn u)=true:=by kernel_rfl
        exact (show Tryz.prog.wantsStandIn t=false by simpa using List.all_eq_true.1 hall t hm)⟩)
    (by kernel_rfl)
#print axioms done_DeskDoes
end Go.Proofs.YtmakdilmibjpbaaGreatDoor
