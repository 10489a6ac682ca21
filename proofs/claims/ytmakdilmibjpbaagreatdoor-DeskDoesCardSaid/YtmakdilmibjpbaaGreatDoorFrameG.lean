/- What came in: flat values and slices of them, read off the data of a call; the frame of a statement. What a statement that lists variables gives: the library's tables and errors, where the call began; strings that came in. -/
import Derived.Test.YtmakdilmibjpbaaGreatDoorFacts
import Derived.Test.YtmakdilmibjpbaaGreatDoorWants
import Derived.Test.YtmakdilmibjpbaaGreatDoorRows
import Derived.ProofKit
import Derived.OpenShut
import Derived.ChangeOld
import Derived.Below
import Derived.Test.YtmakdilmibjpbaaGreatDoorLib
import Derived.LaidMore
import Derived.Lay
import Derived.SevenTiedAt
import Derived.Stop.LaidErr
import Derived.Stop.Joined
import Derived.Lib.LaidTab
import Derived.Shelf.Vars
import Derived.SizedLaws
namespace Go.Proofs.YtmakdilmibjpbaaGreatDoor
open Go Go.RowKit Go.ChangeShapes Go.WideShapes Go.ChangeAt
inductive Lk where
  | b:Lk
  | i (k:IntKind):Lk
  | s:Lk
def okL:Lk→Value→Prop
  | .b,.bool _=>True
  | .i k,.int k' n=>k'=k∧(Lit.int k n).wf=true
  | .s,.string b=>b.size≤maxLen
  | _,_=>False
def AllL:List Lk→List Value→Prop
  | [],[]=>True
  | k::ks,v::vs=>okL k v∧AllL ks vs
  | _,_=>False
theorem AllL.app:∀ {a b:List Lk} {x y:List Value},AllL a x→AllL b y→AllL (a++b) (x++y)
  | [],_,[],_,_,h=>h
  | _::_,_,_::_,_,h,k=>⟨h.1,AllL.app h.2 k⟩
  | [],_,_::_,_,h,_=>h.elim
  | _::_,_,[],_,h,_=>h.elim
theorem AllL.len:∀ {a:List Lk} {x:List Value},AllL a x→x.length=a.length
  | [],[],_=>rfl
  | _::_,_::_,h=>by simp[AllL.len h.2]
  | [],_::_,h=>h.elim
  | _::_,[],h=>h.elim
theorem AllL.one:∀ {a:List Lk} {x:List Value},AllL a x→∀ v∈x,v.oneCell'=true
  | [],[],_,_,h=>by simp at h
  | k::_,v::_,h,u,hu=>by
    rcases List.mem_cons.1 hu with rfl|hu
    · have h1:=h.1
      cases k<;>cases u<;>simp_all [okL,Value.oneCell']
    · exact AllL.one h.2 u hu
  | [],_::_,h,_,_=>h.elim
  | _::_,[],h,_,_=>h.elim
def fieldsK (g:TypeId→Option (List Lk))(P:Program):List Field→Nat→Option (List Lk)
  | [],_=>some []
  | f::fs,off=>
    if f.offset=off then
      match g f.type with
      | some a=>if a.length=P.cellsOf f.type then (fieldsK g P fs (off+a.length)).map (a++·) else Option.none
      | Option.none=>Option.none
    else Option.none
def kinds (P:Program):Nat→TypeId→Option (List Lk)
  | 0,_=>Option.none
  | n+1,t=>
    match P.underlying t with
    | some .bool=>some [.b]
    | some (.int k)=>some [.i k]
    | some .string=>some [.s]
    | some (.struct fs)=>
      match fieldsK (kinds P n) P fs.toList 0 with
      | some ks=>if ks.length=P.cellsOf t then some ks else Option.none
      | Option.none=>Option.none
    | _=>Option.none
theorem fieldsK_ok {g : TypeId → Option (List Lk)} {P : Program} {cs : List Value} : ∀ (fs : List Field) (off : Nat) (ks : List Lk), fieldsK g P fs off = some ks →
    (∀ f ∈ fs, ∀ a, g f.type = some a → AllL a ((cs.drop f.offset).take (P.cellsOf f.type))) → AllL ks ((cs.drop off).take ks.length)
  | [],off,ks,h,_=>by simp[fieldsK] at h;subst h;simp[AllL]
  | f::fs,off,ks,h,hf=>by
    unfold fieldsK at h
    split at h
    · rename_i he
      split at h
      · rename_i a ha
        split at h
        · rename_i hl
          rw[Option.map_eq_some_iff] at h
          obtain⟨b,hb,rfl⟩:=h
          have h1:=hf f (by simp) a ha
          rw[he,← hl] at h1
          have h2:=fieldsK_ok fs (off+a.length) b hb (fun f' hf'=>hf f' (by simp[hf']))
          rw[List.length_append,List.take_add,List.drop_drop]
          exact h1.app h2
        · cases h
      · cases h
    · cases h
theorem kinds_ok {H : Type} {enc : TypeId × Value → H} {P : Program} {w : World} {base : Nat} {spare : Nat → Bool} {held : Bool} : ∀ (n : Nat) (t : TypeId) (ks : List Lk), kinds P n t = some ks →
    ∀ (m : Nat) (cs : List Value) (x : DataW H × List MemPlace), DataW.trod enc P w base spare held m t cs = some x → AllL ks cs
  | 0,_,_,h,_,_,_,_=>by cases h
  | n+1,t,ks,h,m,cs,x,ht=>by
    unfold kinds at h
    split at h
    · rename_i hu
      cases h
      cases m with
      | zero=>simp[DataW.trod] at ht
      | succ m=>
        unfold DataW.trod at ht
        rw[hu] at ht
        split at ht<;>simp_all [AllL,okL]
    · rename_i k hu
      cases h
      cases m with
      | zero=>simp[DataW.trod] at ht
      | succ m=>
        unfold DataW.trod at ht
        rw[hu] at ht
        split at ht<;>simp_all [AllL,okL]
    · rename_i hu
      cases h
      cases m with
      | zero=>simp[DataW.trod] at ht
      | succ m=>
        unfold DataW.trod at ht
        rw[hu] at ht
        split at ht<;>simp_all [AllL,okL]
    · rename_i fs hu
      split at h
      · rename_i ks' hk
        split at h
        · rename_i hl
          cases h
          obtain⟨xs,q,_,_,hlen,hx,hf⟩:=DataW.trod_struct hu ht
          have:=fieldsK_ok (cs:=cs) fs.toList 0 ks hk (fun f hm a ha=>by
            obtain⟨i,hi,e⟩:=List.mem_iff_getElem.1 hm
            have hi':i<fs.size:=by simpa using hi
            have hfi:fs[i]?=some f:=by rw[Array.getElem?_eq_getElem hi'];simpa using e
            have h1:=hf i f hfi
            have h2:i<xs.length:=by omega
            rw[List.getElem?_eq_getElem h2] at h1
            exact kinds_ok n f.type a ha q _ _ h1)
          rw[hl,List.drop_zero,← hlen,List.take_length] at this
          exact this
        · cases h
      · cases h
    · cases h
theorem cell_lt{w:World}{p:Addr}{v:Value}(h:w.cell? p=some v):p.block<w.heap.size:=by
  rcases Nat.lt_or_ge p.block w.heap.size with h1|h1
  · exact h1
  · have:w.heap[p.block]?=Option.none:=Array.getElem?_eq_none h1
    simp[World.cell?,this] at h
theorem cells_len{w:World}{base:Nat}{a:Addr}{n:Nat}{cs:List Value}(h:w.cells? base a n=some cs):cs.length=n∧∀ i u,cs[i]?=some u→w.cell? (a.add i)=some u:=by
  unfold World.cells? at h
  split at h
  · have hh : ∀ (l : List Nat) (ds : List Value), l.mapM (fun i => w.cell? (a.add i)) = some ds → ds.length = l.length ∧ ∀ (k : Nat) (u : Value), ds[k]? = some u → ∃ i, l[k]? = some i ∧ w.cell? (a.add i) = some u := by
      intro l
      induction l with
      | nil => intro ds hd; simp at hd; subst hd; simp
      | cons j l ih =>
        intro ds hd
        rw [List.mapM_cons] at hd
        simp only [Option.bind_eq_bind, Option.bind_eq_some_iff, Option.pure_def, Option.some.injEq] at hd
        obtain ⟨v, hv, vs, hvs, rfl⟩ := hd
        obtain ⟨h1, h2⟩ := ih vs hvs
        refine ⟨by simp [h1], fun k u hk => ?_⟩
        cases k with
        | zero => simp at hk; subst hk; exact ⟨j, by simp, hv⟩
        | succ k => simp at hk; obtain ⟨i, hi, hc⟩ := h2 k u hk; exact ⟨i, by simpa using hi, hc⟩
    obtain⟨h1,h2⟩:=hh _ _ h
    refine⟨by simpa using h1,fun i u hu=>?_⟩
    obtain⟨k,hk,hc⟩:=h2 i u hu
    rw[List.getElem?_range (by have:=(List.getElem?_eq_some_iff.1 hu).1;simp at h1;omega)] at hk
    cases hk;exact hc
  · cases h
theorem flat_inv{sz:Nat}:∀ {rows:List (List Value)},(∀ r∈rows,r.length=sz)→∀ j u,rows.flatten[j]?=some u→∃ i r k,rows[i]?=some r∧r[k]?=some u∧j=i*sz+k
  | [],_,j,u,h=>by simp at h
  | r0::rows,h,j,u,hj=>by
    have hl:=h r0 (by simp)
    simp only[List.flatten_cons] at hj
    rcases Nat.lt_or_ge j r0.length with h1|h1
    · rw[List.getElem?_append_left h1] at hj
      exact⟨0,r0,j,by simp,hj,by simp⟩
    · rw[List.getElem?_append_right h1] at hj
      obtain⟨i,r,k,e1,e2,e3⟩:=flat_inv (fun r hr=>h r (by simp[hr])) _ u hj
      exact⟨i+1,r,k,by simpa using e1,e2,by rw[Nat.succ_mul];omega⟩
theorem open_rows {H : Type} {enc : TypeId × Value → H} {P : Program} {w : World} {b0 : Nat} {held : Bool} {t e : TypeId} {v : Value} {d : DataW H} {ps : List MemPlace} {ks : List Lk} {r : Reach} {n : Nat} {HH : List HP} {B : Nat} (hB : B = w.heap.size)
    (hu : P.underlying t = some (.slice e)) (hk : kinds P 9 e = some ks) (hn : ks.length = n) (hc : P.cellsOf e = n) (hval : Value.okWide P w r b0 t v) (hd : DataW.Trod enc P w 0 (fun _ => true) held t v d ps) :
    ∃ rows : List (List Value), Rd ⟨B, w⟩ HH v n rows ∧ ∀ r ∈ rows, AllL ks r := by
  subst hB
  obtain⟨m,hm⟩:=hd
  have hs:∀ a l c,v=.slice (some a) l c→a.spot=Option.none:=by
    rintro a l c rfl
    simp only[Value.okWide,hu,Cell.okWide,Cell.ok] at hval
    exact hval.2.2.2.1
  obtain⟨a,len,cap,rfl⟩:=okWide_slice hu hval
  have hv:∀ x l c,(Value.slice x l c).cells.toList=[.slice x l c]:=fun x l c=>by simp[Value.cells]
  rw[hv] at hm
  rcases DataW.trod_slice hu hm with ⟨h0,_⟩|⟨a',len',cap',elems,rest,q,_,h0,_,_,hl,hm',hlen,hel,_,_⟩
  · simp at h0
    obtain⟨rfl,rfl,rfl⟩:=h0
    exact⟨[],⟨fun r hr=>by simp at hr,Option.none,0,by simp,by simp,by simp[maxLen],by simp,fun A hA _=>by cases hA⟩,fun r hr=>by simp at hr⟩
  · simp at h0
    obtain⟨rfl,rfl,rfl⟩:=h0
    have hsp:=hs a' len cap rfl
    have hrow:∀ i,i<len→∃ cs,w.cells? 0 (a'.add (i*n)) n=some cs∧AllL ks cs:=fun i hi=>by
      have h1:=hel i hi
      rw[List.getElem?_eq_getElem (by omega),hc] at h1
      simp only[Option.bind_eq_some_iff] at h1
      obtain⟨cs,h2,h3⟩:=h1
      exact⟨cs,h2,kinds_ok 9 e ks hk q _ _ h3⟩
    let row:Nat→List Value:=fun i=>(w.cells? 0 (a'.add (i*n)) n).getD []
    have hrow':∀ i,i<len→w.cells? 0 (a'.add (i*n)) n=some (row i)∧AllL ks (row i):=fun i hi=>by
      obtain⟨cs,h1,h2⟩:=hrow i hi
      simp only[row,h1,Option.getD_some];exact⟨trivial,h2⟩
    have hal:∀ r∈(List.range len).map row,AllL ks r:=fun r hr=>by
      obtain⟨i,hi,rfl⟩:=List.mem_map.1 hr
      exact (hrow' i (List.mem_range.1 hi)).2
    refine⟨(List.range len).map row,⟨fun r hr=>⟨(hal r hr).len.trans hn,fun u hu=>(hal r hr).one u hu⟩,some a',cap,by simp,by simpa using hl,hm',(fun h=>by cases h),fun A hA _=>?_⟩,hal⟩
    cases hA
    refine⟨hsp,fun w' ho j u hu=>?_⟩
    obtain⟨i,r,k,e1,e2,rfl⟩:=flat_inv (fun r hr=>(hal r hr).len.trans hn) j u hu
    rw[List.getElem?_map] at e1
    obtain⟨i',hi',rfl⟩:=Option.map_eq_some_iff.1 e1
    have hil:i<len:=by
      have:=(List.getElem?_eq_some_iff.1 hi').1;simpa using this
    rw[List.getElem?_range hil] at hi'
    cases hi'
    have h1:=(cells_len (hrow' i hil).1).2 k u e2
    obtain⟨b,off,spot⟩:=a'
    simp at hsp;subst hsp
    have h2:w.cell? ⟨b,off+(i*n+k),Option.none⟩=some u:=by
      rw[addr_add,addr_add,Nat.add_assoc] at h1;exact h1
    rw[ho.below.cell (cell_lt h2)]
    exact h2
theorem own:ownKnob Tryz.prog.godebug=Option.none:=by kernel_rfl
theorem laidOut:laidOutB Tryz.prog=true:=by kernel_rfl
end Go.Proofs.YtmakdilmibjpbaaGreatDoor
namespace Go.Proofs.YtmakdilmibjpbaaGreatDoor
open Go Go.RowKit Go.ChangeShapes Go.WideShapes Go.ChangeAt
set_option linter.unusedVariables false
set_option maxRecDepth 100000
theorem returns_laid {H : Type} {enc : TypeId × Value → H} {a : Assume} {C : Checked} {os : Os} {f : FuncId} {fn : Func} {s : ChangeSpec} {conds : List PathCond} {apart fresh handsOn again : Bool} {laid : List (String × DataW Unit)}
    (own : ownKnob C.prog.godebug = Option.none) (started : os.Started) (noInit : C.prog.inits.idxOf? f = Option.none) (hfn : C.prog.funcs[f]? = some fn)
    (witness : ∃ (w : World) (tape : Tape) (i : Input), w.os = os ∧ (w.forCall tape i).Shaped C.prog ∧ i.vars = [] ∧ Input.okWide C.prog (w.forCall tape i) .any w.heap.size f i ∧
      ((s.pre enc C.prog fn conds apart (w.forCall tape i).memory i.args ∧ laidMetH C.prog laid (w.forCall tape i).memory) ∧ sizedMet enc C.prog fn (OpenSpec.ofChange s) apart (w.forCall tape i).memory i.args) ∧ a.holds C.prog (lone (Frame.enter C.prog f i.args .normal) [] (w.forCall tape i)))
    (contract : ∀ (W : World) (base : Nat) (args : Array Value) (ds gs : List (DataW H)) (before : List MemPlace),
      (∀ (j : Nat) t v, fn.params[j]? = some t → args[j]? = some v → Value.okWide C.prog W .any base t v) →
      DataW.Whole enc C.prog fn.params.toList s.vars apart W args.toList ds gs before →
      (DataW.weightsEach C.prog (fn.params.toList ++ s.plain.varTypes C.prog) (ds ++ gs)).all (· ≤ reachBytes) = true →
      laidMetH C.prog laid W →
      W.ShapedOpen C.prog →
      Calls C.prog f args W fun e W' => ∃ v, e = .returned v ∧ s.post enc C.prog fn apart fresh handsOn again W args v W') :
    ReturnsInHanded a C os f .any (fun w args => (s.pre enc C.prog fn conds apart w args ∧ laidMetH C.prog laid w) ∧ sizedMet enc C.prog fn (OpenSpec.ofChange s) apart w args) (s.post enc C.prog fn apart fresh handsOn again) := by
  refine returnsInHanded_of_calls own started noInit witness ?_
  intro w tape i _ hsh _ hok hpre hholds
  obtain⟨_,_,_,fn',hfn',_,_,_,_,hval⟩:=hok
  have e:fn'=fn:=Option.some.inj (hfn'.symm.trans hfn)
  subst e
  obtain⟨⟨⟨ds,gs,before,hw,hc⟩,hx⟩,hz⟩:=hpre
  have hw':=DataW.Whole.of_heap (w':=w.forCall tape i) (by rfl) hw
  refine (contract (w.forCall tape i) w.heap.size i.args ds gs before hval hw' (hz.weights hw) (hx.of_heap (by rfl)) hsh).mono fun e W' ⟨v,he,hp⟩=>?_
  subst he
  exact ChangeSpec.post_blind hp
theorem glob_lt{P:Program}{name:String}{g:Nat}(h:P.globalNamed name=some g):g<P.globals.size:=by
  unfold Program.globalNamed at h
  split at h
  · rename_i x hx
    cases h
    have:g∈(List.range P.globals.size).filter fun g=>(P.globals[g]?).any (·.name==name):=by rw[hx];simp
    simpa using (List.mem_filter.1 this).1
  · cases h
theorem star_es : "*" ++ "errors.errorString" = "*errors.errorString" := by decide
theorem row_es (u:TypeId)(h:Tryz.prog.typeName? 3 u=some "*errors.errorString"):u=214:=
  typeName_ptr_named (nm:= "errors.errorString") (by rw[star_es];kernel_rfl) (by kernel_rfl) (by decide) u (by rw[star_es];exact h)
theorem okS{v:Value}(h:okL .s v):∃ b,v=.string b∧b.size≤maxLen:=by
  cases v<;>simp_all [okL]
theorem rows_str{rows:List (List Value)}(h:∀ r∈rows,AllL [.s] r):∃ l:List (List UInt8),rows=l.map rS∧∀ s∈l,s.length≤maxLen:=by
  induction rows with
  | nil=>exact⟨[],rfl,fun s hs=>by cases hs⟩
  | cons r rows ih=>
    obtain⟨l,rfl,hl⟩:=ih fun r hr=>h r (List.mem_cons_of_mem _ hr)
    match r,h r (by simp) with
    | [u],⟨h1,_⟩=>
      obtain⟨b,rfl,hb⟩:=okS h1
      refine⟨b.data.toList::l,rfl,fun s hs=>?_⟩
      rcases List.mem_cons.1 hs with rfl|hs
      · rw[show b.data.toList.length=b.size from by rw[Array.length_toList];rfl];exact hb
      · exact hl s hs
theorem flat_rS:∀ {l:List (List UInt8)} {i:Nat} {s:List UInt8},l[i]?=some s→((l.map rS).flatten)[i]?=some (str s)
  | [],i,s,h=>by simp at h
  | a::l,0,s,h=>by simp at h;subst h;rfl
  | a::l,i+1,s,h=>by simp at h;simp only[List.map_cons,List.flatten_cons];exact flat_rS h
theorem weightsAll_mem{H:Type}{P:Program}{e:TypeId}{n:Nat}{d:DataW H}(hn:n∈d.weights P e):∀ {ds:List (DataW H)} {i:Nat},ds[i]?=some d→n∈DataW.weightsAll P e ds
  | [],i,h=>by simp at h
  | x::ds,0,h=>by simp at h;subst h;unfold DataW.weightsAll;exact List.mem_append.2 (.inl hn)
  | x::ds,i+1,h=>by simp at h;unfold DataW.weightsAll;exact List.mem_append.2 (.inr (weightsAll_mem hn h))
theorem strs_weights {H : Type} {enc : TypeId × Value → H} {P : Program} {w : World} {held : Bool} {t e : TypeId} {v : Value} {d : DataW H} {ps : List MemPlace} {l : List (List UInt8)} (hrd : Rd ⟨w.heap.size, w⟩ [] v 1 (l.map rS))
    (hu : P.underlying t = some (.slice e)) (he : P.underlying e = some .string) (hc : P.cellsOf e = 1) (hd : DataW.Trod enc P w 0 (fun _ => true) held t v d ps) : ∀ s ∈ l, s.length ∈ d.weights P t := by
  intro s hsm
  obtain⟨i,hi,e0⟩:=List.mem_iff_getElem.1 hsm
  have hsi:l[i]?=some s:=by rw[← e0];exact List.getElem?_eq_getElem hi
  obtain⟨m,hm⟩:=hd
  obtain⟨b,off,c,rfl,hcells⟩:=hrd.nn (i:=i) (by simpa using hi)
  have hv:∀ x l c,(Value.slice x l c).cells.toList=[.slice x l c]:=fun x l c=>by simp[Value.cells]
  rw[hv] at hm
  rcases DataW.trod_slice hu hm with ⟨h0,_⟩|⟨a',len',cap',elems,rest,q,_,h0,hx,_,hl,hm',hlen,hel,_,_⟩
  · simp at h0
  · simp only[List.cons.injEq,Value.slice.injEq,Option.some.injEq,and_true] at h0
    obtain⟨rfl,hll,rfl⟩:=h0
    rw[List.length_map] at hll
    subst hll
    have h1:=hel i hi
    rw[List.getElem?_eq_getElem (by omega),hc] at h1
    simp only[Option.bind_eq_some_iff] at h1
    obtain⟨cs,h2,h3⟩:=h1
    obtain⟨hcl,hce⟩:=cells_len h2
    obtain⟨s',hs',hx',_⟩:=DataW.trod_string he h3
    have h4:=hcells w (Own.start w) i (str s) (flat_rS hsi)
    have h5:=hce 0 (.string s') (by rw[hs'];rfl)
    rw[addr_add,addr_add,Nat.mul_one,Nat.add_zero] at h5
    have h6:str s=.string s':=Option.some.inj (h4.symm.trans h5)
    have h7:s'.data.toList=s:=by
      rw[str_eta s'] at h6
      simp only[Value.string.injEq,ByteArray.mk.injEq] at h6
      exact (congrArg Array.toList h6).symm
    have hd2:d=.slice (elems.map (·.1)) (rest.map (·.1)):=(Prod.mk.inj hx).1
    subst hd2
    unfold DataW.weights
    rw[hu]
    refine List.mem_cons.2 (.inr (List.mem_append.2 (.inl (weightsAll_mem (d:=.lit (.string s)) (by unfold DataW.weights;simp) (i:=i) ?_))))
    rw[List.getElem?_map,List.getElem?_eq_getElem (by omega),hx',h7];rfl
abbrev laidV:List (String×DataW Unit):=Rows.deskDoesRow.laid
theorem lib_ok{W:World}(h:laidMetH Tryz.prog laidV W)(hs:W.ShapedOpen Tryz.prog):LibOk ⟨W.heap.size,W⟩:=by
  have hp:laidMet Tryz.prog laidV W:=by rw[MakeChecks.laidMetH_plain _ _ _ (by kernel_rfl)] at h;exact h
  obtain⟨o,_,ho,-⟩:=hs.2 Tryz.prog.globals.size (Nat.le_refl _) (of_decide_eq_true (by kernel_rfl))
  have hsz:Tryz.prog.globals.size<W.heap.size:=by
    rcases Nat.lt_or_ge Tryz.prog.globals.size W.heap.size with h'|h'
    · exact h'
    · have h2:=ho.symm.trans (Array.getElem?_eq_none h');cases h2
  have t3:=hp.tail.tail
  obtain⟨a1,s1,er,_⟩:=laid_sentinel (g:=2) t3.tail.tail (by kernel_rfl) (by kernel_rfl) Tryz.underlying80 row_es Tryz.underlying214 Tryz.underlying216 rfl rfl Tryz.underlying9 (by kernel_rfl) (by kernel_rfl)
  obtain⟨a2,s2,es,_⟩:=laid_sentinel (g:=1) t3.tail.tail.tail (by kernel_rfl) (by kernel_rfl) Tryz.underlying80 row_es Tryz.underlying214 Tryz.underlying216 rfl rfl Tryz.underlying9 (by kernel_rfl) (by kernel_rfl)
  exact {
    lo:=fun name g hg=>Nat.lt_trans (glob_lt hg) hsz
    mx0:=by show 0<W.heap.size;omega
    tab:=Lib.tabIs_of_head (g:=5) (by kernel_rfl) (by kernel_rfl) Tryz.underlying235 Tryz.underlying192 (by kernel_rfl) (by kernel_rfl) t3
    es:=⟨_,_,es⟩
    er:=⟨_,_,er⟩
    mx:=cell_of_shapedOpen_int (P:=Tryz.prog) (g:=0) (t:=3) (zero:=#[.int .i64 0]) hs (of_decide_eq_true (by kernel_rfl)) (by kernel_rfl) rfl (by kernel_rfl) (by kernel_rfl) Tryz.underlying3}
end Go.Proofs.YtmakdilmibjpbaaGreatDoor
