/- What the library's functions come to, over parts that are owned: the kit's contracts, told in our words. -/
import Derived.Test.YtmakdilmibjpbaaGreatDoorShelf
import Derived.Test.YtmakdilmibjpbaaGreatDoorDesks
import Derived.Test.YtmakdilmibjpbaaGreatDoorBld
namespace Go.Proofs.YtmakdilmibjpbaaGreatDoor
open Go Go.RowKit
set_option linter.unusedVariables false
set_option linter.unusedSimpArgs false
set_option maxRecDepth 20000
def rS (s:List UInt8):List Value:=[str s]
structure LibOk (M:Amb):Prop where
  lo:∀ name g,Tryz.prog.globalNamed name=some g→g<M.B
  mx0:0<M.B
  tab:Lib.TabIs Tryz.prog M.w0 "internal/strconv.uint64pow10" .u64 Lib.pow10Tab
  es:∃ tp p,M.w0.var? Tryz.prog "strconv.ErrSyntax" = some #[.iface tp p]
  er:∃ tp p,M.w0.var? Tryz.prog "strconv.ErrRange" = some #[.iface tp p]
  mx:∃ m,M.w0.cell? ⟨0,0,none⟩=some (.int .i64 m)
variable{M:Amb}{H:List HP}{w w':World}
theorem Own.top (ho:Own M H w)(h:Below w.heap.size w w'):Own M H w':=
  ⟨ho.below.trans (h.mono ho.size),Nat.le_trans ho.size h.size,let ⟨x,hx,hs⟩:=ho.ex;⟨x,hx,fun k o hk=>by
    obtain⟨h1,h2⟩:=hs k o hk
    refine⟨h1,?_⟩
    have hlt:k<w.heap.size:=by
      rcases Nat.lt_or_ge k w.heap.size with h'|h'
      · exact h'
      · simp[Array.getElem?_eq_none h'] at h2
    rw[h.block k hlt,h2]⟩⟩
theorem var_below (L:LibOk M)(h:Below M.B M.w0 w)(name:String):w.var? Tryz.prog name=M.w0.var? Tryz.prog name:=by
  unfold World.var?
  cases hg:Tryz.prog.globalNamed name with
  | none=>rfl
  | some g=>simp[h.block g (L.lo name g hg)]
theorem below_grow (w:World)(k:Nat)(os:Array Obj):Below w.heap.size w (Go.Sort.grow (World.drewN w k) os):=
  ⟨rfl,rfl,rfl,by simp[World.drewN],fun i hi=>by rw[Go.Sort.heap_grow_old _ _ (by simpa[World.drewN] using hi)];rfl⟩
theorem freeze_ne (w:World)(a:Addr)(n:Nat){k:Nat}(h:k≠a.block):(w.freeze a n).heap[k]?=w.heap[k]?:=by
  unfold World.freeze
  split
  · rfl
  · show (Array.modify _ _ _)[k]?=_
    rw[Array.getElem?_modify,if_neg (fun e=>h e.symm)]
theorem freeze_size (w:World)(a:Addr)(n:Nat):(w.freeze a n).heap.size=w.heap.size:=by
  unfold World.freeze
  split
  · rfl
  · show (Array.modify _ _ _).size=_
    rw[Array.size_modify]
theorem below_freeze (w:World)(a:Addr)(n:Nat):Below a.block w (w.freeze a n):=
  ⟨by unfold World.freeze;split<;>rfl,by unfold World.freeze;split<;>rfl,by unfold World.freeze;split<;>rfl,by rw[freeze_size];exact Nat.le_refl _,fun k hk=>freeze_ne w a n (by omega)⟩
theorem below_bytes (w:World)(e:TypeId)(s:ByteArray):Below w.heap.size w (Lib.bytesWorld w e s):=by
  unfold Lib.bytesWorld
  have h1:Below w.heap.size w (w.drew.alloc (.cells (Lib.bytesCells w e s) e)):=Below.alloc (Below.drew (Below.refl _ _)) (Nat.le_refl _) _
  exact h1.trans (below_freeze _ ⟨w.heap.size,_,none⟩ 1)
theorem lib_Itoa (L:LibOk M)(H:List HP)(n:Int)(h:i64 n):FnV Tryz.prog M H 52 [.int .i64 n] (str (Lib.itoa n)):=fun w ho=>
  (Tryz.strconv_Itoa n h.1 h.2 w (by have:=L.tab;unfold Lib.TabIs at this ⊢;rw[var_below L ho.below];exact this)).mono fun e w' ⟨he,k,os,hw⟩=>⟨_,_,he,⟨rfl,rfl⟩,hw▸ho.top (below_grow w k os)⟩
theorem lib_Atoi_ok (H:List HP)(s:List UInt8)(hs:s.length≤9223372036854775806){v:Int}(h:Lib.atoiAll s=.ok v):FnV Tryz.prog M H 27 [str s] (.tuple #[.int .i64 v,.nilIface]):=fun w ho=>
  (Tryz.strconv_Atoi_ok ⟨s.toArray⟩ (by simpa[ByteArray.size] using hs) v h w).mono fun e w' ⟨he,hw⟩=>⟨_,_,he,⟨rfl,rfl⟩,by
    rcases hw with rfl|⟨t,rfl⟩
    · exact ho
    · exact ho.top (below_bytes w _ t)⟩
theorem lib_Atoi_no (L:LibOk M)(s:List UInt8)(hs:s.length≤281474976710656)(h:∀ v,Lib.atoiAll s≠.ok v):FnE (α:=Int×Nat) Tryz.prog M 27 [str s] [] (fun x=>.tuple #[.int .i64 x.1,.iface 162 (ptr x.2)]) (fun _=>[]):=fun R w ho=>by
  have hs':(⟨s.toArray⟩:ByteArray).size≤281474976710656:=by simpa[ByteArray.size] using hs
  rcases hq:Lib.atoiAll s with v|_|_
  · exact absurd hq (h v)
  · obtain⟨tp,p,hv⟩:=L.es
    exact (Tryz.strconv_Atoi_syntax_var ⟨s.toArray⟩ hs' hq tp p w (by rw[var_below L ho.below];exact hv)).mono fun e w' ⟨N,he,_,_,hb⟩=>⟨_,_,he,⟨(0,N),rfl,rfl⟩,ho.top hb⟩
  · obtain⟨tp,p,hv⟩:=L.er
    exact (Tryz.strconv_Atoi_range_var ⟨s.toArray⟩ hs' hq tp p w (by rw[var_below L ho.below];exact hv)).mono fun e w' ⟨N,he,_,_,hb⟩=>⟨_,_,he,⟨(Lib.atoiSat s,N),rfl,rfl⟩,ho.top hb⟩
theorem idx_has:∀ (l:List UInt8) (c:UInt8),decide (0≤Lib.indexByte l c)=l.contains c
  | [],c=>by simp[Lib.indexByte]
  | b::l,c=>by
    have ih:=idx_has l c
    have hg:=Lib.indexByte_ge l c
    unfold Lib.indexByte
    by_cases h:b=c
    · subst h;simp
    · have h':¬ c=b:=fun e=>h e.symm
      simp only[beq_iff_eq,h,if_false,List.contains_cons,h',beq_eq_false_iff_ne.2 h',Bool.false_or]
      rw[← ih]
      by_cases h1:Lib.indexByte l c=-1
      · simp[h1]
      · rw[if_neg h1]
        have:0≤Lib.indexByte l c:=by omega
        simp[this];omega
theorem lib_Contains (H:List HP)(s:List UInt8)(c:UInt8):FnV Tryz.prog M H 13 [str s,str [c]] (.bool (s.contains c)):=fun w ho=>
  (Tryz.strings_Contains_one ⟨s.toArray⟩ c w).mono fun e w' ⟨he,hw⟩=>⟨_,_,he,⟨by rw[← idx_has s c],rfl⟩,hw▸ho⟩
theorem spl_rows (s:List UInt8):(Lib.splitB ⟨#[32]⟩ 0 (Lib.countB ⟨s.toArray⟩ ⟨#[32]⟩) ⟨s.toArray⟩).map Value.string=((spl s).map rS).flatten:=by
  have h:=Lib.splitB_data ⟨#[32]⟩ 0 (Lib.countB ⟨s.toArray⟩ ⟨#[32]⟩) ⟨s.toArray⟩
  have h2:Lib.countB ⟨s.toArray⟩ ⟨#[32]⟩=Lib.count s [32]:=rfl
  rw[h2] at h ⊢
  rw[show Lib.splitK (⟨#[32]⟩:ByteArray).data.toList 0 (Lib.count s [32]) (⟨s.toArray⟩:ByteArray).data.toList=Lib.splitK [32] 0 (Lib.count s [32]) s from rfl,splitK_spl] at h
  rw[← h]
  generalize Lib.splitB ⟨#[32]⟩ 0 (Lib.count s [32]) ⟨s.toArray⟩=l
  induction l with
  | nil=>rfl
  | cons x l ih=>simp only[List.map_cons,List.flatten_cons,ih];rfl
theorem lib_Split (L:LibOk M)(s:List UInt8)(hs:s.length≤100000):FnE (α:=Value) Tryz.prog M 25 [str s,str [32]] [] (fun x=>x) (fun x=>[sl x 9 1 ((spl s).map rS)]):=fun R w ho=>by
  obtain⟨m,hm⟩:=L.mx
  have hc:w.cell? ⟨0,0,none⟩=some (.int .i64 m):=by rw[ho.below.cell (p:=⟨0,0,none⟩) L.mx0];exact hm
  have hln:Lib.countB ⟨s.toArray⟩ ⟨#[32]⟩+1=(spl s).length:=by
    have:=Lib.splitB_all ⟨#[32]⟩ (by decide) 0 _ ⟨s.toArray⟩ rfl
    rw[← this]
    have:=congrArg List.length (spl_rows s)
    rw[List.length_map] at this
    rw[this]
    generalize spl s=l
    induction l with
    | nil=>rfl
    | cons x l ih=>simp only[List.map_cons,List.flatten_cons,List.length_append,ih,List.length_cons];simp[rS];omega
  refine (Tryz.strings_Split ⟨s.toArray⟩ ⟨#[32]⟩ m w (by simp[ByteArray.size];omega) hc (by decide)).mono fun e w' ⟨he,hw⟩=>⟨_,_,he,⟨_,rfl,rfl⟩,?_⟩
  rw[spl_rows] at hw
  subst hw
  have hsp:=spl_len s
  have ho2:=ho.alloc ((spl s).map rS).flatten 9
  refine Own.ent (Own.arrI (rows:=(spl s).map rS) (cap:=(spl s).length) (sp:=[]) (sz:=1) (by simpa using ho2) (fun r hr=>?_) (by simp) (by simp only[maxLen];omega) ?_) ?_
  · simp only[List.mem_map] at hr
    obtain⟨x,_,rfl⟩:=hr
    exact⟨rfl,fun v hv=>by simp[rS] at hv;subst hv;rfl⟩
  · have:=congrArg List.length (spl_rows s)
    rw[List.append_nil,Nat.mul_one,← hln,← Lib.splitB_all ⟨#[32]⟩ (by decide) 0 _ ⟨s.toArray⟩ rfl,← this,List.length_map]
  · exact Ent.imp fun _ hx=>.inr ⟨_,_,by rw[List.length_map,hln],hx⟩
theorem join_nil (sep:List UInt8):Lib.join [] sep=[]:=by unfold Lib.join;rfl
theorem lib_Join (H:List HP)(v:Value)(l:List (List UInt8))(sep:List UInt8)(hv:Rd M H v 1 (l.map rS))(hb:(Lib.join l sep).length≤140737488355328)(hl:l.length≤1000):FnV Tryz.prog M H 54 [v,str sep] (str (Lib.join l sep)):=fun w ho=>by
  obtain⟨ao,cap,rfl,q1,q2,q3,q4⟩:=hv.is
  rw[List.length_map] at q1 q3 q4 ⊢
  cases l with
  | nil=>exact (Tryz.strings_Join_none ao cap ⟨sep.toArray⟩ w).mono fun e w' ⟨he,hw⟩=>⟨_,_,he,⟨by rw[join_nil],rfl⟩,hw▸ho⟩
  | cons x l=>
    cases ao with
    | none=>exact absurd (q3 rfl).1 (by simp)
    | some A=>
      obtain⟨hsp,hc⟩:=q4 A rfl (by simp)
      obtain⟨ab,aof,asp⟩:=A
      obtain rfl:asp=none:=hsp
      have hcells:∀ (j:Nat) y,((x::l).map fun s=>(⟨s.toArray⟩:ByteArray))[j]?=some y→w.cell? ⟨ab,aof+j,none⟩=some (.string y):=by
        intro j y hy
        rw[List.getElem?_map] at hy
        cases hj:(x::l)[j]? with
        | none=>rw[hj] at hy;simp at hy
        | some s=>
          rw[hj] at hy
          simp at hy;subst hy
          refine hc w ho j (str s) ?_
          have:∀ (l:List (List UInt8)) (j:Nat) s,l[j]?=some s→((l.map rS).flatten)[j]?=some (str s):=by
            intro l
            induction l with
            | nil=>intro j s h;simp at h
            | cons a l ih=>
              intro j s h
              cases j with
              | zero=>simp at h;subst h;rfl
              | succ j=>simp at h;simp only[List.map_cons,List.flatten_cons];exact ih j s h
          exact this _ j s hj
      have hd:((x::l).map fun s=>(⟨s.toArray⟩:ByteArray)).map (·.data.toList)=x::l:=by
        rw[List.map_map]
        conv=>rhs;rw[← List.map_id (x::l)]
        rfl
      have hlt:ab<w.heap.size:=by
        have:=hcells 0 ⟨x.toArray⟩ rfl
        rcases Nat.lt_or_ge ab w.heap.size with h'|h'
        · exact h'
        · simp[World.cell?,Array.getElem?_eq_none h'] at this
      have:=Tryz.strings_Join ab aof cap ((x::l).map fun s=>(⟨s.toArray⟩:ByteArray)) ⟨sep.toArray⟩ w hcells hlt (by simp at hl ⊢;omega) (by simpa using q1) (by rw[hd];exact hb)
      rw[hd,List.length_map] at this
      exact this.mono fun e w' ⟨he,hw⟩=>⟨_,_,he,⟨rfl,rfl⟩,ho.top hw⟩
end Go.Proofs.YtmakdilmibjpbaaGreatDoor
