/- What the layers reckon, in plain Lean: counters, wants, mail. No program in sight. What a deal wants, in plain Lean: checks, shops, worlds. No program in sight. -/
import Derived.Test.YtmakdilmibjpbaaGreatDoorObj
namespace Go.Proofs.YtmakdilmibjpbaaGreatDoor
open Go Go.RowKit
theorem int_eq{k:IntKind}{a b:Int}(h:a=b):Value.int k a=Value.int k b:=by rw[h]
theorem bool_eq{a b:Bool}(h:a=b):Value.bool a=Value.bool b:=by rw[h]
abbrev ptr (b:Nat):Value:=.pointer (some ⟨b,0,Option.none⟩)
def rI (n:Int):List Value:=[.int .i64 n]
structure Cnt where
  v:Int
  o:Int
  i:Int
  deriving DecidableEq
def Cnt.z:Cnt:=⟨0,0,0⟩
def cntL (c:Cnt):List Value:=[.int .i64 c.v,.int .i64 c.o,.int .i64 c.i]
def cntV (c:Cnt):Value:=.agg (cntL c).toArray
def chk (c:Cnt):Int:=if c.v<0∨100<c.v then 1 else if c.o<0∨c.v<c.o then 5 else if c.i<0∨100 - c.v<c.i then 6 else 0
def dlt (n:Int):Int:=if n=0 then 2 else if n < -100∨100<n then 1 else 0
theorem chk_ok{c:Cnt}(h:chk c=0):0≤c.v∧c.v≤100∧0≤c.o∧c.o≤c.v∧0≤c.i∧c.i≤100 - c.v:=by
  unfold chk at h;split at h
  · simp at h
  · split at h
    · simp at h
    · split at h
      · simp at h
      · omega
theorem dlt_ok{n:Int}(h:dlt n=0):n≠0∧-100≤n∧n≤100:=by
  unfold dlt at h;split at h
  · simp at h
  · split at h
    · simp at h
    · omega
def hold (c:Cnt)(n:Int):Cnt×Int:=
  if chk c≠0 then (.z,chk c) else if dlt n≠0 then (.z,dlt n)
  else if n<0∧c.v - c.o < -n then (.z,5)
  else if n<0 then (⟨c.v,c.o - n,c.i⟩,0)
  else if 100<c.v+c.i+n then (.z,6)
  else (⟨c.v,c.o,c.i+n⟩,0)
def endc (c:Cnt)(n:Int)(d:Bool):Cnt×Int:=
  if chk c≠0 then (.z,chk c) else if dlt n≠0 then (.z,dlt n)
  else if n<0∧c.o < -n∨0<n∧c.i<n then (.z,7)
  else if n<0 then (⟨if d then c.v+n else c.v,c.o+n,c.i⟩,0)
  else (⟨if d then c.v+n else c.v,c.o,c.i - n⟩,0)
theorem hold_ok {c : Cnt} {n : Int} (h : (hold c n).2 = 0) : chk c = 0 ∧ dlt n = 0 ∧
    ((n < 0 ∧ -n ≤ c.v - c.o ∧ hold c n = (⟨c.v, c.o - n, c.i⟩, 0)) ∨ (0 < n ∧ c.v + c.i + n ≤ 100 ∧ hold c n = (⟨c.v, c.o, c.i + n⟩, 0))) := by
  unfold hold at h ⊢
  by_cases h1:chk c=0
  · by_cases h2:dlt n=0
    · have hd:=dlt_ok h2
      simp only[h1,h2,ne_eq,not_true_eq_false,if_false] at h ⊢
      refine⟨trivial,trivial,?_⟩
      by_cases h3:n<0∧c.v - c.o < -n
      · rw[if_pos h3] at h;simp at h
      · rw[if_neg h3] at h ⊢
        by_cases h4:n<0
        · rw[if_pos h4];exact .inl ⟨h4,by omega,rfl⟩
        · rw[if_neg h4] at h ⊢
          by_cases h5:100<c.v+c.i+n
          · rw[if_pos h5] at h;simp at h
          · rw[if_neg h5];exact .inr ⟨by omega,by omega,rfl⟩
    · simp[h1,h2] at h
  · simp[h1] at h
theorem chk_of{v o i:Int}(h:0≤v∧v≤100∧0≤o∧o≤v∧0≤i∧i≤100 - v):chk ⟨v,o,i⟩=0:=by
  unfold chk;simp only;(repeat' split)<;>omega
theorem hold_chk{c:Cnt}{n:Int}(h:(hold c n).2=0):chk (hold c n).1=0:=by
  obtain⟨h1,h2,h3⟩:=hold_ok h
  have hc:=chk_ok h1;have hd:=dlt_ok h2
  rcases h3 with ⟨_,_,e⟩|⟨_,_,e⟩<;>rw[e]<;>exact chk_of (by first|omega|(simp only;omega))
theorem endc_ok {c : Cnt} {n : Int} (d : Bool) (h1 : chk c = 0) (h2 : dlt n = 0) (h3 : n < 0 → -n ≤ c.o) (h4 : 0 < n → n ≤ c.i) :
    endc c n d = (⟨if d then c.v + n else c.v, if n < 0 then c.o + n else c.o, if n < 0 then c.i else c.i - n⟩, 0) := by
  unfold endc;simp only[h1,h2,ne_eq,not_true_eq_false,if_false]
  rw[if_neg (by omega)]
  by_cases h:n<0
  · simp[h]
  · simp[h]
theorem endc_chk{c:Cnt}{n:Int}{d:Bool}(h1:chk c=0)(h2:dlt n=0)(h3:n<0→-n≤c.o)(h4:0<n→n≤c.i):chk (endc c n d).1=0:=by
  rw[endc_ok d h1 h2 h3 h4]
  have hc:=chk_ok h1;have hd:=dlt_ok h2
  refine chk_of ?_
  cases d<;>by_cases h:n<0<;>simp[h]<;>omega
theorem not_in_step{α:Type}{l:List α}{i:Nat}{x n:α}(h:n∉l.take i)(h1:l[i]?=some x)(hx:¬ x=n):n∉l.take (i+1):=by
  rw[List.take_add_one,h1]
  simp only[Option.toList_some,List.mem_append,List.mem_singleton]
  rintro (h2|h2)
  · exact h h2
  · exact hx h2.symm
def rnd (n:Int)(L:Nat):Nat:=(n % 18446744073709551616).toNat % L
theorem rnd_lt{n:Int}{L:Nat}(h:0<L):rnd n L<L:=Nat.mod_lt _ h
theorem u64_wrap (n:Int):IntKind.u64.wrap n=n % 18446744073709551616:=by
  simp[IntKind.wrap,IntKind.bits,IntKind.signed]
theorem rnd_eq{n:Int}{L:Nat}(h:0<L)(hL:L≤9223372036854775807):IntKind.i64.wrap ((IntKind.u64.wrap n).tmod (IntKind.u64.wrap (L:Int)))=(rnd n L:Int):=by
  have h1:IntKind.u64.wrap (L:Int)=(L:Int):=by rw[u64_wrap];omega
  rw[h1,u64_wrap]
  have h2:0≤n % 18446744073709551616:=Int.emod_nonneg _ (by decide)
  have h3:(n % 18446744073709551616).tmod (L:Int)=(rnd n L:Int):=by
    rw[Int.tmod_eq_emod_of_nonneg h2]
    unfold rnd
    rw[Int.natCast_emod,Int.toNat_of_nonneg h2]
  rw[h3]
  have:=rnd_lt (n:=n) h
  exact wrap_in (by omega)
theorem u64_ne{L:Nat}(h:0<L)(hL:L≤9223372036854775807):¬ IntKind.u64.wrap (L:Int)=0:=by rw[u64_wrap];omega
end Go.Proofs.YtmakdilmibjpbaaGreatDoor
namespace Go.Proofs.YtmakdilmibjpbaaGreatDoor
open Go Go.RowKit
set_option linter.unusedVariables false
set_option linter.unusedSimpArgs false
structure Want where
  ctr:Int
  dl:Int
  deriving DecidableEq
def rW (w:Want):List Value:=[.int .i64 w.ctr,.int .i64 w.dl]
structure Flt where
  code:Int
  at':Int
  deriving DecidableEq
def rF (f:Flt):List Value:=[.int .i64 f.code,.int .i64 f.at']
def vI (n:Int):Value:=.int .i64 n
def shopOf (c:Int):Int:=if c<0∨6≤c then -1 else c / 2
def wantF (w:Want):Int:=if shopOf w.ctr<0 then 1 else dlt w.dl
theorem shopOf_neg{c:Int}:shopOf c<0↔(c<0∨6≤c):=by
  unfold shopOf;split<;>omega
theorem shopOf_ok{c:Int}(h1:0≤c)(h2:c<6):shopOf c=c / 2:=by
  unfold shopOf;rw[if_neg (by omega)]
theorem wantF_ok{w:Want}(h:wantF w=0):0≤w.ctr∧w.ctr<6∧w.dl≠0∧-100≤w.dl∧w.dl≤100:=by
  unfold wantF at h
  split at h
  · cases h
  · rename_i hs
    rw[shopOf_neg] at hs
    have:=dlt_ok h
    omega
def scanW:List Want→List Want→Flt
  | _,[]=>⟨0,0⟩
  | pre,w::l=>if wantF w≠0 then ⟨wantF w,pre.length⟩ else if pre.any (fun x=>decide (x.ctr=w.ctr)) then ⟨4,pre.length⟩ else scanW (pre++[w]) l
def checkL (l:List Want):Flt:=if l.length=0 then ⟨2,-1⟩ else if 4<l.length then ⟨3,-1⟩ else scanW [] l
def z6:List Int:=[0,0,0,0,0,0]
def goA:List Int→List Want→Nat→List Int×Flt
  | ws,[],_=>(ws,⟨0,0⟩)
  | ws,x::l,i=>
    if ws.getD x.ctr.toNat 0<0∨100<ws.getD x.ctr.toNat 0 then (z6,⟨1,i⟩)
    else if ws.getD x.ctr.toNat 0+x.dl<0 then (z6,⟨5,i⟩)
    else if 100<ws.getD x.ctr.toNat 0+x.dl then (z6,⟨6,i⟩)
    else goA (ws.set x.ctr.toNat (ws.getD x.ctr.toNat 0+x.dl)) l (i+1)
def applyL (ws:List Int)(l:List Want):List Int×Flt:=if (checkL l).code≠0 then (z6,checkL l) else goA ws l 0
def shopsL (l:List Want):List Int:=[0,1,2].filter fun s=>l.any fun w=>decide (shopOf w.ctr=s)
theorem drop_at{α:Type}{l:List α}{i:Nat}{a:α}(h:l[i]?=some a):l.drop i=a::l.drop (i+1):=by
  obtain⟨hi,rfl⟩:=List.getElem?_eq_some_iff.1 h
  exact List.drop_eq_getElem_cons hi
theorem take_len{α:Type}{l:List α}{i:Nat}(h:i≤l.length):(l.take i).length=i:=by simp[Nat.min_eq_left h]
theorem scan_end{l:List Want}{i:Nat}(h:l.length≤i):scanW (l.take i) (l.drop i)=⟨0,0⟩:=by
  rw[List.drop_eq_nil_of_le h];rfl
theorem scan_want{l:List Want}{i:Nat}{w:Want}(h:l[i]?=some w)(hi:i≤l.length)(hw:¬ wantF w=0):scanW (l.take i) (l.drop i)=⟨wantF w,i⟩:=by
  rw[drop_at h];unfold scanW;rw[if_pos hw,take_len hi]
theorem scan_twice{l:List Want}{i:Nat}{w x:Want}(h:l[i]?=some w)(hi:i≤l.length)(hw:wantF w=0)(hx:x∈l.take i)(e:x.ctr=w.ctr):scanW (l.take i) (l.drop i)=⟨4,i⟩:=by
  rw[drop_at h];unfold scanW;rw[if_neg (by simpa using hw),if_pos (List.any_eq_true.2 ⟨x,hx,by simpa using e⟩),take_len hi]
theorem scan_next{l:List Want}{i j:Nat}{w:Want}(h:l[i]?=some w)(hw:wantF w=0)(hJ:∀ (q:Nat) (y:Want),q<j→(l.take i)[q]?=some y→y.ctr≠w.ctr)(hj:(l.take i).length≤j):scanW (l.take i) (l.drop i)=scanW (l.take (i+1)) (l.drop (i+1)):=by
  rw[drop_at h]
  conv=>lhs;unfold scanW
  rw[if_neg (by simpa using hw),if_neg,List.take_add_one,h]
  · rfl
  · intro hc
    obtain⟨x,hx,e⟩:=List.any_eq_true.1 hc
    obtain⟨q,hq,rfl⟩:=List.mem_iff_getElem.1 hx
    exact hJ q _ (by omega) (List.getElem?_eq_getElem hq) (by simpa using e)
theorem scan_step{l:List Want}{j:Nat}{w x:Want}(hJ:∀ (q:Nat) (y:Want),q<j→l[q]?=some y→y.ctr≠w.ctr)(hx:l[j]?=some x)(h:¬ x.ctr=w.ctr):∀ (q:Nat) (y:Want),q<j+1→l[q]?=some y→y.ctr≠w.ctr:=by
  intro q y hq hy
  by_cases e:q=j
  · subst e;rw[hx] at hy;cases hy;exact h
  · exact hJ q y (by omega) hy
def shopsTo (l:List Want)(s:Nat):List Int:=((List.range s).map fun (i:Nat)=>(i:Int)).filter fun s=>l.any fun w=>decide (shopOf w.ctr=s)
theorem shopsTo_len{l:List Want}{s:Nat}:(shopsTo l s).length≤s:=by
  have:=List.length_filter_le (fun s=>l.any fun w=>decide (shopOf w.ctr=s)) ((List.range s).map fun (i:Nat)=>(i:Int))
  unfold shopsTo;simpa using this
theorem shops_hit{l:List Want}{s j:Nat}{w:Want}(h:l[j]?=some w)(e:shopOf w.ctr=(s:Int)):shopsTo l (s+1)=shopsTo l s++[(s:Int)]:=by
  unfold shopsTo
  rw[List.range_succ,List.map_append,List.filter_append]
  congr 1
  simp only[List.map_cons,List.map_nil]
  rw[List.filter_cons_of_pos]
  · rfl
  · exact List.any_eq_true.2 ⟨w,List.mem_of_getElem? h,by simpa using e⟩
theorem shops_miss{l:List Want}{s j:Nat}(hJ:∀ (q:Nat) (y:Want),q<j→l[q]?=some y→shopOf y.ctr≠s)(hj:l.length≤j):shopsTo l (s+1)=shopsTo l s:=by
  unfold shopsTo
  rw[List.range_succ,List.map_append,List.filter_append]
  simp only[List.map_cons,List.map_nil]
  rw[List.filter_cons_of_neg]
  · simp
  · intro hc
    obtain⟨y,hy,e⟩:=List.any_eq_true.1 hc
    obtain⟨q,hq,rfl⟩:=List.mem_iff_getElem.1 hy
    exact hJ q _ (by omega) (List.getElem?_eq_getElem hq) (by simpa using e)
theorem shops_any{l:List Want}{s:Nat}:shopsTo l (s+1)=if (l.any fun w=>decide (shopOf w.ctr=(s:Int)))=true then shopsTo l s++[(s:Int)] else shopsTo l s:=by
  unfold shopsTo
  rw[List.range_succ,List.map_append,List.filter_append]
  simp only[List.map_cons,List.map_nil,List.filter_cons,List.filter_nil]
  split<;>simp
theorem miss_in{l:List Want}{j:Nat}{w:Want}{s:Int}(hJ:∀ (q:Nat) (y:Want),q<j→l[q]?=some y→shopOf y.ctr≠s)(hx:l[j]?=some w)(h:¬ shopOf w.ctr=s):∀ (q:Nat) (y:Want),q<j+1→l[q]?=some y→shopOf y.ctr≠s:=by
  intro q y hq hy
  by_cases e:q=j
  · subst e;rw[hx] at hy;cases hy;exact h
  · exact hJ q y (by omega) hy
def WantsOk (l:List Want):Prop:=(∀ w∈l,wantF w=0)∧(l.map (·.ctr)).Nodup
theorem scanW_ok:∀ (l pre:List Want),(scanW pre l).code=0↔(∀ w∈l,wantF w=0∧∀ x∈pre,x.ctr≠w.ctr)∧(l.map (·.ctr)).Nodup
  | [],pre=>by simp[scanW]
  | w::l,pre=>by
    unfold scanW
    split
    · rename_i h
      constructor
      · intro h';exact absurd h' h
      · rintro⟨h',_⟩;exact absurd (h' w (by simp)).1 h
    · rename_i h
      have h:wantF w=0:=by simpa using h
      split
      · rename_i h2
        constructor
        · intro h';cases h'
        · rintro⟨h',_⟩
          obtain⟨x,hx,e⟩:=List.any_eq_true.1 h2
          exact absurd (by simpa using e) ((h' w (by simp)).2 x hx)
      · rename_i h2
        have h2:∀ x∈pre,x.ctr≠w.ctr:=fun x hx e=>h2 (List.any_eq_true.2 ⟨x,hx,by simpa using e⟩)
        rw[scanW_ok l (pre++[w])]
        simp only[List.mem_cons,List.map_cons,List.nodup_cons,List.mem_append,List.mem_map,List.not_mem_nil,or_false]
        constructor
        · rintro⟨h3,h4⟩
          refine⟨fun y hy=>?_,?_,h4⟩
          · rcases hy with rfl|hy
            · exact⟨h,h2⟩
            · exact⟨(h3 y hy).1,fun x hx=>(h3 y hy).2 x (.inl hx)⟩
          · rintro⟨y,hy,e⟩
            exact (h3 y hy).2 w (.inr rfl) e.symm
        · rintro⟨h3,h4,h5⟩
          refine⟨fun y hy=>⟨(h3 y (.inr hy)).1,fun x hx=>?_⟩,h5⟩
          rcases hx with hx|rfl
          · exact (h3 y (.inr hy)).2 x hx
          · intro e;exact h4 ⟨y,hy,e.symm⟩
theorem checkL_ok (l:List Want):(checkL l).code=0↔0<l.length∧l.length≤4∧WantsOk l:=by
  unfold checkL
  split
  · rename_i h;simp[h]
  · split
    · rename_i h;constructor
      · intro h';cases h'
      · intro h';omega
    · rename_i h1 h2
      rw[scanW_ok]
      unfold WantsOk
      constructor
      · rintro⟨h3,h4⟩;exact⟨by omega,by omega,fun w hw=>(h3 w hw).1,h4⟩
      · rintro⟨_,_,h3,h4⟩;exact⟨fun w hw=>⟨h3 w hw,fun x hx=>by cases hx⟩,h4⟩
def addOf (l:List Want)(j:Int):Int:=((l.filter fun w=>decide (w.ctr=j)).map (·.dl)).sum
def addL (ws:List Int)(l:List Want):List Int:=(List.range 6).map fun (j:Nat)=>ws.getD j 0+addOf l j
def FitsA (ws:List Int)(l:List Want):Prop:=∀ w∈l,0≤ws.getD w.ctr.toNat 0∧ws.getD w.ctr.toNat 0≤100∧0≤ws.getD w.ctr.toNat 0+w.dl∧ws.getD w.ctr.toNat 0+w.dl≤100
theorem list6{ws:List Int}(h:ws.length=6):ws=(List.range 6).map fun j=>ws.getD j 0:=by
  match ws,h with
  | [a,b,c,d,e,f],_=>rfl
theorem getD_setI (ws:List Int)(i j:Nat)(v:Int)(h:i<ws.length):(ws.set i v).getD j 0=if i=j then v else ws.getD j 0:=by
  simp only[List.getD_eq_getElem?_getD,List.getElem?_set]
  split
  · rename_i e;subst e;simp[h]
  · rfl
theorem addOf_nil (j:Int):addOf [] j=0:=rfl
theorem addOf_cons (w:Want)(l:List Want)(j:Int):addOf (w::l) j=(if w.ctr=j then w.dl else 0)+addOf l j:=by
  unfold addOf
  by_cases h:w.ctr=j<;>simp[h]
theorem addOf_none{l:List Want}{j:Int}(h:∀ w∈l,w.ctr≠j):addOf l j=0:=by
  induction l with
  | nil=>rfl
  | cons w l ih=>rw[addOf_cons,if_neg (h w (by simp)),ih (fun x hx=>h x (by simp[hx]))];rfl
theorem goA_ok:∀ (l:List Want) (ws:List Int) (i:Nat),ws.length=6→WantsOk l→((goA ws l i).2.code=0↔FitsA ws l)∧(FitsA ws l→goA ws l i=(addL ws l,⟨0,0⟩))∧((goA ws l i).2.code≠0→(goA ws l i).1=z6)
  | [],ws,i,h6,_=>by
    refine⟨by simp[goA,FitsA],fun _=>?_,fun h=>absurd rfl h⟩
    simp only[goA,addL,addOf_nil,Int.add_zero]
    rw[← list6 h6]
  | x::l,ws,i,h6,hw=>by
    have hx:=wantF_ok (hw.1 x (by simp))
    have hnd:=hw.2
    simp only[List.map_cons,List.nodup_cons] at hnd
    have hlt:x.ctr.toNat<ws.length:=by omega
    have hne:∀ w∈l,w.ctr≠x.ctr:=fun w hw' e=>hnd.1 (List.mem_map.2 ⟨w,hw',e⟩)
    have hwl:WantsOk l:=⟨fun w hw'=>hw.1 w (by simp[hw']),hnd.2⟩
    have ih:=goA_ok l (ws.set x.ctr.toNat (ws.getD x.ctr.toNat 0+x.dl)) (i+1) (by simpa using h6) hwl
    have hsame:∀ w∈l,(ws.set x.ctr.toNat (ws.getD x.ctr.toNat 0+x.dl)).getD w.ctr.toNat 0=ws.getD w.ctr.toNat 0:=fun w hw'=>by
      rw[getD_setI _ _ _ _ hlt,if_neg]
      have:=wantF_ok (hwl.1 w hw');have:=hne w hw'
      omega
    have hfit:FitsA (ws.set x.ctr.toNat (ws.getD x.ctr.toNat 0+x.dl)) l↔FitsA ws l:=by
      unfold FitsA
      constructor
      · intro h w hw';have:=h w hw';rw[hsame w hw'] at this;exact this
      · intro h w hw';rw[hsame w hw'];exact h w hw'
    unfold goA
    by_cases h1:ws.getD x.ctr.toNat 0<0∨100<ws.getD x.ctr.toNat 0
    · rw[if_pos h1]
      refine⟨⟨(fun h=>by cases h),fun h=>?_⟩,fun h=>?_,fun _=>rfl⟩<;>(have:=h x (by simp);omega)
    · rw[if_neg h1]
      by_cases h2:ws.getD x.ctr.toNat 0+x.dl<0
      · rw[if_pos h2]
        refine⟨⟨(fun h=>by cases h),fun h=>?_⟩,fun h=>?_,fun _=>rfl⟩<;>(have:=h x (by simp);omega)
      · rw[if_neg h2]
        by_cases h3:100<ws.getD x.ctr.toNat 0+x.dl
        · rw[if_pos h3]
          refine⟨⟨(fun h=>by cases h),fun h=>?_⟩,fun h=>?_,fun _=>rfl⟩<;>(have:=h x (by simp);omega)
        · rw[if_neg h3]
          have hall:FitsA ws (x::l)↔FitsA ws l:=by
            unfold FitsA
            constructor
            · intro h w hw';exact h w (by simp[hw'])
            · intro h w hw'
              rcases List.mem_cons.1 hw' with rfl|hw'
              · omega
              · exact h w hw'
          refine⟨by rw[ih.1,hfit,hall],fun h=>?_,ih.2.2⟩
          rw[ih.2.1 (hfit.2 (hall.1 h))]
          refine Prod.ext ?_ rfl
          simp only[addL]
          refine List.map_congr_left fun j hj=>?_
          have hj:j<6:=by simpa using hj
          rw[getD_setI _ _ _ _ hlt,addOf_cons]
          by_cases e:x.ctr.toNat=j
          · rw[if_pos e,if_pos (by omega),← e]
            rw[addOf_none (fun w hw'=>by have:=hne w hw';omega)]
            omega
          · rw[if_neg e,if_neg (by omega)];omega
end Go.Proofs.YtmakdilmibjpbaaGreatDoor
