/- What the statements of a clerk ask, in plain Lean. No program in sight. A desk, in plain Lean: words, numerals, what lines tell. No program in sight. -/
import Derived.Test.YtmakdilmibjpbaaGreatDoorTinv
import Derived.Lib.SplitLaws
import Derived.Lib.AtoiAllCases
import Derived.Lib.ItoaLen
namespace Go.Proofs.YtmakdilmibjpbaaGreatDoor
open Go Go.RowKit
set_option linter.unusedVariables false
set_option linter.unusedSimpArgs false
theorem ansK_some{k:KeepS}{m a:Mail}(h:(ansK k m).2=some a):a.deal=m.deal∧a.shop=k.no∧a.ctr=m.ctr∧a.dl=m.dl∧m.shop=k.no:=by
  by_cases h0:m.shop≠k.no
  · rw[ansK_1 h0] at h;cases h
  · have h0':m.shop=k.no:=by omega
    by_cases h1:m.kind=1
    · rw[ansK_2 h0 h1] at h;cases h;exact⟨rfl,h0',rfl,rfl,h0'⟩
    · by_cases h3:m.kind=3
      · by_cases hc:(doK k ⟨2,m.deal,0,0,m.yes⟩).2=0
        · rw[ansK_4 h0 h1 h3 hc] at h;cases h;exact⟨rfl,h0',rfl,rfl,h0'⟩
        · rw[ansK_3 h0 h1 h3 hc] at h;cases h
      · rw[ansK_5 h0 h1 h3] at h;cases h
end Go.Proofs.YtmakdilmibjpbaaGreatDoor
namespace Go.Proofs.YtmakdilmibjpbaaGreatDoor
open Go Go.RowKit
set_option linter.unusedVariables false
set_option linter.unusedSimpArgs false
def spl:List UInt8→List (List UInt8)
  | []=>[[]]
  | c::l=>if c=32 then []::spl l else match spl l with
    | []=>[[c]]
    | p::ps=>(c::p)::ps
theorem spl_cons (c : UInt8) (l : List UInt8) : spl (c :: l) = if c = 32 then [] :: spl l else match spl l with
    | [] => [[c]]
    | p :: ps => (c :: p) :: ps := by simp only [spl]
theorem spl_ne (s:List UInt8):spl s≠[]:=by
  cases s with
  | nil=>simp[spl]
  | cons c l=>
    rw[spl_cons]
    split
    · simp
    · split<;>simp
theorem index_at (l:List UInt8):Lib.index (32::l) [32]=0:=by
  unfold Lib.index;simp
theorem index_past{c:UInt8}(h:c≠32)(l:List UInt8):Lib.index (c::l) [32]=if Lib.index l [32]=-1 then -1 else Lib.index l [32]+1:=by
  have h':(32:UInt8)≠c:=fun e=>h e.symm
  conv=>lhs;unfold Lib.index
  simp[List.isPrefixOf,h']
theorem splitK_spl:∀ s:List UInt8,Lib.splitK [32] 0 (Lib.count s [32]) s=spl s
  | []=>by rw[show Lib.count [] [32]=0 from by decide];rfl
  | c::l=>by
    have ih:=splitK_spl l
    by_cases hc:c=32
    · subst hc
      rw[Lib.count_cons_eq,show 1+Lib.count l [32]=Lib.count l [32]+1 by omega]
      unfold Lib.splitK
      rw[index_at]
      simp[spl,ih]
    · rw[Lib.count_cons_ne c 32 l hc]
      rw[show spl (c::l)=match spl l with|[]=>[[c]]|p::ps=>(c::p)::ps by rw[spl_cons,if_neg hc]]
      rw[← ih]
      cases hk:Lib.count l [32] with
      | zero=>simp[Lib.splitK]
      | succ k=>
        unfold Lib.splitK
        rw[index_past hc]
        by_cases hi:Lib.index l [32]=-1
        · simp[hi]
        · have hge:=Lib.index_ge l [32]
          rw[if_neg hi]
          have e1:(Lib.index l [32]+1).toNat=(Lib.index l [32]).toNat+1:=by omega
          have e2:¬ (Lib.index l [32]+1=-1):=by omega
          simp[hi,e2,e1]
def wordsL (s:List UInt8):List (List UInt8):=(spl s).filter fun w=>!decide (w=[])
def wordsW (w s:List UInt8):List (List UInt8):=match spl s with
  | []=>[]
  | p::ps=>((w++p)::ps).filter fun w=>!decide (w=[])
theorem wordsW_nil (s:List UInt8):wordsW [] s=wordsL s:=by
  unfold wordsW wordsL
  cases spl s with
  | nil=>rfl
  | cons p ps=>rfl
theorem wordsW_c{w:List UInt8}{c:UInt8}{s:List UInt8}(h:c≠32):wordsW w (c::s)=wordsW (w++[c]) s:=by
  unfold wordsW
  rw[show spl (c::s)=match spl s with|[]=>[[c]]|p::ps=>(c::p)::ps by rw[spl_cons,if_neg h]]
  cases hs:spl s with
  | nil=>exact absurd hs (spl_ne s)
  | cons p ps=>simp
theorem wordsW_s{w s:List UInt8}:wordsW w (32::s)=(if w=[] then [] else [w])++wordsW [] s:=by
  rw[wordsW_nil]
  unfold wordsW wordsL
  rw[show spl (32::s)=[]::spl s by simp[spl]]
  by_cases h:w=[]<;>simp[h]
theorem wordsW_e{w:List UInt8}:wordsW w []=if w=[] then [] else [w]:=by
  unfold wordsW
  by_cases h:w=[]<;>simp[spl,h]
theorem spl_len:∀ s:List UInt8,(spl s).length≤s.length+1
  | []=>by simp[spl]
  | c::l=>by
    have ih:=spl_len l
    rw[spl_cons]
    split
    · simp;omega
    · split
      · simp
      · rename_i p ps hp
        rw[hp] at ih
        simp at ih ⊢;omega
theorem spl_mem:∀ (s:List UInt8) {w:List UInt8},w∈spl s→w.length≤s.length
  | [],w,h=>by simp[spl] at h;subst h;simp
  | c::l,w,h=>by
    have ih:=fun {w}=>spl_mem l (w:=w)
    rw[spl_cons] at h
    split at h
    · simp only[List.mem_cons] at h
      rcases h with rfl|h
      · simp
      · have:=ih h;simp;omega
    · split at h
      · simp at h;subst h;simp
      · rename_i p ps hp
        simp only[List.mem_cons] at h
        rcases h with rfl|h
        · have:=ih (w:=p) (by rw[hp];simp);simp;omega
        · have:=ih (w:=w) (by rw[hp];simp[h]);simp;omega
theorem wordsL_len (s:List UInt8):(wordsL s).length≤s.length+1:=Nat.le_trans (List.length_filter_le _ _) (spl_len s)
theorem wordsL_mem{s w:List UInt8}(h:w∈wordsL s):w.length≤s.length:=spl_mem s (List.mem_filter.1 h).1
def parseN (w:List UInt8):Option Int:=match Lib.atoiAll w with
  | .ok v=>if Lib.itoa v=w then some v else none
  | _=>none
def parseL:List (List UInt8)→Option (List Int)
  | []=>some []
  | w::l=>match parseN w,parseL l with
    | some v,some vs=>some (v::vs)
    | _,_=>none
def i64 (n:Int):Prop:=-9223372036854775808≤n∧n≤9223372036854775807
theorem parseN_none{l:List (List UInt8)}{i:Nat}{w:List UInt8}(hw:l[i]?=some w)(h:parseN w=none):parseL l=none:=by
  induction l generalizing i with
  | nil=>simp at hw
  | cons x l ih=>
    cases i with
    | zero=>simp at hw;subst hw;simp[parseL,h]
    | succ i=>simp at hw;unfold parseL;rw[ih hw];cases parseN x<;>rfl
def numsL (l:List Int):List UInt8:=l.flatMap fun n=>32::Lib.itoa n
theorem numsL_add (l:List Int)(n:Int):numsL (l++[n])=numsL l++(32::Lib.itoa n):=by simp[numsL]
theorem numsL_take{l:List Int}{i:Nat}{n:Int}(h:l[i]?=some n):numsL (l.take (i+1))=numsL (l.take i)++(32::Lib.itoa n):=by
  rw[List.take_add_one,h];exact numsL_add _ _
def kindL (k:Int):List UInt8:=if k=1 then [97,115,107] else if k=2 then [115,97,121] else if k=3 then [101,110,100] else if k=4 then [111,118,101,114] else []
def mailS (m:Mail):List UInt8:=kindL m.kind++numsL [m.deal,m.shop,m.ctr,m.dl]++(if m.yes=true then [32,121,101,115] else [])++[10]
def mailsU (l:List Mail):List UInt8:=l.flatMap mailS
def mailsS (l:List Mail):List UInt8:=mailsU l++[101,110,100,10]
theorem mailsU_take{l:List Mail}{i:Nat}{m:Mail}(h:l[i]?=some m):mailsU (l.take (i+1))=mailsU (l.take i)++mailS m:=by
  rw[List.take_add_one,h];simp[mailsU]
def codeS (c:Int):List UInt8:=if c≠0 then [110,111,32]++Lib.itoa c++[10] else [111,107,10]
def listS (s:List UInt8)(l:List Int):List UInt8:=s++numsL l++[10]
def countS (c:Cnt):List UInt8:=listS [99,111,117,110,116] [c.v,c.o,c.i]
def holdU (l:List Hld):List UInt8:=l.flatMap fun h=>listS [104,111,108,100] [h.deal,h.ctr,h.dl]
theorem holdU_take{l:List Hld}{i:Nat}{h:Hld}(hh:l[i]?=some h):holdU (l.take (i+1))=holdU (l.take i)++listS [104,111,108,100] [h.deal,h.ctr,h.dl]:=by
  rw[List.take_add_one,hh];simp[holdU]
def shopS (t:TownS)(n:Int):List UInt8:=if n<0∨3≤n then codeS 1 else match t.ks[n.toNat]? with
  | none=>codeS 1
  | some k=>countS k.shop.c0++countS k.shop.c1++holdU k.shop.holds++[101,110,100,10]
def pairsL:List Int→List Want
  | a::b::l=>⟨a,b⟩::pairsL l
  | _=>[]
def tellS (t:TownS)(x:StepS):TownS×List UInt8:=((stepT t x).1,codeS (stepT t x).2)
def whatS:List UInt8:=[119,104,97,116,10]
def askT (t:TownS)(w:List UInt8)(n:List Int):TownS×List UInt8:=
  if w=[99,97,108,109]∧n.length=0 then ((calmT t).1,[99,97,108,109,32]++Lib.itoa (calmT t).2++[10])
  else if w=[119,111,114,108,100]∧n.length=0 then (t,listS [119,111,114,108,100] (worldT t))
  else if w=[115,101,114,105,97,108]∧n.length=0 then (t,if (serialT t).2≠0 then codeS (serialT t).2 else listS [119,111,114,108,100] (serialT t).1)
  else if w=[115,116,97,116,101]∧n.length=1 then (t,[115,116,97,116,101,32]++Lib.itoa (stateB t.b (n.getD 0 0))++[10])
  else if w=[100,111,110,101]∧n.length=0 then (t,listS [100,111,110,101] t.b.order)
  else if w=[109,97,105,108]∧n.length=0 then (t,mailsS t.post)
  else if w=[100,117,101]∧n.length=0 then (t,mailsS (dueB t.b))
  else if w=[104,111,108,100,115]∧n.length=1 then (t,shopS t (n.getD 0 0))
  else (t,whatS)
def stepK (w:List UInt8)(n:List Int):Option StepS:=
  if w=[98,101,103,105,110]∧n.length % 2=0 then some ⟨1,0,pairsL n⟩
  else if w=[116,105,99,107]∧n.length=0 then some ⟨2,0,[]⟩
  else if w=[98,114,111,107,101,114]∧n.length=0 then some ⟨8,0,[]⟩
  else if w=[100,101,108,105,118,101,114]∧n.length=1 then some ⟨3,n.getD 0 0,[]⟩
  else if w=[108,111,115,101]∧n.length=1 then some ⟨4,n.getD 0 0,[]⟩
  else if w=[100,111,117,98,108,101]∧n.length=1 then some ⟨5,n.getD 0 0,[]⟩
  else if w=[113,117,105,116]∧n.length=1 then some ⟨6,n.getD 0 0,[]⟩
  else if w=[115,104,111,112]∧n.length=1 then some ⟨7,n.getD 0 0,[]⟩
  else none
def cmdT (t:TownS)(w:List UInt8)(n:List Int):TownS×List UInt8:=match stepK w n with
  | some x=>tellS t x
  | none=>askT t w n
def lineT (t:TownS)(s:List UInt8):TownS×List UInt8:=match wordsL s with
  | []=>(t,[])
  | w::l=>match parseL l with
    | none=>(t,whatS)
    | some n=>cmdT t w n
def linesT:TownS→List (List UInt8)→TownS×List UInt8
  | t,[]=>(t,[])
  | t,s::l=>((linesT (lineT t s).1 l).1,(lineT t s).2++(linesT (lineT t s).1 l).2)
def Mr (m:Mail):Prop:=(1≤m.kind∧m.kind≤4)∧(0≤m.deal∧m.deal<8)∧(0≤m.shop∧m.shop<3)∧(0≤m.ctr∧m.ctr<6)∧(-100≤m.dl∧m.dl≤100)
def Wr (w:Int):Prop:=0≤w∧w≤100
structure DInv (t:TownS):Prop where
  ti:TInv t
  mr:∀ m∈t.post,Mr m
  wr:∀ w∈t.ws,Wr w
theorem want_r{w:Want}(h:wantF w=0):(0≤w.ctr∧w.ctr<6)∧(-100≤w.dl∧w.dl≤100):=by
  obtain⟨h1,h2,-,h3,h4⟩:=wantF_ok h
  exact⟨⟨h1,h2⟩,h3,h4⟩
theorem DInv.due{t:TownS}(h:DInv t){m:Mail}(hm:m∈dueB t.b):Mr m:=by
  have hl:=h.ti.b.len
  obtain⟨i,d,hd,hmd⟩:=dueB_mem.1 hm
  have hil:=(List.getElem?_eq_some_iff.1 hd).1
  have hk:=h.ti.b.d d (List.mem_of_getElem? hd)
  have hc:=(checkL_ok _).1 hk.w
  rcases dueD_mem hmd with ⟨h0,s,hs,_,rfl⟩|⟨h0,w,hw,rfl⟩
  · refine⟨by dsimp only;omega,by dsimp only;omega,?_,by dsimp only;omega,by dsimp only;omega⟩
    have:=(List.mem_filter.1 hs).1
    simp at this
    dsimp only;omega
  · have hw':=hc.2.2.1 w hw
    obtain⟨h1,h2⟩:=want_r hw'
    refine⟨by dsimp only;omega,by dsimp only;omega,?_,h1,h2⟩
    dsimp only
    unfold shopOf
    split<;>omega
theorem DInv.tick{t:TownS}(h:DInv t):DInv (tickT t):=by
  refine⟨h.ti.tick,?_,h.wr⟩
  have key:∀ (l p:List Mail),(∀ m∈l,Mr m)→(∀ m∈p,Mr m)→∀ m∈l.foldl sendL p,Mr m:=by
    intro l
    induction l with
    | nil=>intro p _ hp;exact hp
    | cons x l ih=>
      intro p hl hp
      refine ih _ (fun m hm=>hl m (List.mem_cons_of_mem _ hm)) fun m hm=>?_
      rcases send_mem hm with hm|rfl
      · exact hp m hm
      · exact hl m (by simp)
  exact key _ _ (fun m hm=>h.due hm) h.mr
theorem DInv.deliver{t:TownS}(h:DInv t)(n:Int):DInv (deliverT t n).1:=by
  refine⟨h.ti.deliver n,?_,?_⟩
  · intro x hx
    unfold deliverT at hx
    split at hx
    · exact h.mr x hx
    · rename_i m hm
      have hmm:=h.mr m (List.mem_of_getElem? hm)
      split at hx
      · exact h.mr x (take_mem hx)
      · split at hx
        · exact h.mr x (take_mem hx)
        · split at hx
          · exact h.mr x (take_mem hx)
          · rename_i k hk
            dsimp only at hx
            split at hx
            · rename_i a ha
              rcases send_mem hx with hx|rfl
              · exact h.mr x (take_mem hx)
              · obtain⟨e1,e2,e3,e4,e5⟩:=ansK_some ha
                have hkk:=ansK_kind ha
                obtain⟨a1,a2,a3,a4,a5⟩:=hmm
                exact⟨by omega,by omega,by omega,by omega,by omega⟩
            · exact h.mr x (take_mem hx)
  · have : (deliverT t n).1.ws = t.ws := by
      unfold deliverT
      split
      · rfl
      · split
        · rfl
        · split
          · rfl
          · split <;> rfl
    rw[this];exact h.wr
theorem stepT_2d{t:TownS}{x:StepS}(h:x.kind=2):stepT t x=(tickT t,0):=by unfold stepT;rw[if_neg (by omega),if_pos h]
theorem stepT_3d{t:TownS}{x:StepS}(h:x.kind=3):stepT t x=deliverT t x.n:=by unfold stepT;rw[if_neg (by omega),if_neg (by omega),if_pos h]
theorem DInv.step{t:TownS}(h:DInv t)(x:StepS):DInv (stepT t x).1:=by
  by_cases h2:x.kind=2
  · rw[stepT_2d h2];exact h.tick
  by_cases h3:x.kind=3
  · rw[stepT_3d h3];exact h.deliver _
  refine⟨h.ti.step x,?_,?_⟩
  · have key : ∀ m ∈ (stepT t x).1.post, m ∈ t.post := by
      intro m hm
      unfold stepT at hm
      simp only [h2, h3, if_false] at hm
      have hd : ∀ y ∈ dblL t.post x.n, y ∈ t.post := by
        intro y hy
        unfold dblL at hy
        split at hy
        · rename_i z hz
          rcases send_mem hy with hy | rfl
          · exact hy
          · exact List.mem_of_getElem? hz
        · exact hy
      (repeat' split at hm) <;> first | exact hm | exact take_mem hm | exact hd _ hm
    exact fun m hm=>h.mr m (key m hm)
  · have : (stepT t x).1.ws = t.ws := by
      unfold stepT
      simp only [h2, h3, if_false]
      (repeat' split) <;> rfl
    rw[this];exact h.wr
theorem DInv.drain:∀ (n:Nat) (t:TownS),wgtL t.post≤n→DInv t→DInv (drainT t):=by
  intro n
  induction n with
  | zero=>
    intro t hn h
    rw[drainT]
    split
    · rename_i h0
      obtain⟨m,hm⟩:=takeM_some' (l:=t.post) 0 h0
      have:=deliver_wgt hm
      omega
    · exact h
  | succ n ih=>
    intro t hn h
    rw[drainT]
    split
    · rename_i h0
      obtain⟨m,hm⟩:=takeM_some' (l:=t.post) 0 h0
      have:=deliver_wgt hm
      exact ih _ (by omega) (h.deliver 0)
    · exact h
theorem DInv.calmN:∀ (k:Nat) (n:Int) (t:TownS),DInv t→DInv (calmN k n t).1
  | 0,_,_,h=>h
  | k+1,n,t,h=>by
    have hd:=DInv.drain _ t (Nat.le_refl _) h
    unfold Go.Proofs.YtmakdilmibjpbaaGreatDoor.calmN
    split
    · exact hd
    · exact DInv.calmN k _ _ hd.tick
theorem DInv.calm{t:TownS}(h:DInv t):DInv (calmT t).1:=DInv.calmN 20 0 t h
theorem calm_n:∀ (k:Nat) (n:Int) (t:TownS),n≤(calmN k n t).2∧(calmN k n t).2≤n+k
  | 0,n,t=>by simp[calmN]
  | k+1,n,t=>by
    unfold calmN
    split
    · dsimp only;omega
    · have:=calm_n k (n+1) (tickT (drainT t));omega
theorem calm_le (t:TownS):0≤(calmT t).2∧(calmT t).2≤20:=by have:=calm_n 20 0 t;unfold calmT;omega
end Go.Proofs.YtmakdilmibjpbaaGreatDoor
