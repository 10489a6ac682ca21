/- A shop, in plain Lean: what is held, what is over; its counters. No program in sight. What the statements on shops ask, in plain Lean. No program in sight. -/
import Derived.Test.YtmakdilmibjpbaaGreatDoorWants
namespace Go.Proofs.YtmakdilmibjpbaaGreatDoor
open Go Go.RowKit
set_option linter.unusedVariables false
set_option linter.unusedSimpArgs false
structure Hld where
  deal:Int
  ctr:Int
  dl:Int
  deriving DecidableEq
structure Ovr where
  deal:Int
  done:Bool
  deriving DecidableEq
structure ShopS where
  no:Int
  c0:Cnt
  c1:Cnt
  holds:List Hld
  over:List Ovr
  deriving DecidableEq
def ShopS.cnt (s:ShopS)(k:Int):Cnt:=if k=0 then s.c0 else s.c1
def ShopS.set (s:ShopS)(k:Int)(c:Cnt):ShopS:=if k=0 then {s with c0:=c} else {s with c1:=c}
def overL:List Ovr→Int→Option Bool
  | [],_=>none
  | o::l,d=>if o.deal=d then some o.done else overL l d
def scanH:List Hld→Hld→Option Int
  | [],_=>none
  | x::l,h=>if x=h then some 0 else if x.deal=h.deal∧x.ctr=h.ctr then some 9 else scanH l h
def newS (no:Int)(ws:List Int):Option ShopS:=
  if no<0∨3≤no then none
  else if chk ⟨ws.getD (no*2).toNat 0,0,0⟩≠0 then none
  else if chk ⟨ws.getD (no*2+1).toNat 0,0,0⟩≠0 then none
  else some ⟨no,⟨ws.getD (no*2).toNat 0,0,0⟩,⟨ws.getD (no*2+1).toNat 0,0,0⟩,[],[]⟩
def holdS (s:ShopS)(d:Int)(w:Want):ShopS×Int:=
  if d<0∨8≤d then (s,1) else if wantF w≠0 then (s,wantF w) else if shopOf w.ctr≠s.no then (s,1)
  else if (overL s.over d).isSome then (s,8)
  else match scanH s.holds ⟨d,w.ctr,w.dl⟩ with
    | some c=>(s,c)
    | none=>if (hold (s.cnt (w.ctr % 2)) w.dl).2≠0 then (s,(hold (s.cnt (w.ctr % 2)) w.dl).2)
      else ({s.set (w.ctr % 2) (hold (s.cnt (w.ctr % 2)) w.dl).1 with holds:=s.holds++[⟨d,w.ctr,w.dl⟩]},0)
def foldE (d:Int)(b:Bool):List Hld→ShopS→ShopS
  | [],s=>s
  | h::l,s=>foldE d b l (if h.deal=d then s.set (h.ctr % 2) (endc (s.cnt (h.ctr % 2)) h.dl b).1 else s)
def restH (d:Int)(l:List Hld):List Hld:=l.filter fun h=>decide (h.deal≠d)
def endS (s:ShopS)(d:Int)(b:Bool):ShopS×Int:=
  if d<0∨8≤d then (s,1)
  else match overL s.over d with
    | some was=>(s,if was=b then 0 else 9)
    | none=>({foldE d b s.holds s with holds:=restH d s.holds,over:=s.over++[⟨d,b⟩]},0)
def outH (c:Int):List Hld→Int
  | []=>0
  | h::l=>(if h.ctr=c∧h.dl<0 then -h.dl else 0)+outH c l
def inH (c:Int):List Hld→Int
  | []=>0
  | h::l=>(if h.ctr=c∧¬ h.dl<0 then h.dl else 0)+inH c l
def sumH (c d:Int):List Hld→Int
  | []=>0
  | h::l=>(if h.ctr=c∧h.deal=d then h.dl else 0)+sumH c d l
def sameK (x y:Hld):Prop:=x.deal=y.deal∧x.ctr=y.ctr
structure ShInv (s:ShopS):Prop where
  no0:0≤s.no
  no3:s.no<3
  k0:chk s.c0=0
  k1:chk s.c1=0
  h:∀ h∈s.holds,0≤h.deal∧h.deal<8∧dlt h.dl=0∧(h.ctr=2*s.no∨h.ctr=2*s.no+1)∧overL s.over h.deal=none
  pw:s.holds.Pairwise fun x y=>¬ sameK x y
  o0:s.c0.o=outH (2*s.no) s.holds
  i0:s.c0.i=inH (2*s.no) s.holds
  o1:s.c1.o=outH (2*s.no+1) s.holds
  i1:s.c1.i=inH (2*s.no+1) s.holds
  ov:∀ o∈s.over,0≤o.deal∧o.deal<8
  ovp:s.over.Pairwise fun x y=>x.deal≠y.deal
theorem ShopS.set_no (s:ShopS)(k:Int)(c:Cnt):(s.set k c).no=s.no:=by unfold ShopS.set;split<;>rfl
theorem ShopS.set_holds (s:ShopS)(k:Int)(c:Cnt):(s.set k c).holds=s.holds:=by unfold ShopS.set;split<;>rfl
theorem ShopS.set_over (s:ShopS)(k:Int)(c:Cnt):(s.set k c).over=s.over:=by unfold ShopS.set;split<;>rfl
theorem foldE_no (d:Int)(b:Bool):∀ (l:List Hld) (s:ShopS),(foldE d b l s).no=s.no∧(foldE d b l s).holds=s.holds∧(foldE d b l s).over=s.over
  | [],s=>⟨rfl,rfl,rfl⟩
  | h::l,s=>by
    unfold foldE
    have:=foldE_no d b l (if h.deal=d then s.set (h.ctr % 2) (endc (s.cnt (h.ctr % 2)) h.dl b).1 else s)
    rw[this.1,this.2.1,this.2.2]
    split<;>simp[ShopS.set_no,ShopS.set_holds,ShopS.set_over]
theorem overL_app (l:List Ovr)(o:Ovr)(d:Int):overL (l++[o]) d=match overL l d with|some b=>some b|none=>if o.deal=d then some o.done else none:=by
  induction l with
  | nil=>simp[overL]
  | cons x l ih=>simp only[List.cons_append,overL];split<;>simp[ih]
theorem overL_none{l:List Ovr}{d:Int}:overL l d=none↔∀ o∈l,o.deal≠d:=by
  induction l with
  | nil=>simp[overL]
  | cons x l ih=>
    simp only[overL]
    by_cases h:x.deal=d
    · simp[h]
    · simp[h,ih]
theorem outH_app (c:Int)(l k:List Hld):outH c (l++k)=outH c l+outH c k:=by
  induction l with
  | nil=>simp[outH]
  | cons x l ih=>simp only[List.cons_append,outH,ih];omega
theorem inH_app (c:Int)(l k:List Hld):inH c (l++k)=inH c l+inH c k:=by
  induction l with
  | nil=>simp[inH]
  | cons x l ih=>simp only[List.cons_append,inH,ih];omega
theorem outH_nn (c:Int)(l:List Hld):0≤outH c l:=by
  induction l with
  | nil=>simp[outH]
  | cons x l ih=>simp only[outH];split<;>omega
theorem inH_nn (c:Int)(l:List Hld):0≤inH c l:=by
  induction l with
  | nil=>simp[inH]
  | cons x l ih=>simp only[inH];split<;>omega
theorem scanH_none{l:List Hld}{h:Hld}:scanH l h=none↔∀ x∈l,¬ sameK x h:=by
  induction l with
  | nil=>simp[scanH]
  | cons x l ih=>
    simp only[scanH]
    by_cases h1:x=h
    · subst h1;simp[sameK]
    · rw[if_neg h1]
      by_cases h2:x.deal=h.deal∧x.ctr=h.ctr
      · simp[h2,sameK]
      · rw[if_neg h2]
        simp only[List.mem_cons,forall_eq_or_imp,ih]
        exact⟨fun a=>⟨h2,a⟩,fun a=>a.2⟩
theorem scanH_cases{l:List Hld}{h:Hld}{c:Int}(e:scanH l h=some c):(c=0∧h∈l)∨(c=9∧∃ x∈l,sameK x h∧x≠h):=by
  induction l with
  | nil=>simp[scanH] at e
  | cons x l ih=>
    simp only[scanH] at e
    split at e
    · rename_i h1;cases e;subst h1;exact .inl ⟨rfl,by simp⟩
    · rename_i h1
      split at e
      · rename_i h2;cases e;exact .inr ⟨rfl,x,by simp,h2,h1⟩
      · rcases ih e with ⟨a,b⟩|⟨a,y,b,c⟩
        · exact .inl ⟨a,by simp[b]⟩
        · exact .inr ⟨a,y,by simp[b],c⟩
theorem holdS_cases (s : ShopS) (d : Int) (w : Want) : ((holdS s d w).2 ≠ 0 ∧ (holdS s d w).1 = s) ∨ ((holdS s d w).2 = 0 ∧ 0 ≤ d ∧ d < 8 ∧ wantF w = 0 ∧ shopOf w.ctr = s.no ∧ overL s.over d = none ∧
    ((⟨d, w.ctr, w.dl⟩ ∈ s.holds ∧ (holdS s d w).1 = s) ∨ ((∀ x ∈ s.holds, ¬ sameK x ⟨d, w.ctr, w.dl⟩) ∧ (hold (s.cnt (w.ctr % 2)) w.dl).2 = 0 ∧
      (holdS s d w).1 = { s.set (w.ctr % 2) (hold (s.cnt (w.ctr % 2)) w.dl).1 with holds := s.holds ++ [⟨d, w.ctr, w.dl⟩] }))) := by
  unfold holdS
  by_cases h1:d<0∨8≤d
  · rw[if_pos h1];exact .inl ⟨by simp,rfl⟩
  rw[if_neg h1]
  by_cases h2:wantF w≠0
  · rw[if_pos h2];exact .inl ⟨h2,rfl⟩
  rw[if_neg h2]
  by_cases h3:shopOf w.ctr≠s.no
  · rw[if_pos h3];exact .inl ⟨by simp,rfl⟩
  rw[if_neg h3]
  by_cases h4:(overL s.over d).isSome=true
  · rw[if_pos h4];exact .inl ⟨by simp,rfl⟩
  rw[if_neg h4]
  have h2:wantF w=0:=by omega
  have h3:shopOf w.ctr=s.no:=by omega
  have h4:overL s.over d=none:=by simpa using h4
  cases hs:scanH s.holds ⟨d,w.ctr,w.dl⟩ with
  | some c=>
    rcases scanH_cases hs with ⟨rfl,hm⟩|⟨rfl,_⟩
    · exact .inr ⟨rfl,by omega,by omega,h2,h3,h4,.inl ⟨hm,rfl⟩⟩
    · exact .inl ⟨by simp,rfl⟩
  | none=>
    by_cases h5:(hold (s.cnt (w.ctr % 2)) w.dl).2≠0
    · dsimp only;rw[if_pos h5];exact .inl ⟨h5,rfl⟩
    · dsimp only;rw[if_neg h5]
      exact .inr ⟨rfl,by omega,by omega,h2,h3,h4,.inr ⟨scanH_none.1 hs,by omega,rfl⟩⟩
theorem want_ctr{w:Want}{n:Int}(h:wantF w=0)(e:shopOf w.ctr=n):0≤n∧n<3∧(w.ctr=2*n∨w.ctr=2*n+1)∧dlt w.dl=0:=by
  have h1:=wantF_ok h
  rw[shopOf_ok h1.1 h1.2.1] at e
  refine⟨by omega,by omega,by omega,?_⟩
  unfold wantF at h
  split at h
  · cases h
  · exact h
theorem ShInv.hld{s:ShopS}(hI:ShInv s)(d:Int)(w:Want):ShInv (holdS s d w).1:=by
  rcases holdS_cases s d w with ⟨_,e⟩|⟨_,d0,d8,hw,hs,ho,hc⟩
  · rw[e];exact hI
  · rcases hc with ⟨_,e⟩|⟨hn,hk,e⟩
    · rw[e];exact hI
    · rw[e]
      obtain⟨_,_,hctr,hdl⟩:=want_ctr hw hs
      have hck:=hold_chk hk
      obtain⟨q1,q2,q3⟩:=hold_ok hk
      have hdd:=dlt_ok hdl
      have hh:∀ h∈s.holds++[⟨d,w.ctr,w.dl⟩],0≤h.deal∧h.deal<8∧dlt h.dl=0∧(h.ctr=2*s.no∨h.ctr=2*s.no+1)∧overL s.over h.deal=none:=by
        intro h hm
        rcases List.mem_append.1 hm with hm|hm
        · exact hI.h h hm
        · simp at hm;subst hm;exact⟨d0,d8,hdl,hctr,ho⟩
      have hp:(s.holds++[(⟨d,w.ctr,w.dl⟩:Hld)]).Pairwise fun x y=>¬ sameK x y:=by
        rw[List.pairwise_append]
        exact⟨hI.pw,by simp,fun x hx y hy=>(by simp at hy;subst hy;exact hn x hx)⟩
      have a0:∀ c,outH c (s.holds++[⟨d,w.ctr,w.dl⟩])=outH c s.holds+(if w.ctr=c∧w.dl<0 then -w.dl else 0):=fun c=>by rw[outH_app];simp only[outH];omega
      have b0:∀ c,inH c (s.holds++[⟨d,w.ctr,w.dl⟩])=inH c s.holds+(if w.ctr=c∧¬ w.dl<0 then w.dl else 0):=fun c=>by rw[inH_app];simp only[inH];omega
      have i0:=hI.o0;have i1:=hI.o1;have i2:=hI.i0;have i3:=hI.i1
      have hpos:(w.dl<0∧(hold (s.cnt (w.ctr % 2)) w.dl).1=⟨(s.cnt (w.ctr % 2)).v,(s.cnt (w.ctr % 2)).o - w.dl,(s.cnt (w.ctr % 2)).i⟩)∨(¬ w.dl<0∧(hold (s.cnt (w.ctr % 2)) w.dl).1=⟨(s.cnt (w.ctr % 2)).v,(s.cnt (w.ctr % 2)).o,(s.cnt (w.ctr % 2)).i+w.dl⟩):=by
        rcases q3 with ⟨z,_,e⟩|⟨z,_,e⟩
        · exact .inl ⟨z,by rw[e]⟩
        · exact .inr ⟨by omega,by rw[e]⟩
      rcases hctr with hc|hc
      · have hk0:w.ctr % 2=0:=by omega
        have e0:s.cnt (w.ctr % 2)=s.c0:=by unfold ShopS.cnt;rw[if_pos hk0]
        have e1:s.set (w.ctr % 2) (hold (s.cnt (w.ctr % 2)) w.dl).1={s with c0:=(hold s.c0 w.dl).1}:=by unfold ShopS.set;rw[if_pos hk0,e0]
        rw[e1]
        rw[e0] at hck hpos
        have n1:¬ w.ctr=2*s.no+1:=by omega
        refine⟨hI.no0,hI.no3,hck,hI.k1,hh,hp,?_,?_,?_,?_,hI.ov,hI.ovp⟩
        · dsimp only;rw[a0];rcases hpos with ⟨z,e⟩|⟨z,e⟩
          · rw[e,if_pos ⟨hc,z⟩];dsimp only;omega
          · rw[e,if_neg (fun h=>z h.2)];dsimp only;omega
        · dsimp only;rw[b0];rcases hpos with ⟨z,e⟩|⟨z,e⟩
          · rw[e,if_neg (fun h=>h.2 z)];dsimp only;omega
          · rw[e,if_pos ⟨hc,z⟩];dsimp only;omega
        · dsimp only;rw[a0,if_neg (fun h=>n1 h.1)];omega
        · dsimp only;rw[b0,if_neg (fun h=>n1 h.1)];omega
      · have hk0:¬ w.ctr % 2=0:=by omega
        have e0:s.cnt (w.ctr % 2)=s.c1:=by unfold ShopS.cnt;rw[if_neg hk0]
        have e1:s.set (w.ctr % 2) (hold (s.cnt (w.ctr % 2)) w.dl).1={s with c1:=(hold s.c1 w.dl).1}:=by unfold ShopS.set;rw[if_neg hk0,e0]
        rw[e1]
        rw[e0] at hck hpos
        have n1:¬ w.ctr=2*s.no:=by omega
        refine⟨hI.no0,hI.no3,hI.k0,hck,hh,hp,?_,?_,?_,?_,hI.ov,hI.ovp⟩
        · dsimp only;rw[a0,if_neg (fun h=>n1 h.1)];omega
        · dsimp only;rw[b0,if_neg (fun h=>n1 h.1)];omega
        · dsimp only;rw[a0];rcases hpos with ⟨z,e⟩|⟨z,e⟩
          · rw[e,if_pos ⟨hc,z⟩];dsimp only;omega
          · rw[e,if_neg (fun h=>z h.2)];dsimp only;omega
        · dsimp only;rw[b0];rcases hpos with ⟨z,e⟩|⟨z,e⟩
          · rw[e,if_neg (fun h=>h.2 z)];dsimp only;omega
          · rw[e,if_pos ⟨hc,z⟩];dsimp only;omega
def foldC (c d:Int)(b:Bool):List Hld→Cnt→Cnt
  | [],x=>x
  | h::l,x=>foldC c d b l (if h.deal=d∧h.ctr=c then (endc x h.dl b).1 else x)
theorem foldC_ok (c d : Int) (b : Bool) : ∀ (l : List Hld) (x : Cnt) (o i : Int), chk x = 0 → (∀ h ∈ l, dlt h.dl = 0) → x.o = o + outH c l → x.i = i + inH c l → 0 ≤ o → 0 ≤ i →
    chk (foldC c d b l x) = 0 ∧ (foldC c d b l x).v = x.v + (if b then sumH c d l else 0) ∧ (foldC c d b l x).o = o + outH c (restH d l) ∧ (foldC c d b l x).i = i + inH c (restH d l)
  | [],x,o,i,h1,_,h3,h4,_,_=>by
    refine⟨h1,?_,h3,h4⟩
    simp[foldC,sumH]
  | h::l,x,o,i,h1,h2,h3,h4,h5,h6=>by
    have hd:=h2 h (by simp)
    have hdd:=dlt_ok hd
    have h2':∀ h∈l,dlt h.dl=0:=fun y hy=>h2 y (by simp[hy])
    have no:=outH_nn c l;have ni:=inH_nn c l
    simp only[foldC,outH,inH,sumH] at h3 h4 ⊢
    by_cases hc:h.ctr=c
    · by_cases hdl:h.deal=d
      · have hr:restH d (h::l)=restH d l:=by simp[restH,hdl]
        simp only[hc,hdl,true_and,and_self,if_true] at h3 h4 ⊢
        rw[hr]
        have e := endc_ok b h1 hd (fun hn => by simp only [hn, if_true] at h3; omega) (fun hn => by have : ¬ h.dl < 0 := by omega
                                                                                                    simp only [this, not_false_eq_true, if_true] at h4; omega)
        have hk := endc_chk (d := b) h1 hd (fun hn => by simp only [hn, if_true] at h3; omega) (fun hn => by have : ¬ h.dl < 0 := by omega
                                                                                                             simp only [this, not_false_eq_true, if_true] at h4; omega)
        have ih:=foldC_ok c d b l (endc x h.dl b).1 o i hk h2' (by rw[e];dsimp only;split at h3<;>rename_i z<;>simp only[z,if_true,if_false]<;>omega) (by rw[e];dsimp only;by_cases z:h.dl<0<;>simp only[z,not_true_eq_false,not_false_eq_true,if_true,if_false] at h4 ⊢<;>omega) h5 h6
        refine⟨ih.1,?_,ih.2.2.1,ih.2.2.2⟩
        rw[ih.2.1,e]
        cases b<;>simp<;>omega
      · have hr:restH d (h::l)=h::restH d l:=by simp[restH,hdl]
        simp only[hc,hdl,false_and,and_false,true_and,if_true,if_false] at h3 h4 ⊢
        have ih:=foldC_ok c d b l x (o+if h.dl<0 then -h.dl else 0) (i+if ¬ h.dl<0 then h.dl else 0) h1 h2' (by omega) (by omega) (by split<;>omega) (by split<;>omega)
        rw[hr]
        simp only[outH,inH,hc,true_and]
        exact⟨ih.1,by rw[ih.2.1];simp,by rw[ih.2.2.1];omega,by rw[ih.2.2.2];omega⟩
    · simp only[hc,false_and,and_false,if_false] at h3 h4 ⊢
      have ih:=foldC_ok c d b l x o i h1 h2' (by omega) (by omega) h5 h6
      refine⟨ih.1,by rw[ih.2.1];simp,?_,?_⟩
      · rw[ih.2.2.1];by_cases hdl:h.deal=d
        · have hr:restH d (h::l)=restH d l:=by simp[restH,hdl]
          rw[hr]
        · have hr:restH d (h::l)=h::restH d l:=by simp[restH,hdl]
          rw[hr];simp[outH,hc]
      · rw[ih.2.2.2];by_cases hdl:h.deal=d
        · have hr:restH d (h::l)=restH d l:=by simp[restH,hdl]
          rw[hr]
        · have hr:restH d (h::l)=h::restH d l:=by simp[restH,hdl]
          rw[hr];simp[inH,hc]
theorem foldE_C (d:Int)(b:Bool)(n:Int):∀ (l:List Hld) (s:ShopS),(∀ h∈l,h.ctr=2*n∨h.ctr=2*n+1)→(foldE d b l s).c0=foldC (2*n) d b l s.c0∧(foldE d b l s).c1=foldC (2*n+1) d b l s.c1
  | [],s,_=>⟨rfl,rfl⟩
  | h::l,s,hh=>by
    unfold foldE foldC
    have ih:=foldE_C d b n l (if h.deal=d then s.set (h.ctr % 2) (endc (s.cnt (h.ctr % 2)) h.dl b).1 else s) (fun y hy=>hh y (by simp[hy]))
    rw[ih.1,ih.2]
    by_cases hd:h.deal=d
    · rcases hh h (by simp) with hc|hc
      · have hk0:h.ctr % 2=0:=by omega
        have n1:¬ h.ctr=2*n+1:=by omega
        simp[hd,hc,ShopS.set,ShopS.cnt]
        rw[if_neg (by omega)]
      · have hk0:¬ h.ctr % 2=0:=by omega
        have n1:¬ h.ctr=2*n:=by omega
        simp only[hd,if_true,true_and,if_neg n1,if_pos hc,ShopS.set,ShopS.cnt,if_neg hk0]
    · simp[hd]
theorem endS_cases (s : ShopS) (d : Int) (b : Bool) : ((endS s d b).1 = s ∧ ((endS s d b).2 = 0 ↔ (0 ≤ d ∧ d < 8 ∧ overL s.over d = some b)) ∧ ((endS s d b).2 = 0 ∨ (endS s d b).2 = 1 ∨ ((endS s d b).2 = 9 ∧ overL s.over d = some (!b)))) ∨
    (0 ≤ d ∧ d < 8 ∧ overL s.over d = none ∧ endS s d b = ({ foldE d b s.holds s with holds := restH d s.holds, over := s.over ++ [⟨d, b⟩] }, 0)) := by
  unfold endS
  by_cases h1:d<0∨8≤d
  · rw[if_pos h1];exact .inl ⟨rfl,⟨fun h=>by simp at h,fun h=>by omega⟩,.inr (.inl rfl)⟩
  rw[if_neg h1]
  cases h:overL s.over d with
  | some was=>
    refine .inl ⟨rfl,?_,?_⟩
    · by_cases e:was=b
      · subst e;simp;omega
      · simp[e]
    · by_cases e:was=b
      · simp[e]
      · cases was<;>cases b<;>simp_all
  | none=>exact .inr ⟨by omega,by omega,rfl,rfl⟩
theorem ShInv.end' {s : ShopS} (hI : ShInv s) {d : Int} {b : Bool} (d0 : 0 ≤ d) (d8 : d < 8) (ho : overL s.over d = none) :
    ShInv (endS s d b).1 ∧ (endS s d b).2 = 0 ∧ (endS s d b).1.no = s.no ∧ (endS s d b).1.holds = restH d s.holds ∧ (endS s d b).1.over = s.over ++ [⟨d, b⟩] ∧
    (endS s d b).1.c0.v = s.c0.v + (if b then sumH (2 * s.no) d s.holds else 0) ∧ (endS s d b).1.c1.v = s.c1.v + (if b then sumH (2 * s.no + 1) d s.holds else 0) := by
  have e:endS s d b=({foldE d b s.holds s with holds:=restH d s.holds,over:=s.over++[⟨d,b⟩]},0):=by
    unfold endS;rw[if_neg (by omega),ho]
  rw[e]
  have hn:=foldE_no d b s.holds s
  obtain⟨f0,f1⟩:=foldE_C d b s.no s.holds s (fun h hm=>(hI.h h hm).2.2.2.1)
  have g0:=foldC_ok (2*s.no) d b s.holds s.c0 0 0 hI.k0 (fun h hm=>(hI.h h hm).2.2.1) (by have:=hI.o0;omega) (by have:=hI.i0;omega) (by omega) (by omega)
  have g1:=foldC_ok (2*s.no+1) d b s.holds s.c1 0 0 hI.k1 (fun h hm=>(hI.h h hm).2.2.1) (by have:=hI.o1;omega) (by have:=hI.i1;omega) (by omega) (by omega)
  rw[← f0] at g0;rw[← f1] at g1
  refine⟨⟨?_,?_,g0.1,g1.1,?_,?_,?_,?_,?_,?_,?_,?_⟩,rfl,hn.1,rfl,rfl,g0.2.1,g1.2.1⟩
  · dsimp only;rw[hn.1];exact hI.no0
  · dsimp only;rw[hn.1];exact hI.no3
  · intro h hm
    have hm':h∈s.holds∧h.deal≠d:=by simpa[restH] using hm
    obtain⟨q1,q2,q3,q4,q5⟩:=hI.h h hm'.1
    refine⟨q1,q2,q3,by dsimp only;rw[hn.1];exact q4,?_⟩
    dsimp only
    rw[overL_app,q5];dsimp only
    rw[if_neg (fun e=>hm'.2 e.symm)]
  · exact hI.pw.filter _
  · dsimp only;rw[hn.1,g0.2.2.1];omega
  · dsimp only;rw[hn.1,g0.2.2.2];omega
  · dsimp only;rw[hn.1,g1.2.2.1];omega
  · dsimp only;rw[hn.1,g1.2.2.2];omega
  · intro o hm
    rcases List.mem_append.1 hm with hm|hm
    · exact hI.ov o hm
    · simp at hm;subst hm;exact⟨d0,d8⟩
  · dsimp only
    rw[List.pairwise_append]
    refine⟨hI.ovp,by simp,fun x hx y hy=>?_⟩
    simp at hy;subst hy
    exact overL_none.1 ho x hx
theorem ShInv.fin{s:ShopS}(hI:ShInv s)(d:Int)(b:Bool):ShInv (endS s d b).1:=by
  rcases endS_cases s d b with ⟨e,_⟩|⟨d0,d8,ho,_⟩
  · rw[e];exact hI
  · exact (hI.end' d0 d8 ho).1
theorem newS_ok{no:Int}{ws:List Int}{s:ShopS}(h:newS no ws=some s):ShInv s∧s.no=no∧s.holds=[]∧s.over=[]∧s.c0=⟨ws.getD (no*2).toNat 0,0,0⟩∧s.c1=⟨ws.getD (no*2+1).toNat 0,0,0⟩:=by
  unfold newS at h
  split at h
  · cases h
  · split at h
    · cases h
    · split at h
      · cases h
      · rename_i h1 h2 h3
        cases h
        exact⟨⟨by dsimp only;omega,by dsimp only;omega,by simpa using h2,by simpa using h3,by simp,by simp,by simp[outH],by simp[inH],by simp[outH],by simp[inH],by simp,by simp⟩,rfl,rfl,rfl,rfl,rfl⟩
theorem nodup_le{α:Type}[DecidableEq α]:∀ {l L:List α},l.Nodup→(∀ x∈l,x∈L)→l.length≤L.length
  | [],_,_,_=>by simp
  | x::l,L,hn,hs=>by
    have hx:=hs x (by simp)
    rw[List.nodup_cons] at hn
    have:=nodup_le (l:=l) (L:=L.erase x) hn.2 (fun y hy=>by
      have hne:y≠x:=fun e=>hn.1 (by subst e;exact hy)
      rw[List.mem_erase_of_ne hne]
      exact hs y (by simp[hy]))
    rw[List.length_erase_of_mem hx] at this
    have:=List.length_pos_of_mem hx
    simp;omega
def deals8:List Int:=[0,1,2,3,4,5,6,7]
theorem deals8_mem{d:Int}(h:0≤d)(h8:d<8):d∈deals8:=by simp[deals8];omega
theorem ShInv.holds_le{s:ShopS}(hI:ShInv s):s.holds.length≤16:=by
  have hn:(s.holds.map fun h=>(h.deal,h.ctr)).Nodup:=by
    rw[List.nodup_iff_pairwise_ne,List.pairwise_map]
    exact hI.pw.imp fun h e=>h (by simpa[sameK] using e)
  have:=nodup_le (L:=deals8.flatMap fun d=>[(d,2*s.no),(d,2*s.no+1)]) hn (fun x hx=>by
    obtain⟨h,hm,rfl⟩:=List.mem_map.1 hx
    obtain⟨a,b,_,c,_⟩:=hI.h h hm
    rw[List.mem_flatMap]
    exact⟨h.deal,deals8_mem a b,by simpa using c⟩)
  simpa[deals8] using this
theorem ShInv.over_le{s:ShopS}(hI:ShInv s):s.over.length≤8:=by
  have hn:(s.over.map (·.deal)).Nodup:=by
    rw[List.nodup_iff_pairwise_ne,List.pairwise_map]
    exact hI.ovp
  have:=nodup_le (L:=deals8) hn (fun x hx=>by
    obtain⟨o,hm,rfl⟩:=List.mem_map.1 hx
    obtain⟨a,b⟩:=hI.ov o hm
    exact deals8_mem a b)
  simpa[deals8] using this
theorem holdS_1{s:ShopS}{d:Int}{w:Want}(h:d<0∨8≤d):holdS s d w=(s,1):=by unfold holdS;rw[if_pos h]
theorem holdS_2{s:ShopS}{d:Int}{w:Want}(h:¬ (d<0∨8≤d))(h2:wantF w≠0):holdS s d w=(s,wantF w):=by unfold holdS;rw[if_neg h,if_pos h2]
theorem holdS_3{s:ShopS}{d:Int}{w:Want}(h:¬ (d<0∨8≤d))(h2:wantF w=0)(h3:shopOf w.ctr≠s.no):holdS s d w=(s,1):=by unfold holdS;rw[if_neg h,if_neg (by omega),if_pos h3]
theorem holdS_4{s:ShopS}{d:Int}{w:Want}(h:¬ (d<0∨8≤d))(h2:wantF w=0)(h3:shopOf w.ctr=s.no)(h4:(overL s.over d).isSome=true):holdS s d w=(s,8):=by unfold holdS;rw[if_neg h,if_neg (by omega),if_neg (by omega),if_pos h4]
theorem holdS_5{s:ShopS}{d:Int}{w:Want}(h:¬ (d<0∨8≤d))(h2:wantF w=0)(h3:shopOf w.ctr=s.no)(h4:overL s.over d=none){c:Int}(h5:scanH s.holds ⟨d,w.ctr,w.dl⟩=some c):holdS s d w=(s,c):=by unfold holdS;rw[if_neg h,if_neg (by omega),if_neg (by omega),h4,if_neg (by simp),h5]
theorem holdS_6{s:ShopS}{d:Int}{w:Want}(h:¬ (d<0∨8≤d))(h2:wantF w=0)(h3:shopOf w.ctr=s.no)(h4:overL s.over d=none)(h5:scanH s.holds ⟨d,w.ctr,w.dl⟩=none)(h6:(hold (s.cnt (w.ctr % 2)) w.dl).2≠0):holdS s d w=(s,(hold (s.cnt (w.ctr % 2)) w.dl).2):=by
  unfold holdS;rw[if_neg h,if_neg (by omega),if_neg (by omega),h4,if_neg (by simp),h5];dsimp only;rw[if_pos h6]
theorem holdS_7 {s : ShopS} {d : Int} {w : Want} (h : ¬ (d < 0 ∨ 8 ≤ d)) (h2 : wantF w = 0) (h3 : shopOf w.ctr = s.no) (h4 : overL s.over d = none) (h5 : scanH s.holds ⟨d, w.ctr, w.dl⟩ = none) (h6 : (hold (s.cnt (w.ctr % 2)) w.dl).2 = 0) :
    holdS s d w = ({ s.set (w.ctr % 2) (hold (s.cnt (w.ctr % 2)) w.dl).1 with holds := s.holds ++ [⟨d, w.ctr, w.dl⟩] }, 0) := by
  unfold holdS;rw[if_neg h,if_neg (by omega),if_neg (by omega),h4,if_neg (by simp),h5];dsimp only;rw[if_neg (by omega)]
theorem scanH_at {l : List Hld} {h x : Hld} {i : Nat} (hI : scanH l h = scanH (l.drop i) h) (hx : l[i]? = some x) :
    (x = h → scanH l h = some 0) ∧ (x ≠ h → x.deal = h.deal → x.ctr = h.ctr → scanH l h = some 9) ∧ (¬ (x.deal = h.deal ∧ x.ctr = h.ctr) → scanH l h = scanH (l.drop (i + 1)) h) := by
  rw[drop_at hx] at hI
  simp only[scanH] at hI
  refine⟨fun e=>?_,fun e e1 e2=>?_,fun e=>?_⟩
  · rw[if_pos e] at hI;exact hI
  · rw[if_neg e,if_pos ⟨e1,e2⟩] at hI;exact hI
  · rw[if_neg (fun e'=>e (by subst e';exact⟨rfl,rfl⟩)),if_neg e] at hI;exact hI
def idxI{α:Type}(l:List α)(p:α→Bool):Int:=match l.findIdx? p with|some i=>i|none=>-1
def endI (l:List Ovr)(d:Int):Int:=idxI l fun o=>decide (o.deal=d)
theorem idxI_hit{α:Type}{l:List α}{p:α→Bool}{i:Nat}{a:α}(h:l[i]?=some a)(hp:p a=true)(hm:∀ j x,j<i→l[j]?=some x→p x=false):idxI l p=i:=by
  have:l.findIdx? p=some i:=by
    rw[List.findIdx?_eq_some_iff_getElem]
    obtain⟨hi,rfl⟩:=List.getElem?_eq_some_iff.1 h
    exact⟨hi,hp,fun j hj=>by rw[hm j _ hj (List.getElem?_eq_getElem (by omega))];simp⟩
  unfold idxI;rw[this]
theorem idxI_miss{α:Type}{l:List α}{p:α→Bool}(hm:∀ j x,j<l.length→l[j]?=some x→p x=false):idxI l p=-1:=by
  have:l.findIdx? p=none:=by
    rw[List.findIdx?_eq_none_iff]
    intro x hx
    obtain⟨i,hi,rfl⟩:=List.mem_iff_getElem.1 hx
    exact hm i _ hi (List.getElem?_eq_getElem hi)
  unfold idxI;rw[this]
theorem idx_step{α:Type}{l:List α}{p:α→Bool}{i:Nat}{a:α}(hI:∀ j x,j<i→l[j]?=some x→p x=false)(h:l[i]?=some a)(hp:p a=false):∀ j x,j<i+1→l[j]?=some x→p x=false:=by
  intro j x hj hx
  by_cases e:j=i
  · subst e;rw[h] at hx;cases hx;exact hp
  · exact hI j x (by omega) hx
theorem endI_cases (l:List Ovr)(d:Int):(endI l d=-1∧overL l d=none)∨∃ (i:Nat) (o:Ovr),endI l d=i∧l[i]?=some o∧o.deal=d∧overL l d=some o.done:=by
  induction l with
  | nil=>exact .inl ⟨rfl,rfl⟩
  | cons x l ih=>
    simp only[overL]
    by_cases h:x.deal=d
    · refine .inr ⟨0,x,?_,rfl,h,by rw[if_pos h]⟩
      unfold endI idxI;simp[List.findIdx?_cons,h]
    · rw[if_neg h]
      rcases ih with ⟨e,ho⟩|⟨i,o,e,h1,h2,h3⟩
      · refine .inl ⟨?_,ho⟩
        unfold endI idxI at e ⊢
        simp only[List.findIdx?_cons,h,decide_false,Bool.false_eq_true,if_false]
        cases hf:l.findIdx? (fun o=>decide (o.deal=d)) with
        | none=>rfl
        | some i=>rw[hf] at e;exfalso;have:(i:Int)=-1:=e;omega
      · refine .inr ⟨i+1,o,?_,by simpa using h1,h2,h3⟩
        unfold endI idxI at e ⊢
        simp only[List.findIdx?_cons,h,decide_false,Bool.false_eq_true,if_false]
        cases hf:l.findIdx? (fun o=>decide (o.deal=d)) with
        | none=>rw[hf] at e;exfalso;have:(-1:Int)=i:=e;omega
        | some j=>
          rw[hf] at e
          have e:(j:Int)=i:=e
          obtain rfl:j=i:=by omega
          simp
theorem endI_at{l:List Ovr}{d:Int}(h:0≤endI l d):∃ (i:Nat) (o:Ovr),endI l d=i∧l[i]?=some o∧overL l d=some o.done:=by
  rcases endI_cases l d with ⟨h',_⟩|⟨i,o,h1,h2,_,h4⟩
  · omega
  · exact⟨i,o,h1,h2,h4⟩
theorem endI_no{l:List Ovr}{d:Int}(h:¬ 0≤endI l d):overL l d=none:=by
  rcases endI_cases l d with ⟨_,h'⟩|⟨i,o,h1,_⟩
  · exact h'
  · omega
theorem foldE_app (d:Int)(b:Bool)(h:Hld):∀ (l:List Hld) (s:ShopS),foldE d b (l++[h]) s=if h.deal=d then (foldE d b l s).set (h.ctr % 2) (endc ((foldE d b l s).cnt (h.ctr % 2)) h.dl b).1 else foldE d b l s
  | [],s=>by simp[foldE]
  | x::l,s=>by simp only[List.cons_append,foldE];exact foldE_app d b h l _
theorem restH_app (d:Int)(l:List Hld)(h:Hld):restH d (l++[h])=restH d l++if h.deal=d then [] else [h]:=by
  unfold restH;rw[List.filter_append];congr 1
  by_cases e:h.deal=d<;>simp[e]
theorem endS_1{s:ShopS}{d:Int}{b:Bool}(h:d<0∨8≤d):endS s d b=(s,1):=by unfold endS;rw[if_pos h]
theorem endS_2{s:ShopS}{d:Int}{b was:Bool}(h:¬ (d<0∨8≤d))(ho:overL s.over d=some was):endS s d b=(s,if was=b then 0 else 9):=by unfold endS;rw[if_neg h,ho]
theorem endS_3{s:ShopS}{d:Int}{b:Bool}(h:¬ (d<0∨8≤d))(ho:overL s.over d=none):endS s d b=({foldE d b s.holds s with holds:=restH d s.holds,over:=s.over++[⟨d,b⟩]},0):=by unfold endS;rw[if_neg h,ho]
theorem restH_le (d:Int)(l:List Hld):(restH d l).length≤l.length:=List.length_filter_le _ _
end Go.Proofs.YtmakdilmibjpbaaGreatDoor
namespace Go.Proofs.YtmakdilmibjpbaaGreatDoor
open Go Go.RowKit
set_option linter.unusedVariables false
set_option linter.unusedSimpArgs false
theorem outH_take{l:List Hld}{i:Nat}{x:Hld}(h:l[i]?=some x)(c:Int):outH c (l.take (i+1))=outH c (l.take i)+(if x.ctr=c∧x.dl<0 then -x.dl else 0)∧inH c (l.take (i+1))=inH c (l.take i)+(if x.ctr=c∧¬ x.dl<0 then x.dl else 0):=by
  have e:l.take (i+1)=l.take i++[x]:=by rw[List.take_add_one,h];rfl
  rw[e,outH_app,inH_app];simp only[outH,inH];omega
theorem sumH_app (c d:Int)(l k:List Hld):sumH c d (l++k)=sumH c d l+sumH c d k:=by
  induction l with
  | nil=>simp[sumH]
  | cons x l ih=>simp only[List.cons_append,sumH,ih];omega
theorem sumH_take{l:List Hld}{i:Nat}{x:Hld}(h:l[i]?=some x)(c d:Int):sumH c d (l.take (i+1))=sumH c d (l.take i)+(if x.ctr=c∧x.deal=d then x.dl else 0):=by
  have e:l.take (i+1)=l.take i++[x]:=by rw[List.take_add_one,h];rfl
  rw[e,sumH_app];simp only[sumH];omega
theorem outH_le{l:List Hld}(h:∀ x∈l,-100≤x.dl∧x.dl≤100)(c:Int):outH c l≤100*l.length∧inH c l≤100*l.length:=by
  induction l with
  | nil=>simp[outH,inH]
  | cons x l ih=>
    have:=ih (fun y hy=>h y (by simp[hy]));have:=h x (by simp)
    simp only[outH,inH,List.length_cons];constructor<;>split<;>omega
theorem ShInv.dl{s:ShopS}(h:ShInv s):∀ x∈s.holds,-100≤x.dl∧x.dl≤100:=fun x hx=>by have:=dlt_ok (h.h x hx).2.2.1;omega
theorem sumH_le{l:List Hld}(h:∀ x∈l,-100≤x.dl∧x.dl≤100)(c d:Int):-(100*(l.length:Int))≤sumH c d l∧sumH c d l≤100*l.length:=by
  induction l with
  | nil=>simp[sumH]
  | cons x l ih=>
    have:=ih (fun y hy=>h y (by simp[hy]));have:=h x (by simp)
    simp only[sumH,List.length_cons];constructor<;>split<;>omega
end Go.Proofs.YtmakdilmibjpbaaGreatDoor
