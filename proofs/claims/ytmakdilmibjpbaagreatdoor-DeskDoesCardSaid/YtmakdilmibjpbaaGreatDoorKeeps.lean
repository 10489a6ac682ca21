/- A keeper, in plain Lean: records of what a shop did. No program in sight. Mail, in plain Lean, and how it lies. -/
import Derived.Test.YtmakdilmibjpbaaGreatDoorShopL
import Derived.Test.YtmakdilmibjpbaaGreatDoorWants
import Derived.Test.YtmakdilmibjpbaaGreatDoorFacts
namespace Go.Proofs.YtmakdilmibjpbaaGreatDoor
open Go Go.RowKit
set_option linter.unusedVariables false
set_option linter.unusedSimpArgs false
structure Rec where
  kind:Int
  deal:Int
  ctr:Int
  dl:Int
  done:Bool
  deriving DecidableEq
def recF (r:Rec):Int:=if (r.kind=1∧r.done=true)∨(r.kind=2∧(r.ctr≠0∨r.dl≠0)) then 2 else if r.kind≠1∧r.kind≠2 then 10 else 0
def doR (s:ShopS)(r:Rec):ShopS×Int:=if r.kind=1 then holdS s r.deal ⟨r.ctr,r.dl⟩ else if r.kind=2 then endS s r.deal r.done else (s,10)
def doC (s:ShopS)(r:Rec):ShopS×Int:=if recF r≠0 then (s,recF r) else doR s r
structure KeepS where
  no:Int
  ws:List Int
  shop:ShopS
  l:List Rec
def doK (k:KeepS)(r:Rec):KeepS×Int:=({k with shop:=(doC k.shop r).1,l:=if (doC k.shop r).2=0∧r∉k.l then k.l++[r] else k.l},(doC k.shop r).2)
def replayL:ShopS→List Rec→Int→Option ShopS×Flt
  | s,[],_=>(some s,⟨0,0⟩)
  | s,r::l,i=>if (doC s r).2≠0 then (none,⟨(doC s r).2,i⟩) else replayL (doC s r).1 l (i+1)
def replayS (no:Int)(ws:List Int)(l:List Rec):Option ShopS×Flt:=match newS no ws with
  | none=>(none,⟨1,-1⟩)
  | some s=>replayL s l 0
def newK (no:Int)(ws:List Int):Option KeepS:=(newS no ws).map fun s=>⟨no,ws,s,[]⟩
def crashK (k:KeepS):KeepS:=match (replayS k.no k.ws k.l).1 with|some s=>{k with shop:=s}|none=>k
def recOk (s:ShopS)(r:Rec):Prop:=(r.kind=1∧r.done=false∧0≤r.deal∧r.deal<8∧(r.ctr=2*s.no∨r.ctr=2*s.no+1)∧((overL s.over r.deal).isSome=true∨(⟨r.deal,r.ctr,r.dl⟩:Hld)∈s.holds))∨
  (r.kind=2∧r.ctr=0∧r.dl=0∧0≤r.deal∧r.deal<8∧overL s.over r.deal=some r.done)
def sameR (x y:Rec):Prop:=x.kind=y.kind∧x.deal=y.deal∧x.ctr=y.ctr
structure KInv (k:KeepS):Prop where
  sh:ShInv k.shop
  no:k.shop.no=k.no
  rep:∃ s0,newS k.no k.ws=some s0∧replayL s0 k.l 0=(some k.shop,⟨0,0⟩)
  ok:∀ r∈k.l,recOk k.shop r
  pw:k.l.Pairwise fun x y=>¬ sameR x y
  hs:∀ h∈k.shop.holds,(⟨1,h.deal,h.ctr,h.dl,false⟩:Rec)∈k.l
  ov:∀ d b,overL k.shop.over d=some b→(⟨2,d,0,0,b⟩:Rec)∈k.l
theorem recF_ok{r:Rec}(h:recF r=0):(r.kind=1∧r.done=false)∨(r.kind=2∧r.ctr=0∧r.dl=0):=by
  unfold recF at h
  split at h
  · cases h
  · rename_i h1
    split at h
    · cases h
    · rename_i h2
      by_cases hk:r.kind=1
      · refine .inl ⟨hk,?_⟩
        cases hd:r.done with
        | false=>rfl
        | true=>exact absurd (.inl ⟨hk,hd⟩) h1
      · refine .inr ⟨by omega,?_⟩
        have:r.kind=2:=by omega
        constructor
        · by_cases e:r.ctr=0
          · exact e
          · exact absurd (.inr ⟨this,.inl e⟩) h1
        · by_cases e:r.dl=0
          · exact e
          · exact absurd (.inr ⟨this,.inr e⟩) h1
theorem replayL_app (l k:List Rec):∀ (s:ShopS) (i:Int),replayL s (l++k) i=match replayL s l i with|(some s',⟨0,0⟩)=>replayL s' k (i+l.length)|x=>x:=by
  induction l with
  | nil=>intro s i;simp[replayL]
  | cons r l ih=>
    intro s i
    simp only[List.cons_append,replayL]
    split
    · rfl
    · rw[ih];simp only[List.length_cons];rw[show i+1+(l.length:Int)=i+((l.length+1:Nat):Int) by omega]
theorem ShInv.doc{s:ShopS}(h:ShInv s)(r:Rec):ShInv (doC s r).1:=by
  unfold doC
  split
  · exact h
  · unfold doR
    split
    · exact h.hld _ _
    · split
      · exact h.fin _ _
      · exact h
theorem doC_err{s:ShopS}{r:Rec}(h:(doC s r).2≠0):(doC s r).1=s:=by
  unfold doC at h ⊢
  split
  · rfl
  · rename_i h1
    rw[if_neg h1] at h
    unfold doR at h ⊢
    split
    · rename_i h2
      rw[if_pos h2] at h
      rcases holdS_cases s r.deal ⟨r.ctr,r.dl⟩ with ⟨_,e⟩|⟨e,_⟩
      · exact e
      · exact absurd e h
    · rename_i h2
      rw[if_neg h2] at h
      split
      · rename_i h3
        rw[if_pos h3] at h
        rcases endS_cases s r.deal r.done with ⟨e,_⟩|⟨_,_,_,e⟩
        · exact e
        · rw[e] at h;exact absurd rfl h
      · rfl
theorem doC_ok {s : ShopS} {r : Rec} (h : (doC s r).2 = 0) :
    (r.kind = 1 ∧ r.done = false ∧ doC s r = holdS s r.deal ⟨r.ctr, r.dl⟩) ∨ (r.kind = 2 ∧ r.ctr = 0 ∧ r.dl = 0 ∧ doC s r = endS s r.deal r.done) := by
  unfold doC at h ⊢
  by_cases h1:recF r≠0
  · rw[if_pos h1] at h;exact absurd h h1
  · rw[if_neg h1] at h ⊢
    rcases recF_ok (r:=r) (by omega) with ⟨hk,hd⟩|⟨hk,h2,h3⟩
    · exact .inl ⟨hk,hd,by unfold doR;rw[if_pos hk]⟩
    · exact .inr ⟨hk,h2,h3,by unfold doR;rw[if_neg (by omega),if_pos hk]⟩
theorem KInv.new{no:Int}{ws:List Int}{k:KeepS}(h:newK no ws=some k):KInv k∧k.no=no∧k.ws=ws∧k.l=[]∧newS no ws=some k.shop:=by
  unfold newK at h
  cases hs:newS no ws with
  | none=>rw[hs] at h;cases h
  | some s=>
    rw[hs] at h
    cases h
    obtain⟨h1,h2,h3,h4,_,_⟩:=newS_ok hs
    refine⟨⟨h1,h2,⟨s,hs,rfl⟩,by simp,by simp,fun h hm=>?_,fun d b ho=>?_⟩,rfl,rfl,rfl,rfl⟩
    · dsimp only at hm;rw[h3] at hm;cases hm
    · dsimp only at ho;rw[h4] at ho;cases ho
theorem KInv.again{k:KeepS}(hI:KInv k){r:Rec}(h:(doC k.shop r).2=0)(hm:r∈k.l):(doC k.shop r).1=k.shop:=by
  rcases doC_ok h with ⟨hk,hd,e⟩|⟨hk,h2,h3,e⟩
  · rw[e] at h ⊢
    rcases holdS_cases k.shop r.deal ⟨r.ctr,r.dl⟩ with ⟨e2,_⟩|⟨_,_,_,_,_,ho,hc⟩
    · exact absurd h e2
    · rcases hc with ⟨_,e⟩|⟨hn,_⟩
      · exact e
      · exfalso
        rcases hI.ok r hm with ⟨_,_,_,_,_,h4⟩|⟨h4,_⟩
        · rcases h4 with h4|h4
          · rw[ho] at h4;cases h4
          · exact hn _ h4 ⟨rfl,rfl⟩
        · omega
  · rw[e] at h ⊢
    rcases endS_cases k.shop r.deal r.done with ⟨e,_⟩|⟨_,_,ho,_⟩
    · exact e
    · exfalso
      rcases hI.ok r hm with ⟨h4,_⟩|⟨_,_,_,_,_,h4⟩
      · omega
      · rw[ho] at h4;cases h4
theorem KInv.step{k:KeepS}(hI:KInv k)(r:Rec):KInv (doK k r).1:=by
  by_cases h:(doC k.shop r).2=0
  · by_cases hm:r∈k.l
    · have e : (doK k r).1 = k := by
        simp only [doK, hI.again h hm, hm, not_true_eq_false, and_false, if_false]
      rw[e];exact hI
    · have e : (doK k r).1 = { k with shop := (doC k.shop r).1, l := k.l ++ [r] } := by
        simp only [doK]; rw [if_pos ⟨h, hm⟩]
      rw[e]
      obtain⟨s0,hs0,hrep⟩:=hI.rep
      have hrep':replayL s0 (k.l++[r]) 0=(some (doC k.shop r).1,⟨0,0⟩):=by
        rw[replayL_app,hrep]
        show (if (doC k.shop r).2≠0 then _ else _)=_
        rw[if_neg (by omega)];rfl
      have hpw:(∀ y∈k.l,¬ sameR y r)→(k.l++[r]).Pairwise fun x y=>¬ sameR x y:=fun hy=>by
        rw[List.pairwise_append]
        exact⟨hI.pw,by simp,fun x hx y hy'=>by simp at hy';subst hy';exact hy x hx⟩
      have hsh:=hI.sh.doc r
      rcases doC_ok h with ⟨hk,hd,e⟩|⟨hk,h2,h3,e⟩
      · rcases holdS_cases k.shop r.deal ⟨r.ctr,r.dl⟩ with ⟨e2,_⟩|⟨_,d0,d8,hw,hs,ho,hc⟩
        · rw[e] at h;exact absurd h e2
        · obtain⟨n0,n3,hctr,hdl⟩:=want_ctr hw hs
          have hrr:(⟨1,r.deal,r.ctr,r.dl,false⟩:Rec)=r:=by cases r;simp_all
          rcases hc with ⟨hin,e3⟩|⟨hn,_,e3⟩
          · exact absurd (hrr▸hI.hs _ hin) hm
          · have q1:(doC k.shop r).1.no=k.shop.no:=by rw[e,e3];exact ShopS.set_no _ _ _
            have q2:(doC k.shop r).1.over=k.shop.over:=by rw[e,e3];exact ShopS.set_over _ _ _
            have q3:(doC k.shop r).1.holds=k.shop.holds++[⟨r.deal,r.ctr,r.dl⟩]:=by rw[e,e3]
            refine⟨hsh,q1.trans hI.no,⟨s0,hs0,hrep'⟩,fun x hx=>?_,hpw fun y hy hsame=>?_,fun h hh=>?_,fun d b hb=>?_⟩
            · unfold recOk;dsimp only
              rw[q1,q2,q3]
              rcases List.mem_append.1 hx with hx|hx
              · rcases hI.ok x hx with ⟨a1,a2,a3,a4,a5,a6⟩|a
                · exact .inl ⟨a1,a2,a3,a4,a5,a6.imp id fun m=>List.mem_append_left _ m⟩
                · exact .inr a
              · simp at hx;subst hx
                exact .inl ⟨hk,hd,d0,d8,hctr,.inr (by simp)⟩
            · rcases hI.ok y hy with ⟨_,_,_,_,_,a⟩|⟨a,_⟩
              · rcases a with a|a
                · rw[hsame.2.1,ho] at a;cases a
                · exact hn _ a ⟨hsame.2.1,hsame.2.2⟩
              · have:=hsame.1;omega
            · dsimp only at hh;rw[q3] at hh
              rcases List.mem_append.1 hh with hh|hh
              · exact List.mem_append_left _ (hI.hs h hh)
              · simp at hh;subst hh;simp[hrr]
            · dsimp only at hb;rw[q2] at hb
              exact List.mem_append_left _ (hI.ov d b hb)
      · have hrr:(⟨2,r.deal,0,0,r.done⟩:Rec)=r:=by cases r;simp_all
        rcases endS_cases k.shop r.deal r.done with ⟨_,e2,_⟩|⟨d0,d8,ho,e2⟩
        · rw[e] at h
          exact absurd (hrr▸hI.ov _ _ (e2.1 h).2.2) hm
        · obtain⟨_,_,q1,q3,q2,_⟩:=hI.sh.end' (b:=r.done) d0 d8 ho
          rw[← e] at q1 q2 q3
          refine⟨hsh,q1.trans hI.no,⟨s0,hs0,hrep'⟩,fun x hx=>?_,hpw fun y hy hsame=>?_,fun h hh=>?_,fun d b hb=>?_⟩
          · unfold recOk;dsimp only
            rw[q1,q2,q3]
            rcases List.mem_append.1 hx with hx|hx
            · rcases hI.ok x hx with ⟨a1,a2,a3,a4,a5,a6⟩|⟨a1,a2,a3,a4,a5,a6⟩
              · refine .inl ⟨a1,a2,a3,a4,a5,?_⟩
                by_cases hd:x.deal=r.deal
                · refine .inl ?_
                  rw[overL_app];split
                  · rfl
                  · simp[hd]
                · rcases a6 with a6|a6
                  · refine .inl ?_
                    rw[overL_app];split
                    · rfl
                    · rename_i hno;rw[hno] at a6;cases a6
                  · exact .inr (by simp[restH,a6,hd])
              · refine .inr ⟨a1,a2,a3,a4,a5,?_⟩
                rw[overL_app,a6]
            · simp at hx;subst hx
              refine .inr ⟨hk,h2,h3,d0,d8,?_⟩
              rw[overL_app,ho];simp
          · rcases hI.ok y hy with ⟨a,_⟩|⟨_,_,_,_,_,a⟩
            · have:=hsame.1;omega
            · rw[hsame.2.1,ho] at a;cases a
          · dsimp only at hh;rw[q3] at hh
            exact List.mem_append_left _ (hI.hs h (List.mem_filter.1 hh).1)
          · dsimp only at hb;rw[q2,overL_app] at hb
            split at hb
            · rename_i b' hb';cases hb;exact List.mem_append_left _ (hI.ov d b hb')
            · split at hb
              · rename_i hd;cases hb;subst hd
                exact List.mem_append_right _ (by simp[hrr])
              · cases hb
  · have e : (doK k r).1 = k := by
      simp only [doK, doC_err h, h, false_and, if_false]
    rw[e];exact hI
theorem KInv.crash{k:KeepS}(hI:KInv k):crashK k=k∧replayS k.no k.ws k.l=(some k.shop,⟨0,0⟩):=by
  obtain⟨s0,h1,h2⟩:=hI.rep
  have:replayS k.no k.ws k.l=(some k.shop,⟨0,0⟩):=by unfold replayS;rw[h1];exact h2
  refine⟨?_,this⟩
  unfold crashK;rw[this]
theorem KInv.l_le{k:KeepS}(hI:KInv k):k.l.length≤40:=by
  have hn:(k.l.map fun r=>(r.kind,r.deal,r.ctr)).Nodup:=by
    rw[List.nodup_iff_pairwise_ne,List.pairwise_map]
    exact hI.pw.imp fun h e=>h (by simpa[sameR] using e)
  have:=nodup_le (L:=(deals8.flatMap fun d=>[((1:Int),d,2*k.shop.no),(1,d,2*k.shop.no+1)])++deals8.map fun d=>(2,d,0)) hn (fun x hx=>by
    obtain⟨r,hm,rfl⟩:=List.mem_map.1 hx
    rw[List.mem_append]
    rcases hI.ok r hm with ⟨a1,_,a3,a4,a5,_⟩|⟨a1,a2,_,a4,a5,_⟩
    · refine .inl (List.mem_flatMap.2 ⟨r.deal,deals8_mem a3 a4,?_⟩)
      simpa[a1] using a5
    · exact .inr (List.mem_map.2 ⟨r.deal,deals8_mem a4 a5,by simp[a1,a2]⟩))
  have h2:((deals8.flatMap fun d=>[((1:Int),d,2*k.shop.no),(1,d,2*k.shop.no+1)])++deals8.map fun d=>(2,d,0)).length=24:=by simp[deals8]
  rw[List.length_map,h2] at this;omega
theorem doK_1{k:KeepS}{r:Rec}(h:recF r≠0):doK k r=(k,recF r):=by
  have e:doC k.shop r=(k.shop,recF r):=by unfold doC;rw[if_pos h]
  unfold doK;rw[e];dsimp only;rw[if_neg (fun q=>h q.1)]
theorem doK_2{k:KeepS}{r:Rec}(h:recF r=0)(h0:(doR k.shop r).2=0)(hm:r∉k.l):doK k r=({k with shop:=(doR k.shop r).1,l:=k.l++[r]},(doR k.shop r).2):=by
  have e:doC k.shop r=doR k.shop r:=by unfold doC;rw[if_neg (by omega)]
  unfold doK;rw[e,if_pos ⟨h0,hm⟩]
theorem doK_3{k:KeepS}{r:Rec}(h:recF r=0)(h0:(doR k.shop r).2=0→r∉k.l→False):doK k r=({k with shop:=(doR k.shop r).1},(doR k.shop r).2):=by
  have e:doC k.shop r=doR k.shop r:=by unfold doC;rw[if_neg (by omega)]
  unfold doK;rw[e,if_neg (fun q=>h0 q.1 q.2)]
end Go.Proofs.YtmakdilmibjpbaaGreatDoor
namespace Go.Proofs.YtmakdilmibjpbaaGreatDoor
open Go Go.RowKit
set_option linter.unusedVariables false
set_option maxRecDepth 20000
structure Mail where
  kind:Int
  deal:Int
  shop:Int
  ctr:Int
  dl:Int
  yes:Bool
  deriving DecidableEq
def Mail.z:Mail:=⟨0,0,0,0,0,false⟩
def rM (m:Mail):List Value:=[.int .i64 m.kind,.int .i64 m.deal,.int .i64 m.shop,.int .i64 m.ctr,.int .i64 m.dl,.bool m.yes]
def vM (m:Mail):Value:=.agg (rM m).toArray
end Go.Proofs.YtmakdilmibjpbaaGreatDoor
