/- Heaps in parts: heaps that are known in part, lists of parts that lie apart, what a world owns; entailment and selection. No program in sight. The engine: frames by what is known of their slots, owned heaps, a stack of what is still to run; one law a form of code and a kind of operation. For whatever program P. The engine's laws on memory: loads, stores, new variables, slices, append, calls, returns, regions whose order is drawn. -/
import Derived.WalkKit
import Derived.Deep.LoopGhost
namespace Go.Proofs.YtmakdilmibjpbaaGreatDoor
open Go Go.RowKit
abbrev Hp:=Nat→Option Obj
def HP:=Hp→Prop
structure Amb where
  B:Nat
  w0:World
def Hp.emp:Hp:=fun _=>Option.none
def Hp.un (a b:Hp):Hp:=fun k=>match a k with|some o=>some o|Option.none=>b k
def Hp.dj (a b:Hp):Prop:=∀ k,a k=Option.none∨b k=Option.none
def Hp.sub (a b:Hp):Prop:=∀ k o,a k=some o→b k=some o
def sep:List HP→HP
  | []=>fun h=>h=Hp.emp
  | X::L=>fun h=>∃ a b,X a∧sep L b∧a.dj b∧h=a.un b
theorem Hp.un_some{a b:Hp}{k:Nat}{o:Obj}(h:a.un b k=some o):a k=some o∨(a k=Option.none∧b k=some o):=by
  unfold Hp.un at h;split at h
  · rename_i x hx;exact .inl (by rw[hx,h])
  · rename_i hx;exact .inr ⟨hx,h⟩
theorem Hp.un_l{a b:Hp}{k:Nat}{o:Obj}(h:a k=some o):a.un b k=some o:=by simp[Hp.un,h]
theorem Hp.un_r{a b:Hp}(hd:a.dj b){k:Nat}{o:Obj}(h:b k=some o):a.un b k=some o:=by
  rcases hd k with h'|h'
  · simp[Hp.un,h',h]
  · rw[h] at h';cases h'
theorem Hp.un_none{a b:Hp}{k:Nat}:a.un b k=Option.none↔a k=Option.none∧b k=Option.none:=by
  unfold Hp.un;cases a k<;>simp
theorem Hp.dj_sub{a a' b b':Hp}(h:a.dj b)(ha:a'.sub a)(hb:b'.sub b):a'.dj b':=by
  intro k
  cases h1:a' k with
  | none=>exact .inl rfl
  | some o=>
    refine .inr ?_
    cases h2:b' k with
    | none=>rfl
    | some p=>
      rcases h k with h3|h3
      · rw[ha k o h1] at h3;cases h3
      · rw[hb k p h2] at h3;cases h3
theorem Hp.dj_symm{a b:Hp}(h:a.dj b):b.dj a:=fun k=>(h k).symm
theorem Hp.sub_refl (a:Hp):a.sub a:=fun _ _ h=>h
theorem Hp.sub_trans{a b c:Hp}(h:a.sub b)(h':b.sub c):a.sub c:=fun k o hk=>h' k o (h k o hk)
theorem Hp.sub_un_l (a b:Hp):a.sub (a.un b):=fun _ _ h=>Hp.un_l h
theorem Hp.sub_un_r{a b:Hp}(hd:a.dj b):b.sub (a.un b):=fun _ _ h=>Hp.un_r hd h
theorem Hp.un_sub{a b c:Hp}(ha:a.sub c)(hb:b.sub c):(a.un b).sub c:=fun k o h=>by
  rcases Hp.un_some h with h|⟨_,h⟩
  · exact ha k o h
  · exact hb k o h
theorem Hp.dj_un{a b c:Hp}(h1:a.dj b)(h2:a.dj c):a.dj (b.un c):=fun k=>by
  rcases h1 k with h|h
  · exact .inl h
  · rcases h2 k with h'|h'
    · exact .inl h'
    · exact .inr (Hp.un_none.2 ⟨h,h'⟩)
def Ent (H H':List HP):Prop:=∀ h,sep H h→∃ h',sep H' h'∧h'.sub h
theorem Ent.rfl{H:List HP}:Ent H H:=fun h hh=>⟨h,hh,Hp.sub_refl h⟩
theorem Ent.tr{A B C:List HP}(h:Ent A B)(k:Ent B C):Ent A C:=fun x hx=>
  let ⟨y,hy,s⟩:=h x hx;let ⟨z,hz,t⟩:=k y hy;⟨z,hz,Hp.sub_trans t s⟩
theorem Ent.drop{X:HP}{R:List HP}:Ent (X::R) R:=fun _ ⟨_,b,_,hb,hd,e⟩=>⟨b,hb,e▸Hp.sub_un_r hd⟩
theorem Ent.dropR{X:HP}{R R':List HP}(h:Ent R R'):Ent (X::R) R':=Ent.tr Ent.drop h
theorem Ent.mono{X:HP}{R R':List HP}(h:Ent R R'):Ent (X::R) (X::R'):=fun _ ⟨a,b,ha,hb,hd,e⟩=>
  let ⟨b',hb',s⟩:=h b hb
  ⟨a.un b',⟨a,b',ha,hb',Hp.dj_sub hd (Hp.sub_refl a) s,_root_.rfl⟩,e▸Hp.un_sub (Hp.sub_un_l a b) (Hp.sub_trans s (Hp.sub_un_r hd))⟩
theorem Ent.swap{X Y:HP}{R:List HP}:Ent (Y::X::R) (X::Y::R):=fun _ ⟨a,b,ha,⟨c,d,hc,hd,hcd,eb⟩,hab,e⟩=>by
  subst eb;subst e
  have hac:a.dj c:=Hp.dj_sub hab (Hp.sub_refl a) (Hp.sub_un_l c d)
  have had:a.dj d:=Hp.dj_sub hab (Hp.sub_refl a) (Hp.sub_un_r hcd)
  refine⟨c.un (a.un d),⟨c,a.un d,hc,⟨a,d,ha,hd,had,_root_.rfl⟩,Hp.dj_un (Hp.dj_symm hac) hcd,_root_.rfl⟩,?_⟩
  have s2:(c.un d).sub (a.un (c.un d)):=Hp.sub_un_r hab
  exact Hp.un_sub (Hp.sub_trans (Hp.sub_un_l c d) s2) (Hp.un_sub (Hp.sub_un_l a _) (Hp.sub_trans (Hp.sub_un_r hcd) s2))
theorem Ent.h{X:HP}{R:List HP}:Ent (X::R) (X::R):=Ent.rfl
theorem Ent.t{X Y:HP}{R R':List HP}(h:Ent R (X::R')):Ent (Y::R) (X::Y::R'):=Ent.tr (Ent.mono h) Ent.swap
theorem Ent.c{X:HP}{H R L:List HP}(h:Ent H (X::R))(k:Ent R L):Ent H (X::L):=Ent.tr h (Ent.mono k)
theorem Ent.imp{X Y:HP}{R:List HP}(h:∀ x,X x→Y x):Ent (X::R) (Y::R):=fun _ ⟨a,b,ha,r⟩=>⟨_,⟨a,b,h a ha,r⟩,Hp.sub_refl _⟩
theorem sep_app{A B:List HP}{h:Hp}:sep (A++B) h→∃ a b,sep A a∧sep B b∧a.dj b∧h=a.un b:=by
  induction A generalizing h with
  | nil=>intro hh;exact⟨Hp.emp,h,_root_.rfl,hh,fun _=>.inl _root_.rfl,funext fun _=>_root_.rfl⟩
  | cons X A ih=>
    rintro⟨a,b,ha,hb,hd,e⟩
    obtain⟨c,d,hc,hdd,hcd,eb⟩:=ih hb
    subst eb;subst e
    refine⟨a.un c,d,⟨a,c,ha,hc,Hp.dj_sub hd (Hp.sub_refl a) (Hp.sub_un_l c d),_root_.rfl⟩,hdd,?_,?_⟩
    · exact Hp.dj_symm (Hp.dj_un (Hp.dj_symm (Hp.dj_sub hd (Hp.sub_refl a) (Hp.sub_un_r hcd))) (Hp.dj_symm hcd))
    · funext k;unfold Hp.un;cases a k<;>simp
theorem sep_app'{A B:List HP}{a b:Hp}(ha:sep A a)(hb:sep B b)(hd:a.dj b):sep (A++B) (a.un b):=by
  induction A generalizing a with
  | nil=>cases (show a=Hp.emp from ha);exact (show sep B (Hp.un Hp.emp b) from hb)
  | cons X A ih=>
    obtain⟨x,y,hx,hy,hxy,e⟩:=ha
    subst e
    refine⟨x,y.un b,hx,ih hy (Hp.dj_sub hd (Hp.sub_un_r hxy) (Hp.sub_refl b)),Hp.dj_un hxy (Hp.dj_sub hd (Hp.sub_un_l x y) (Hp.sub_refl b)),?_⟩
    funext k;unfold Hp.un;cases x k<;>simp
theorem Ent.app{A A' B:List HP}(h:Ent A A'):Ent (A++B) (A'++B):=fun x hx=>by
  obtain⟨a,b,ha,hb,hd,e⟩:=sep_app hx
  obtain⟨a',ha',s⟩:=h a ha
  subst e
  exact⟨a'.un b,sep_app' ha' hb (Hp.dj_sub hd s (Hp.sub_refl b)),Hp.un_sub (Hp.sub_trans s (Hp.sub_un_l a b)) (Hp.sub_un_r hd)⟩
def ex{α:Type}(F:α→HP):HP:=fun h=>∃ x,F x h
def box (L:List HP):HP:=sep L
def blk (b:Nat)(cs:List Value)(T:TypeId):HP:=fun h=>h=fun k=>if k=b then some (.cells cs.toArray T (0,0)) else Option.none
def RowsOk (sz:Nat)(rows:List (List Value)):Prop:=∀ r∈rows,r.length=sz∧∀ v∈r,v.oneCell'=true
def arr (g:Nat)(E:TypeId)(sz:Nat)(rows:List (List Value))(cap:Nat):HP:=fun h=>
  ∃ sp:List Value,blk g (rows.flatten++sp) E h∧RowsOk sz rows∧rows.length≤cap∧cap≤maxLen∧(rows.flatten++sp).length=cap*sz
def sl (v:Value)(E:TypeId)(sz:Nat)(rows:List (List Value)):HP:=fun h=>
  (v=.slice Option.none 0 0∧rows=[]∧h=Hp.emp)∨∃ g cap,v=.slice (some ⟨g,0,Option.none⟩) rows.length cap∧arr g E sz rows cap h
structure Own (M:Amb)(H:List HP)(w:World):Prop where
  below:Below M.B M.w0 w
  size:M.B≤w.heap.size
  ex:∃ h,sep H h∧∀ k o,h k=some o→M.B≤k∧w.heap[k]?=some o
variable{M:Amb}{H H' R:List HP}{w w':World}
theorem Own.ent (o:Own M H w)(h:Ent H H'):Own M H' w:=
  ⟨o.below,o.size,let ⟨x,hx,hs⟩:=o.ex;let ⟨y,hy,s⟩:=h x hx;⟨y,hy,fun k ob hk=>hs k ob (s k ob hk)⟩⟩
theorem Own.start (w:World):Own ⟨w.heap.size,w⟩ [] w:=⟨Below.refl _ _,Nat.le_refl _,Hp.emp,_root_.rfl,fun _ _ h=>by cases h⟩
theorem Own.blk{b:Nat}{cs:List Value}{T:TypeId}(o:Own M (blk b cs T::R) w):M.B≤b∧w.heap[b]?=some (.cells cs.toArray T (0,0)):=by
  obtain⟨h,⟨a,c,ha,_,_,e⟩,hs⟩:=o.ex
  have ha':a=fun k=>if k=b then some (.cells cs.toArray T (0,0)) else Option.none:=ha
  subst e
  exact hs b _ (Hp.un_l (by rw[ha'];simp))
theorem Own.cell{b:Nat}{cs:List Value}{T:TypeId}(o:Own M (Go.Proofs.YtmakdilmibjpbaaGreatDoor.blk b cs T::R) w)(i:Nat):w.cell? ⟨b,i,Option.none⟩=cs[i]?:=by
  simp[World.cell?,o.blk.2]
theorem Own.drawn (o:Own M H w)(n:Nat):Own M H {w with drawn:=n}:=⟨⟨o.below.os,o.below.tape,o.below.output,o.below.size,o.below.block⟩,o.size,o.ex⟩
theorem Own.alloc (o:Own M H w)(cs:List Value)(T:TypeId):Own M (Go.Proofs.YtmakdilmibjpbaaGreatDoor.blk w.heap.size cs T::H) (w.alloc (.cells cs.toArray T)):=by
  obtain⟨h,hh,hs⟩:=o.ex
  have hlt:∀ k ob,h k=some ob→k<w.heap.size:=fun k ob hk=>(Array.getElem?_eq_some_iff.1 (hs k ob hk).2).1
  refine⟨o.below.alloc o.size _,by simp;have:=o.size;omega,_,⟨_,h,_root_.rfl,hh,fun k=>?_,_root_.rfl⟩,fun k ob hk=>?_⟩
  · by_cases e:k=w.heap.size
    · refine .inr ?_
      cases hk:h k with
      | none=>rfl
      | some ob=>have:=hlt k ob hk;omega
    · exact .inl (by simp[e])
  · rcases Hp.un_some hk with hk|⟨_,hk⟩
    · by_cases e:k=w.heap.size
      · subst e;simp at hk;subst hk
        exact⟨o.size,heap_alloc_new w _⟩
      · simp[e] at hk
    · exact⟨(hs k ob hk).1,(heap_alloc_old w _ (hlt k ob hk)).trans (hs k ob hk).2⟩
theorem Own.upd {X X' : HP} (o : Own M (X :: R) w)
    (hX : ∀ a, X a → (∀ k ob, a k = some ob → M.B ≤ k ∧ w.heap[k]? = some ob) → ∃ a', X' a' ∧ (∀ k ob, a' k = some ob → (a k ≠ Option.none ∨ w.heap.size ≤ k) ∧ w'.heap[k]? = some ob) ∧ (∀ k, k < w.heap.size → a k = Option.none → w'.heap[k]? = w.heap[k]?))
    (hsize : w.heap.size ≤ w'.heap.size) (hos : w'.os = w.os) (htape : w'.tape = w.tape) (hout : w'.output = w.output) : Own M (X' :: R) w' := by
  obtain⟨h,⟨a,c,ha,hc,hd,e⟩,hs⟩:=o.ex
  subst e
  have hsa:∀ k ob,a k=some ob→M.B≤k∧w.heap[k]?=some ob:=fun k ob hk=>hs k ob (Hp.un_l hk)
  have hsc:∀ k ob,c k=some ob→M.B≤k∧w.heap[k]?=some ob:=fun k ob hk=>hs k ob (Hp.un_r hd hk)
  obtain⟨a',ha',h1,h2⟩:=hX a ha hsa
  have hlt:∀ k ob,c k=some ob→k<w.heap.size:=fun k ob hk=>(Array.getElem?_eq_some_iff.1 (hsc k ob hk).2).1
  have hB:=o.size
  refine⟨o.below.trans ⟨hos,htape,hout,hsize,fun k hk=>h2 k (by omega) ?_⟩,by omega,a'.un c,⟨a',c,ha',hc,fun k=>?_,_root_.rfl⟩,fun k ob hk=>?_⟩
  · cases hk':a k with
    | none=>rfl
    | some ob=>have:=(hsa k ob hk').1;omega
  · cases hk:a' k with
    | none=>exact .inl _root_.rfl
    | some ob=>
      refine .inr ?_
      cases hck:c k with
      | none=>rfl
      | some oc=>
        exfalso
        rcases (h1 k ob hk).1 with hn|hn
        · rcases hd k with h|h
          · exact hn h
          · rw[hck] at h;cases h
        · have:=hlt k oc hck;omega
  · rcases Hp.un_some hk with hk|⟨_,hk⟩
    · refine⟨?_,(h1 k ob hk).2⟩
      rcases (h1 k ob hk).1 with hn|hn
      · cases hk':a k with
        | none=>exact absurd hk' hn
        | some ob=>exact (hsa k ob hk').1
      · omega
    · refine⟨(hsc k ob hk).1,(h2 k (hlt k ob hk) ?_).trans (hsc k ob hk).2⟩
      rcases hd k with h|h
      · exact h
      · rw[hk] at h;cases h
theorem Own.put {b : Nat} {cs cs' : List Value} {T T' : TypeId} (o : Own M (Go.Proofs.YtmakdilmibjpbaaGreatDoor.blk b cs T :: R) w) (hb : w'.heap[b]? = some (.cells cs'.toArray T' (0, 0)))
    (hk : ∀ k, k < w.heap.size → k ≠ b → w'.heap[k]? = w.heap[k]?) (hsize : w.heap.size ≤ w'.heap.size) (hos : w'.os = w.os) (htape : w'.tape = w.tape) (hout : w'.output = w.output) :
    Own M (Go.Proofs.YtmakdilmibjpbaaGreatDoor.blk b cs' T' :: R) w' := by
  refine o.upd (fun a ha _=>⟨_,_root_.rfl,fun k ob hk'=>?_,fun k hlt hn=>?_⟩) hsize hos htape hout
  · have ha':a=fun k=>if k=b then some (.cells cs.toArray T (0,0)) else Option.none:=ha
    by_cases e:k=b
    · subst e;simp at hk';subst hk'
      exact⟨.inl (by rw[ha'];simp),hb⟩
    · simp[e] at hk'
  · have ha':a=fun k=>if k=b then some (.cells cs.toArray T (0,0)) else Option.none:=ha
    refine hk k hlt fun e=>?_
    subst e;rw[ha'] at hn;simp at hn
end Go.Proofs.YtmakdilmibjpbaaGreatDoor
namespace Go.Proofs.YtmakdilmibjpbaaGreatDoor
open Go Go.RowKit
abbrev Env:=List (Nat×Bool×Value)
theorem beq_ne{d t:Nat}(e:¬d=t):Nat.beq d t=false:=by
  cases h:Nat.beq d t with
  | false=>rfl
  | true=>exact absurd (Nat.eq_of_beq_eq_true h) e
def look:Env→Nat→Option (Bool×Value)
  | [],_=>Option.none
  | (t',x)::e,t=>cond (Nat.beq t' t) (some x) (look e t)
structure Fits (N:Nat)(env:Env)(a:Act):Prop where
  dfr:a.defers=[]
  sz:a.tmps.size=N
  ok:∀ t g v,look env t=some (g,v)→a.tmps.getD t undef=cond g v undef
def evo (env:Env):Operand→Option (Bool×Value)
  | .tmp t=>look env t
  | .const v=>some (true,v)
  | .func f=>some (true,.func (.func f) #[] #[])
  | .global g=>some (true,.pointer (some ⟨g,0,Option.none⟩))
variable{P:Program}{F:Exit→Act→World→Prop}{N:Nat}{M:Amb}{env:Env}{H H' R:List HP}{a:Act}{w:World}{ops:Array Oper}{o:Oper}{rest:List Oper}
theorem Fits.ev (h:Fits N env a){x:Operand}{g:Bool}{v:Value}(hx:evo env x=some (g,v))(hg:g=true):a.eval x=v:=by
  subst hg
  cases x with
  | tmp t=>exact h.ok t _ _ hx
  | const c=>simp[evo] at hx;exact hx
  | func f=>simp[evo] at hx;exact hx
  | global g=>simp[evo] at hx;exact hx
theorem Fits.put (h:Fits N env a){d:Nat}(hd:Nat.blt d N=true)(g:Bool)(v:Value):Fits N ((d,g,v)::env) (a.put (some d) (cond g v undef)):=by
  have hd':d<a.tmps.size:=by rw[h.sz];simpa using hd
  refine⟨h.dfr,by simp[Act.put,h.sz],fun t g' v' hl=>?_⟩
  simp only[look] at hl
  by_cases e:d=t
  · subst e
    have:Nat.beq d d=true:=by simp
    rw[this] at hl
    simp at hl
    obtain⟨rfl,rfl⟩:=hl
    simp[Act.put,hd']
  · have:=beq_ne e
    rw[this] at hl
    have:=h.ok t g' v' hl
    simp only[Array.getD_eq_getD_getElem?,Act.put] at *
    rw[Array.getElem?_setIfInBounds_ne e]
    exact this
inductive Keep (env:Env):Env→Prop
  | n:Keep env []
  | c (t:Nat) {g:Bool} {v:Value} {e:Env} (h:look env t=some (g,v)) (k:Keep env e):Keep env ((t,g,v)::e)
theorem Keep.look{env e:Env}(k:Keep env e):∀ t x,Go.Proofs.YtmakdilmibjpbaaGreatDoor.look e t=some x→Go.Proofs.YtmakdilmibjpbaaGreatDoor.look env t=some x:=by
  induction k with
  | n=>intro t x h;cases h
  | c t0 h k ih=>
    intro t x hx
    simp only[Go.Proofs.YtmakdilmibjpbaaGreatDoor.look] at hx
    by_cases e:t0=t
    · subst e
      have:Nat.beq t0 t0=true:=by simp
      rw[this] at hx
      simp at hx;subst hx;exact h
    · have:=beq_ne e
      rw[this] at hx
      exact ih t x hx
theorem Fits.keep (h:Fits N env a){e:Env}(k:Keep env e):Fits N e a:=⟨h.dfr,h.sz,fun t g v hl=>h.ok t g v (k.look t _ hl)⟩
inductive KI where
  | code (c:Code)
  | blk (id:Nat)
  | goal (φ:Act→World→Prop)
def post (P:Program)(F:Exit→Act→World→Prop):List KI→Exit→Act→World→Prop
  | []=>F
  | .code c::K=>Exit.then (c.wp P (post P F K)) (post P F K)
  | .blk id::K=>Exit.inBlock id (post P F K)
  | .goal φ::K=>Exit.then φ (post P F K)
def Run (P:Program)(F:Exit→Act→World→Prop)(N:Nat)(M:Amb)(K:List KI)(env:Env)(H:List HP):Prop:=
  ∀ a w,Fits N env a→Own M H w→post P F K .normal a w
def Ops (P:Program)(F:Exit→Act→World→Prop)(N:Nat)(M:Amb)(K:List KI)(ops:Array Oper)(rest:List Oper)(env:Env)(H:List HP):Prop:=
  ∀ a w,Fits N env a→Own M H w→wpList P ops (post P F K) rest a w
variable{K:List KI}
theorem r_seq{x y:Code}(h:Run P F N M (.code x::.code y::K) env H):Run P F N M (.code (.seq x y)::K) env H:=
  fun a w hf ho=>wp_seq (h a w hf ho)
theorem r_skip (h:Run P F N M K env H):Run P F N M (.code .skip::K) env H:=fun a w hf ho=>wp_skip (h a w hf ho)
theorem r_block{id:Nat}{c:Code}(h:Run P F N M (.code c::.blk id::K) env H):Run P F N M (.code (.block id c)::K) env H:=
  fun a w hf ho=>wp_block (h a w hf ho)
theorem r_end{id:Nat}(h:Run P F N M K env H):Run P F N M (.blk id::K) env H:=fun a w hf ho=>h a w hf ho
theorem r_cond {c : Operand} {x y : Code} (b : Bool) (hc : evo env c = some (true, .bool b)) (ht : b = true → Run P F N M (.code x :: K) env H) (hf : b = false → Run P F N M (.code y :: K) env H) :
    Run P F N M (.code (.cond c x y) :: K) env H :=
  fun a w hfit ho=>wp_cond_split (hfit.ev hc _root_.rfl) (fun e=>ht e a w hfit ho) (fun e=>hf e a w hfit ho)
theorem r_ent (k:Ent H H')(h:Run P F N M K env H'):Run P F N M K env H:=fun a w hf ho=>h a w hf (ho.ent k)
def cut (id:Nat):List KI→Option (List KI)
  | []=>Option.none
  | .blk id'::K=>cond (Nat.beq id id') (some K) (cut id K)
  | _::K=>cut id K
theorem post_cut{id:Nat}:∀ {K K':List KI},cut id K=some K'→post P F K (.exit id)=post P F K' .normal
  | [],_,h=>by cases h
  | .blk id'::K,K',h=>by
    simp only[cut] at h
    by_cases e:id=id'
    · subst e
      have:Nat.beq id id=true:=by simp
      rw[this] at h;simp at h;subst h
      funext a w;simp[post,Exit.inBlock]
    · have:=beq_ne e
      rw[this] at h
      funext a w;simp only[post,Exit.inBlock,e,if_false]
      exact congrFun (congrFun (post_cut (K:=K) h) a) w
  | .code c::K,K',h=>by funext a w;exact congrFun (congrFun (post_cut (K:=K) h) a) w
  | .goal c::K,K',h=>by funext a w;exact congrFun (congrFun (post_cut (K:=K) h) a) w
theorem r_exit{id:Nat}{K':List KI}(hc:cut id K=some K')(h:Run P F N M K' env H):Run P F N M (.code (.exit id)::K) env H:=
  fun a w hf ho=>wp_exit (by rw[post_cut hc];exact h a w hf ho)
theorem post_ret:∀ {K:List KI},post P F K .ret=F .ret
  | []=>_root_.rfl
  | .blk _::K=>by funext a w;exact congrFun (congrFun (post_ret (K:=K)) a) w
  | .code _::K=>by funext a w;exact congrFun (congrFun (post_ret (K:=K)) a) w
  | .goal _::K=>by funext a w;exact congrFun (congrFun (post_ret (K:=K)) a) w
theorem r_ret_raw (h:∀ a w,Fits N env a→Own M H w→F .ret a w):Run P F N M (.code .ret::K) env H:=
  fun a w hf ho=>wp_ret (by rw[post_ret];exact h a w hf ho)
theorem r_loop {α : Type} {c : Code} (E : α → Env) (Hh : α → List HP) (Inv : α → Prop) (μ : α → Nat) (x0 : α) (hi : Inv x0) (hk : Keep env (E x0)) (he : Ent H (Hh x0))
    (round : ∀ x, Inv x → Run P F N M (.code c :: .goal (fun a w => ∃ y, (Inv y ∧ μ y < μ x) ∧ Fits N (E y) a ∧ Own M (Hh y) w) :: K) (E x) (Hh x)) :
    Run P F N M (.code (.loop c) :: K) env H := by
  intro a w hf ho
  refine wp_loop_ghost (fun n a w=>∃ y,(Inv y∧μ y=n)∧Fits N (E y) a∧Own M (Hh y) w) (μ x0) ⟨x0,⟨hi,_root_.rfl⟩,hf.keep hk,ho.ent he⟩ ?_
  rintro n a w ⟨x,⟨hx,rfl⟩,hfx,hox⟩
  refine wp_mono (round x hx a w hfx hox) ?_
  intro e a' w' hq
  cases e with
  | normal=>
    obtain⟨y,⟨hy,hlt⟩,hfy,hoy⟩:=hq
    exact⟨μ y,hlt,y,⟨hy,_root_.rfl⟩,hfy,hoy⟩
  | _=>exact hq
theorem r_region{id:Nat}{l:List Oper}(h:Ops P F N M K l.toArray l env H):Run P F N M (.code (.region id l.toArray false)::K) env H:=
  fun a w hf ho=>wp_region_lit (h a w hf ho)
theorem o_keep{e:Env}(k:Keep env e)(h:Run P F N M K e H):Ops P F N M K ops [] env H:=fun a w hf ho=>wpList_nil (h a w (hf.keep k) ho)
theorem o_ent (k:Ent H H')(h:Ops P F N M K ops rest env H'):Ops P F N M K ops rest env H:=fun a w hf ho=>h a w hf (ho.ent k)
def OpX (P:Program)(N:Nat)(M:Amb)(ops:Array Oper)(o:Oper)(env:Env)(H:List HP)(Rr:Env→List HP→Prop):Prop:=
  ∀ (a:Act) (w:World) (Kc:Act→World→Prop) (Q:Exit→Act→World→Prop),Fits N env a→Own M H w→
    (∀ env' H' u w',Rr env' H'→Fits N env' (a.put o.dst u)→Own M H' w'→Kc (a.put o.dst u) w')→
    if Region.wanted o (yielded ops a.tmps)=true then o.wp P a w Kc Q else Kc (a.put o.dst undef) w
theorem l_op (h:OpX P N M ops o env H (fun e h=>Ops P F N M K ops rest e h)):Ops P F N M K ops (o::rest) env H:=fun a w hf ho=>by
  have:=h a w (wpList P ops (post P F K) rest) (post P F K) hf ho (fun _ _ _ w' hr hf' ho'=>hr _ w' hf' ho')
  unfold wpList
  split
  · rename_i hw;rw[if_pos hw] at this;exact .inl this
  · rename_i hw;rw[if_neg hw] at this;exact this
inductive Gd (ops:Array Oper) (env:Env) (o:Oper):Bool→Prop
  | n (h:o.guard=Option.none):Gd ops env o true
  | s {j : Nat} {want : Bool} {t : Nat} {gj b : Bool} (h1 : o.guard = some (j, want)) (h2 : (ops[j]?).bind (·.dst) = some t) (h3 : look env t = some (gj, .bool b)) :
      Gd ops env o (gj && cond want b (!b))
theorem Gd.wanted{g:Bool}(h:Gd ops env o g)(hf:Fits N env a):Region.wanted o (yielded ops a.tmps)=g:=by
  cases h with
  | n h=>simp[Region.wanted,h]
  | s h1 h2 h3=>
    rename_i j want t gj b
    have hv:=hf.ok t _ _ h3
    simp only[Region.wanted,h1,yielded,h2,Option.bind_some]
    simp only[Array.getD_eq_getD_getElem?] at hv
    cases ht:a.tmps[t]? with
    | none=>
      rw[ht] at hv
      cases gj
      · simp
      · simp[undef] at hv
    | some x=>
      rw[ht] at hv
      simp at hv
      subst hv
      cases gj<;>cases b<;>cases want<;>simp[undef]
def PV (P:Program)(ops:Array Oper)(o:Oper)(env:Env)(g:Bool)(v:Value):Prop:=
  ∀ (N:Nat) (a:Act),Fits N env a→Region.wanted o (yielded ops a.tmps)=g∧(g=true→∀ w,(execOp a.eval o).run P w=.ok (.value v) w)
theorem x_p {d : Nat} {g : Bool} {v : Value} {Rr : Env → List HP → Prop} (hp : PV P ops o env g v) (hd : o.dst = some d) (hN : Nat.blt d N = true) (h : Rr ((d, g, v) :: env) H) :
    OpX P N M ops o env H Rr := fun a w Kc Q hf ho hK => by
  obtain⟨hw,hr⟩:=hp N a hf
  rw[hw]
  cases g with
  | true=>
    simp only[if_true,Oper.wp,hr _root_.rfl w,Oper.upon_value]
    exact hK _ _ _ _ h (by rw[hd];exact hf.put hN true v) ho
  | false=>
    simp only[Bool.false_eq_true,if_false]
    exact hK _ _ _ _ h (by rw[hd];exact hf.put hN false v) ho
variable{g gx gy:Bool}{x y:Operand}{v v':Value}
theorem pv_mv (hg:Gd ops env o g)(hop:o.op=.move x)(hx:evo env x=some (gx,v))(hi:g=true→gx=true):PV P ops o env g v:=
  fun _ _ hf=>⟨hg.wanted hf,fun e w=>by simp[execOp,hop,hf.ev hx (hi e)]⟩
theorem pv_as (hg:Gd ops env o g)(hop:o.op=.assign x)(hx:evo env x=some (gx,v))(hi:g=true→gx=true):PV P ops o env g v:=
  fun _ _ hf=>⟨hg.wanted hf,fun e w=>by simp[execOp,hop,hf.ev hx (hi e)]⟩
section ints
variable{T T2:TypeId}{k:IntKind}{m n:Int}
theorem pv_lss (hg : Gd ops env o g) (hop : o.op = .binOp .lss T x y T2) (hx : evo env x = some (gx, .int k m)) (hy : evo env y = some (gy, .int k n)) (hi : g = true → gx = true ∧ gy = true) :
    PV P ops o env g (.bool (decide (m < n))) :=
  fun _ _ hf=>⟨hg.wanted hf,fun e w=>by simp[execOp,hop,hf.ev hx (hi e).1,hf.ev hy (hi e).2,binOp,eqGuard,Op.intCmp]⟩
theorem pv_leq (hg : Gd ops env o g) (hop : o.op = .binOp .leq T x y T2) (hx : evo env x = some (gx, .int k m)) (hy : evo env y = some (gy, .int k n)) (hi : g = true → gx = true ∧ gy = true) :
    PV P ops o env g (.bool (decide (m ≤ n))) :=
  fun _ _ hf=>⟨hg.wanted hf,fun e w=>by simp[execOp,hop,hf.ev hx (hi e).1,hf.ev hy (hi e).2,binOp,eqGuard,Op.intCmp]⟩
theorem pv_gtr (hg : Gd ops env o g) (hop : o.op = .binOp .gtr T x y T2) (hx : evo env x = some (gx, .int k m)) (hy : evo env y = some (gy, .int k n)) (hi : g = true → gx = true ∧ gy = true) :
    PV P ops o env g (.bool (decide (n < m))) :=
  fun _ _ hf=>⟨hg.wanted hf,fun e w=>by simp[execOp,hop,hf.ev hx (hi e).1,hf.ev hy (hi e).2,binOp,eqGuard,Op.intCmp]⟩
theorem pv_geq (hg : Gd ops env o g) (hop : o.op = .binOp .geq T x y T2) (hx : evo env x = some (gx, .int k m)) (hy : evo env y = some (gy, .int k n)) (hi : g = true → gx = true ∧ gy = true) :
    PV P ops o env g (.bool (decide (n ≤ m))) :=
  fun _ _ hf=>⟨hg.wanted hf,fun e w=>by simp[execOp,hop,hf.ev hx (hi e).1,hf.ev hy (hi e).2,binOp,eqGuard,Op.intCmp]⟩
theorem pv_eql (hg : Gd ops env o g) (hop : o.op = .binOp .eql T x y T2) (hx : evo env x = some (gx, .int k m)) (hy : evo env y = some (gy, .int k n)) (hi : g = true → gx = true ∧ gy = true) :
    PV P ops o env g (.bool (decide (m = n))) :=
  fun _ _ hf=>⟨hg.wanted hf,fun e w=>by simp[execOp,hop,hf.ev hx (hi e).1,hf.ev hy (hi e).2,binOp,eqGuard,Op.intCmp];rfl⟩
theorem pv_neq (hg : Gd ops env o g) (hop : o.op = .binOp .neq T x y T2) (hx : evo env x = some (gx, .int k m)) (hy : evo env y = some (gy, .int k n)) (hi : g = true → gx = true ∧ gy = true) :
    PV P ops o env g (.bool (!decide (m = n))) :=
  fun _ _ hf=>⟨hg.wanted hf,fun e w=>by simp[execOp,hop,hf.ev hx (hi e).1,hf.ev hy (hi e).2,binOp,eqGuard,Op.intCmp];rfl⟩
theorem pv_addw (hg : Gd ops env o g) (hop : o.op = .binOp .add T x y T2) (hx : evo env x = some (gx, .int k m)) (hy : evo env y = some (gy, .int k n)) (hi : g = true → gx = true ∧ gy = true) :
    PV P ops o env g (.int k (k.wrap (m + n))) :=
  fun _ _ hf=>⟨hg.wanted hf,fun e w=>by simp[execOp,hop,hf.ev hx (hi e).1,hf.ev hy (hi e).2,binOp,eqGuard,Op.intArith]⟩
theorem pv_subw (hg : Gd ops env o g) (hop : o.op = .binOp .sub T x y T2) (hx : evo env x = some (gx, .int k m)) (hy : evo env y = some (gy, .int k n)) (hi : g = true → gx = true ∧ gy = true) :
    PV P ops o env g (.int k (k.wrap (m - n))) :=
  fun _ _ hf=>⟨hg.wanted hf,fun e w=>by simp[execOp,hop,hf.ev hx (hi e).1,hf.ev hy (hi e).2,binOp,eqGuard,Op.intArith]⟩
theorem pv_mulw (hg : Gd ops env o g) (hop : o.op = .binOp .mul T x y T2) (hx : evo env x = some (gx, .int k m)) (hy : evo env y = some (gy, .int k n)) (hi : g = true → gx = true ∧ gy = true) :
    PV P ops o env g (.int k (k.wrap (m * n))) :=
  fun _ _ hf=>⟨hg.wanted hf,fun e w=>by simp[execOp,hop,hf.ev hx (hi e).1,hf.ev hy (hi e).2,binOp,eqGuard,Op.intArith]⟩
theorem pv_negw (hg:Gd ops env o g)(hop:o.op=.unOp .neg T x)(hx:evo env x=some (gx,.int k m))(hi:g=true→gx=true):PV P ops o env g (.int k (k.wrap (-m))):=
  fun _ _ hf=>⟨hg.wanted hf,fun e w=>by simp[execOp,hop,hf.ev hx (hi e),Op.unary,Op.intArith]⟩
end ints
theorem pv_eq (h:PV P ops o env g v)(e:g=true→v=v'):PV P ops o env g v':=fun N a hf=>
  ⟨(h N a hf).1,fun hg w=>e hg▸(h N a hf).2 hg w⟩
theorem pv_not{T:TypeId}{b:Bool}(hg:Gd ops env o g)(hop:o.op=.unOp .not T x)(hx:evo env x=some (gx,.bool b))(hi:g=true→gx=true):PV P ops o env g (.bool (!b)):=
  fun _ _ hf=>⟨hg.wanted hf,fun e w=>by simp[execOp,hop,hf.ev hx (hi e),Op.unary]⟩
theorem pv_or {c m gm : Bool} (hg : Gd ops env o g) (hop : o.op = .pick x (.const (.bool true)) y) (hx : evo env x = some (gx, .bool c)) (hy : evo env y = some (gm, .bool m)) (hi : g = true → gx = true ∧ (c = false → gm = true)) :
    PV P ops o env g (.bool (c || m)) :=
  fun _ _ hf=>⟨hg.wanted hf,fun e w=>by
    cases c with
    | true=>have hv:=hf.ev hx (hi e).1;simp only[execOp,hop];rw[hv];simp[asBool,Act.eval]
    | false=>simp[execOp,hop,hf.ev hx (hi e).1,hf.ev hy ((hi e).2 _root_.rfl),asBool]⟩
theorem pv_and {c m gm : Bool} (hg : Gd ops env o g) (hop : o.op = .pick x y (.const (.bool false))) (hx : evo env x = some (gx, .bool c)) (hy : evo env y = some (gm, .bool m)) (hi : g = true → gx = true ∧ (c = true → gm = true)) :
    PV P ops o env g (.bool (c && m)) :=
  fun _ _ hf=>⟨hg.wanted hf,fun e w=>by
    cases c with
    | false=>have hv:=hf.ev hx (hi e).1;simp only[execOp,hop];rw[hv];simp[asBool,Act.eval]
    | true=>simp[execOp,hop,hf.ev hx (hi e).1,hf.ev hy ((hi e).2 _root_.rfl),asBool]⟩
theorem pv_nilp{A:Addr}(hg:Gd ops env o g)(hop:o.op=.nilCheck x)(hx:evo env x=some (gx,.pointer (some A)))(hi:g=true→gx=true):PV P ops o env g (.pointer (some A)):=
  fun _ _ hf=>⟨hg.wanted hf,fun e w=>by simp[execOp,hop,hf.ev hx (hi e)]⟩
def faB (P:Program)(s:TypeId)(f fo:Nat):Bool:=
  match P.underlying s with
  | some (.struct fs)=>match fs[f]? with
    | some x=>x.offset==fo&&(match P.info? x.type with|some i=>i.size != 0|Option.none=>false)
    | Option.none=>false
  | _=>false
def tcB (P:Program)(t:TypeId):Bool:=
  match P.underlying t with
  | some (.struct _)|some (.array _ _)|Option.none=>false
  | _=>match P.info? t with|some i=>i.size==1|Option.none=>false
def taB (P:Program)(t:TypeId)(n:Nat):Bool:=
  match P.underlying t with
  | some (.struct _)|some (.array _ _)=>match P.info? t with|some i=>i.size==n|Option.none=>false
  | _=>false
theorem addr_add (b off n:Nat):(⟨b,off,Option.none⟩:Addr).add n=⟨b,off+n,Option.none⟩:=by
  unfold Addr.add;split<;>simp_all
theorem run_und{t:TypeId}{d:TypeDesc}(h:P.underlying t=some d)(w:World):(underlying t).run P w=.ok d w:=run_underlying h w
theorem run_info{t:TypeId}{i:TypeInfo}(h:P.info? t=some i)(w:World):(typeInfo t).run P w=.ok i w:=by simp[typeInfo,h]
theorem pv_fa {s : TypeId} {f fo b off : Nat} (fa : faB P s f fo = true) (hg : Gd ops env o g) (hop : o.op = .fieldAddr s x f) (hx : evo env x = some (gx, .pointer (some ⟨b, off, Option.none⟩))) (hi : g = true → gx = true) :
    PV P ops o env g (.pointer (some ⟨b, off + fo, Option.none⟩)) :=
  fun _ _ hf=>⟨hg.wanted hf,fun e w=>by
    unfold faB at fa
    split at fa
    · rename_i fs hu
      split at fa
      · rename_i fld hfld
        simp at fa
        obtain⟨rfl,h2⟩:=fa
        split at h2
        · rename_i i hinf
          simp at h2
          simp[execOp,hop,hf.ev hx (hi e),Instr.fieldAt,run_und hu,hfld,Instr.sureAddr,fieldPlace,sizeOf,run_info hinf,h2,addr_add]
        · cases h2
      · cases fa
    · cases fa⟩
theorem pv_len {T Tr : TypeId} {ao : Option Addr} {n c : Nat} {at' : Array TypeId} (hs : ∃ e, P.underlying T = some (.slice e)) (hg : Gd ops env o g)
    (hop : o.op = .call { callee := .builtin .len, args := #[x], argTypes := at' }) (hT : at'[0]? = some T) (_ : o.type = Tr) (hx : evo env x = some (gx, .slice ao n c)) (hi : g = true → gx = true) : PV P ops o env g (.int .i64 n) :=
  fun _ _ hf=>⟨hg.wanted hf,fun e w=>by
    obtain⟨el,hs⟩:=hs
    simp[execOp,hop,resolve,invoke,builtin,Builtin.len_,hf.ev hx (hi e),hT,run_und hs,goInt]⟩
end Go.Proofs.YtmakdilmibjpbaaGreatDoor
namespace Go.Proofs.YtmakdilmibjpbaaGreatDoor
open Go Go.RowKit
variable{P:Program}{F:Exit→Act→World→Prop}{N:Nat}{M:Amb}{env:Env}{H H' R:List HP}{a:Act}{w:World}{ops:Array Oper}{o:Oper}{rest:List Oper}{K:List KI}
variable{g gx gy gz:Bool}{x y z:Operand}{v v':Value}{Rr:Env→List HP→Prop}
def RV (P:Program)(M:Amb)(ops:Array Oper)(o:Oper)(env:Env)(H:List HP)(g:Bool)(v:Value):Prop:=
  ∀ (N:Nat) (a:Act) (w:World),Fits N env a→Own M H w→Region.wanted o (yielded ops a.tmps)=g∧(g=true→(execOp a.eval o).run P w=.ok (.value v) w)
theorem PV.rv (h:PV P ops o env g v):RV P M ops o env H g v:=fun N a w hf _=>⟨(h N a hf).1,fun e=>(h N a hf).2 e w⟩
theorem x_r{d:Nat}(hp:RV P M ops o env H g v)(hd:o.dst=some d)(hN:Nat.blt d N=true)(h:Rr ((d,g,v)::env) H):OpX P N M ops o env H Rr:=fun a w Kc Q hf ho hK=>by
  obtain⟨hw,hr⟩:=hp N a w hf ho
  rw[hw]
  cases g with
  | true=>
    simp only[if_true,Oper.wp,hr _root_.rfl,Oper.upon_value]
    exact hK _ _ _ _ h (by rw[hd];exact hf.put hN true v) ho
  | false=>
    simp only[Bool.false_eq_true,if_false]
    exact hK _ _ _ _ h (by rw[hd];exact hf.put hN false v) ho
def CellAt (M:Amb)(H:List HP)(b i:Nat)(v:Value):Prop:=∀ w,Own M H w→w.cell? ⟨b,i,Option.none⟩=some v
def CellsAt (M:Amb)(H:List HP)(b i:Nat)(vs:List Value):Prop:=∀ w,Own M H w→∀ j u,vs[j]?=some u→w.cell? ⟨b,i+j,Option.none⟩=some u
inductive Tk:Nat→List Value→List Value→Prop
  | z {l:List Value}:Tk 0 l []
  | s {n:Nat} {c:Value} {l vs:List Value} (h:Tk n l vs):Tk (n+1) (c::l) (c::vs)
theorem Tk.length{n:Nat}{l vs:List Value}(h:Tk n l vs):vs.length=n:=by induction h<;>simp_all
theorem Tk.get{n:Nat}{l vs:List Value}(h:Tk n l vs):∀ (j:Nat) (u:Value),vs[j]?=some u→l[j]?=some u:=by
  induction h with
  | z=>intro j u h;simp at h
  | s h ih=>intro j u hj;cases j with
    | zero=>simpa using hj
    | succ j=>simpa using ih j u (by simpa using hj)
theorem CellAt.blk{b i:Nat}{cs:List Value}{T:TypeId}(he:Ent H (blk b cs T::R))(hv:cs[i]?=some v):CellAt M H b i v:=fun _ ho=>((ho.ent he).cell i).trans hv
theorem CellsAt.blk{b i n:Nat}{cs vs:List Value}{T:TypeId}(he:Ent H (blk b cs T::R))(hv:Tk n (cs.drop i) vs):CellsAt M H b i vs:=fun _ ho j u hu=>by
  rw[(ho.ent he).cell (i+j)]
  have:=hv.get j u hu
  rwa [List.getElem?_drop] at this
theorem CellsAt.ent{b i:Nat}{vs:List Value}(h:CellsAt M H' b i vs)(he:Ent H H'):CellsAt M H b i vs:=fun w ho=>h w (ho.ent he)
theorem run_isAgg_no{t:TypeId}(h:tcB P t=true)(w:World):(isAgg t).run P w=.ok false w∧∃ i,P.info? t=some i∧i.size=1:=by
  unfold tcB at h
  cases hu:P.underlying t with
  | none=>simp[hu] at h
  | some d=>
    have hi:∃ i,P.info? t=some i∧i.size=1:=by
      cases hi:P.info? t with
      | none=>cases d<;>simp[hu,hi] at h
      | some i=>exact⟨i,_root_.rfl,by cases d<;>simp[hu,hi] at h<;>exact h⟩
    refine⟨?_,hi⟩
    cases d<;>simp[isAgg,run_und hu]<;>simp[hu] at h
theorem run_isAgg_yes{t:TypeId}{n:Nat}(h:taB P t n=true)(w:World):(isAgg t).run P w=.ok true w∧∃ i,P.info? t=some i∧i.size=n:=by
  unfold taB at h
  cases hu:P.underlying t with
  | none=>simp[hu] at h
  | some d=>
    have hi:∃ i,P.info? t=some i∧i.size=n:=by
      cases hi:P.info? t with
      | none=>cases d<;>simp[hu,hi] at h
      | some i=>exact⟨i,_root_.rfl,by cases d<;>simp[hu,hi] at h<;>exact h⟩
    refine⟨?_,hi⟩
    cases d<;>simp[isAgg,run_und hu]<;>simp[hu] at h
theorem run_loadVar_c{t:TypeId}{b i:Nat}(h:tcB P t=true)(hc:w.cell? ⟨b,i,Option.none⟩=some v):(loadVar t ⟨b,i,Option.none⟩).run P w=.ok v w:=by
  simp[loadVar,(run_isAgg_no h w).1,hc]
theorem run_loadVar_a {t : TypeId} {b i : Nat} {vs : List Value} (h : taB P t vs.length = true) (hc : ∀ j u, vs[j]? = some u → w.cell? ⟨b, i + j, Option.none⟩ = some u) :
    (loadVar t ⟨b, i, Option.none⟩).run P w = .ok (.agg vs.toArray) w := by
  obtain⟨h1,inf,h2,h3⟩:=run_isAgg_yes h w
  have h4:=run_loadCells_list (P:=P) w ⟨b,i,Option.none⟩ vs (fun j u hu=>by rw[addr_add];exact hc j u hu)
  simp[loadVar,h1,sizeOf,run_info h2,h3,h4]
theorem rv_ldc {t : TypeId} {b i : Nat} (tc : tcB P t = true) (hc : CellAt M H b i v) (hg : Gd ops env o g) (hop : o.op = .load t x) (hx : evo env x = some (gx, .pointer (some ⟨b, i, Option.none⟩))) (hi : g = true → gx = true) :
    RV P M ops o env H g v := fun _ _ w hf ho => ⟨hg.wanted hf, fun e => by
      simp [execOp, hop, hf.ev hx (hi e), Instr.loadAt, Instr.sureAddr, run_loadVar_c tc (hc w ho)]⟩
theorem rv_lda {t : TypeId} {b i n : Nat} {vs : List Value} (ta : taB P t n = true) (hc : CellsAt M H b i vs) (hn : vs.length = n) (hg : Gd ops env o g) (hop : o.op = .load t x) (hx : evo env x = some (gx, .pointer (some ⟨b, i, Option.none⟩))) (hi : g = true → gx = true) :
    RV P M ops o env H g (.agg vs.toArray) := fun _ _ w hf ho => ⟨hg.wanted hf, fun e => by
      subst hn
      simp [execOp, hop, hf.ev hx (hi e), Instr.loadAt, Instr.sureAddr, run_loadVar_a ta (hc w ho)]⟩
def ZR (P:Program)(T:TypeId)(zs:List Value):Prop:=(P.info? T).bind (fun i=>i.zero.map (·.cells.toList))=some zs
theorem x_box {T : TypeId} {d : Nat} {cs : List Value} (hop : o.op = .box T x) (hgd : o.guard = Option.none) (hd : o.dst = some d) (hN : Nat.blt d N = true) (hx : evo env x = some (true, v)) (hc : v.cells = cs.toArray)
    (h : ∀ b, Rr ((d, true, .pointer (some ⟨b, 0, Option.none⟩)) :: env) (blk b cs T :: H)) : OpX P N M ops o env H Rr := fun a w Kc Q hf ho hK => by
  have hw:Region.wanted o (yielded ops a.tmps)=true:=by simp[Region.wanted,hgd]
  rw[hw,if_pos _root_.rfl]
  have hr:(execOp a.eval o).run P w=.ok (.value (.pointer (some ⟨w.heap.size,0,Option.none⟩))) (w.alloc (.cells cs.toArray T)):=by
    simp[execOp,hop,hf.ev hx _root_.rfl,Instr.box,newVar,newRow,hc]
  simp only[Oper.wp,hr,Oper.upon_value]
  exact hK _ _ _ _ (h w.heap.size) (by rw[hd];exact hf.put hN true _) (ho.alloc cs T)
theorem x_alloc {T : TypeId} {d : Nat} {zs : List Value} (zr : ZR P T zs) (hop : o.op = .alloc T) (hgd : o.guard = Option.none) (hd : o.dst = some d) (hN : Nat.blt d N = true)
    (h : ∀ b, Rr ((d, true, .pointer (some ⟨b, 0, Option.none⟩)) :: env) (blk b zs T :: H)) : OpX P N M ops o env H Rr := fun a w Kc Q hf ho hK => by
  have hw:Region.wanted o (yielded ops a.tmps)=true:=by simp[Region.wanted,hgd]
  rw[hw,if_pos _root_.rfl]
  have hr:(execOp a.eval o).run P w=.ok (.value (.pointer (some ⟨w.heap.size,0,Option.none⟩))) (w.alloc (.cells zs.toArray T)):=by
    unfold ZR at zr
    cases hi:P.info? T with
    | none=>simp[hi] at zr
    | some i=>
      cases hz:i.zero with
      | none=>simp[hi,hz] at zr
      | some zv=>
        simp[hi,hz] at zr
        subst zr
        simp[execOp,hop,Instr.alloc,zeroValue,run_info hi,hz,newVar,newRow]
  simp only[Oper.wp,hr,Oper.upon_value]
  exact hK _ _ _ _ (h w.heap.size) (by rw[hd];exact hf.put hN true _) (ho.alloc zs T)
inductive Ins:List Value→Nat→List Value→List Value→Prop
  | z {l:List Value}:Ins l 0 [] l
  | p {c u:Value} {l vs l':List Value} (h:Ins l 0 vs l'):Ins (c::l) 0 (u::vs) (u::l')
  | s {c:Value} {l vs l':List Value} {n:Nat} (h:Ins l n vs l'):Ins (c::l) (n+1) vs (c::l')
theorem Ins.eq{cs vs cs':List Value}{i:Nat}(h:Ins cs i vs cs'):i+vs.length≤cs.length∧cs'=cs.take i++vs++cs.drop (i+vs.length):=by
  induction h with
  | z=>simp
  | p h ih=>
    obtain⟨h1,h2⟩:=ih
    simp at h1 h2 ⊢
    exact⟨by omega,h2⟩
  | s h ih=>
    rename_i c l vs l' n
    obtain⟨h1,h2⟩:=ih
    refine⟨by simp;omega,?_⟩
    rw[show n+1+vs.length=(n+vs.length)+1 from by omega]
    simp[h2]
theorem run_storeVar {T T' : TypeId} {b i n : Nat} {cs : List Value} {u : Value} (hs : ∃ inf, P.info? T = some inf ∧ inf.size = n) (hb : w.heap[b]? = some (.cells cs.toArray T' (0, 0)))
    (hn : u.cells.size = n) (hfit : i + n ≤ cs.length) (h1 : ∀ c ∈ u.cells.toList, c.oneCell' = true) :
    (storeVar T ⟨b, i, Option.none⟩ u).run P w = .ok () (w.setRow b (cs.take i ++ u.cells.toList ++ cs.drop (i + n)).toArray) := by
  obtain⟨inf,h2,h3⟩:=hs
  have hst:=run_storeCells_at P b i T' u.cells.toList 0 cs.toArray w hb (by simp[hn];omega) h1
  simp only[Nat.add_zero] at hst
  simp[storeVar,sizeOf,run_info h2,h3,hn,hst]
theorem setRow_own{b:Nat}{cs cs':List Value}{T:TypeId}(o:Own M (blk b cs T::R) w):Own M (blk b cs' T::R) (w.setRow b cs'.toArray):=
  o.put (setRow_heap w b _ _ T _ o.blk.2) (fun k _ hne=>setRow_other w b k _ hne) (by simp) _root_.rfl _root_.rfl _root_.rfl
def SizeIs (P:Program)(T:TypeId)(n:Nat):Prop:=∃ inf,P.info? T=some inf∧inf.size=n
theorem SizeIs.ofC{T:TypeId}(h:tcB P T=true):SizeIs P T 1:=(run_isAgg_no h default).2
theorem SizeIs.ofA{T:TypeId}{n:Nat}(h:taB P T n=true):SizeIs P T n:=(run_isAgg_yes h default).2
theorem x_store {T T' : TypeId} {b i n : Nat} {cs cs' vs : List Value} {u : Value} (hs : SizeIs P T n) (he : Ent H (blk b cs T' :: R)) (hop : o.op = .store T x y) (hgd : o.guard = Option.none) (hd : o.dst = Option.none)
    (hx : evo env x = some (true, .pointer (some ⟨b, i, Option.none⟩))) (hy : evo env y = some (true, u)) (hu : u.cells = vs.toArray) (hn : vs.length = n) (h1 : vs.all (·.oneCell') = true) (hi : Ins cs i vs cs')
    (h : Rr env (blk b cs' T' :: R)) : OpX P N M ops o env H Rr := fun a w Kc Q hf ho hK => by
  have hw:Region.wanted o (yielded ops a.tmps)=true:=by simp[Region.wanted,hgd]
  rw[hw,if_pos _root_.rfl]
  have ho':=ho.ent he
  obtain⟨hi1,hi2⟩:=hi.eq
  have hrun:=run_storeVar (P:=P) (T:=T) (n:=n) hs ho'.blk.2 (u:=u) (i:=i) (by simp[hu,hn]) (by omega) (by simpa[hu] using h1)
  have hr:(execOp a.eval o).run P w=.ok .skip (w.setRow b cs'.toArray):=by
    rw[hi2,hn]
    simp[execOp,hop,hf.ev hx _root_.rfl,hf.ev hy _root_.rfl,Instr.storeAt,Instr.sureAddr,hrun,hu]
  simp only[Oper.wp,hr,Oper.upon_skip]
  exact hK _ _ _ _ h (by simpa[Act.put,hd] using hf) (setRow_own ho')
structure Rd (M:Amb)(H:List HP)(v:Value)(sz:Nat)(rows:List (List Value)):Prop where
  ok:RowsOk sz rows
  is:∃ ao cap,v=.slice ao rows.length cap∧rows.length≤cap∧cap≤maxLen∧(ao=Option.none→rows.length=0∧cap=0)∧(∀ A,ao=some A→0<rows.length→A.spot=Option.none∧CellsAt M H A.block A.off rows.flatten)
theorem Rd.ent{sz:Nat}{rows:List (List Value)}(h:Rd M H' v sz rows)(he:Ent H H'):Rd M H v sz rows:=
  ⟨h.ok,let ⟨ao,cap,e,h1,h2,h3,h4⟩:=h.is;⟨ao,cap,e,h1,h2,h3,fun A hA hp=>⟨(h4 A hA hp).1,(h4 A hA hp).2.ent he⟩⟩⟩
theorem RowsOk.tail{sz:Nat}{r:List Value}{rows:List (List Value)}(h:RowsOk sz (r::rows)):RowsOk sz rows:=fun x hx=>h x (List.mem_cons_of_mem _ hx)
theorem flat_len{sz:Nat}:∀ {rows:List (List Value)},RowsOk sz rows→rows.flatten.length=rows.length*sz
  | [],_=>by simp
  | r::rows,h=>by
    simp only[List.flatten_cons,List.length_append,List.length_cons,(h r (by simp)).1,flat_len h.tail,Nat.succ_mul]
    omega
theorem flat_get{sz:Nat}:∀ {rows:List (List Value)},RowsOk sz rows→∀ i r j u,rows[i]?=some r→r[j]?=some u→rows.flatten[i*sz+j]?=some u
  | [],_,i,r,j,u,h,_=>by simp at h
  | r0::rows,h,i,r,j,u,hi,hj=>by
    have hl:=(h r0 (by simp)).1
    cases i with
    | zero=>
      simp at hi;subst hi
      have:j<r0.length:=(List.getElem?_eq_some_iff.1 hj).1
      simp only[List.flatten_cons,Nat.zero_mul,Nat.zero_add]
      rw[List.getElem?_append_left this];exact hj
    | succ i=>
      simp only[List.flatten_cons]
      rw[List.getElem?_append_right (by rw[hl,Nat.succ_mul];omega),hl]
      have:=flat_get h.tail i r j u (by simpa using hi) hj
      rw[show (i+1)*sz+j - sz=i*sz+j from by rw[Nat.succ_mul];omega]
      exact this
end Go.Proofs.YtmakdilmibjpbaaGreatDoor
