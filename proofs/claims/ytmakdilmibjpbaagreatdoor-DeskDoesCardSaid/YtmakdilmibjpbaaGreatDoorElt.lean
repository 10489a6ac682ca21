/- Regions whose order is drawn: a variable that is made, beside two calls that make something new, one behind the other. A list of parts that lie each in a block of its own. Stores into an element of a slice of one's own; slices that are made. -/
import Derived.Test.YtmakdilmibjpbaaGreatDoorTwo
import Derived.Laws.MakeOwn
namespace Go.Proofs.YtmakdilmibjpbaaGreatDoor
open Go Go.RowKit
set_option linter.unusedVariables false
variable{P:Program}{F:Exit→Act→World→Prop}{N:Nat}{M:Amb}{env eb:Env}{H H' R:List HP}{a:Act}{w:World}{ops:Array Oper}{o:Oper}{rest:List Oper}{K:List KI}
variable{E0:Env}{Hq He:List HP}{p p':Plan}{eff eff':List Nat}{f:FuncId}
theorem entComm:∀ {A B:List HP},Ent (A++B) (B++A)
  | [],B=>by rw[List.append_nil];exact Ent.rfl
  | X::A,B=>Ent.tr (Ent.mono (entComm (A:=A) (B:=B))) (Ent.unA (Ent.rfl (H:=X::A)))
theorem FnN.on{α:Type}{vs:List Value}{A:List HP}{rt:α→Value}{New:α→List HP}(hc:FnN P M f vs A rt New)(s:SelL Hq A R)(He:List HP):FnR P M (He++Hq) f vs (fun v H'=>∃ x,v=rt x∧H'=New x++(He++Hq)):=fun w ho=>
  (hc (R++He) w (ho.ent (Ent.tr entComm (Ent.tr (Ent.app s.ent) (by rw[List.append_assoc];exact Ent.rfl))))).mono fun _ _ ⟨v,H',e,⟨x,h1,h2⟩,ho'⟩=>⟨v,_,e,⟨x,h1,rfl⟩,by
    subst h2
    rw[List.append_assoc] at ho'
    exact ho'.ent (entPre (Ent.tr (by rw[← List.append_assoc];exact Ent.app s.back) entComm))⟩
theorem getP_swap{i j:Nat}{x y:Option (Nat×Bool×Value)}(h:¬ i=j)(p:Plan)(k:Nat):getP ((i,x)::(j,y)::p) k=getP ((j,y)::(i,x)::p) k:=by
  simp only[getP]
  by_cases e1:i=k
  · have e2:¬ j=k:=fun e=>h (e1.trans e.symm)
    rw[beq_ne e2];rfl
  · rw[beq_ne e1];rfl
section calls
variable{d:Nat}{xs:List Operand}{vs:List Value}{at':Array TypeId}
theorem qm_calln2 {i : Nat} {α : Type} {rt : α → Value} {New : α → List HP} (l : List Src) (hac : acB ops = true) (hds : dstB ops = true) (hi : ops[i]? = some o) (hn : getP p i = Option.none) (hd : o.dst = some d) (hN : Nat.blt d N = true) (hs : srcB ops i l = true) (hrest : restB ops p i = true) (hg : GdW ops (srcEnv p E0 l) o)
    (cf : cfB P f = true) (hop : o.op = .call { callee := .value (.func f), args := xs.toArray, argTypes := at' }) (ha : Args (srcEnv p E0 l) xs vs) (hc : FnR P M (He ++ Hq) f vs (fun v H' => ∃ x, v = rt x ∧ H' = New x ++ (He ++ Hq)))
    (h : ∀ x, QM P F N M K ops E0 Hq ((i, some (d, true, rt x)) :: p) (i :: eff) (New x ++ He)) : QM P F N M K ops E0 Hq p eff He :=
  qm_e l hac hds hi hn hd hN hs hrest hg (hg.opx (x_call (o:=(ung o)) (Post:=fun v H'=>∃ x,v=rt x∧H'=New x++(He++Hq)) cf hop rfl hd hN ha hc (by rintro _ _ ⟨x,rfl,rfl⟩;exact⟨_,New x++He,by simp[look],by rw[List.append_assoc],h x⟩)))
theorem hx_calln2 {i : Nat} {α : Type} {rt : α → Value} {New : α → List HP} (l : List Src) (hd : o.dst = some d) (hN : Nat.blt d N = true) (hg : GdW ops (srcEnv p E0 l) o)
    (cf : cfB P f = true) (hop : o.op = .call { callee := .value (.func f), args := xs.toArray, argTypes := at' }) (ha : Args (srcEnv p E0 l) xs vs) (hc : FnR P M (He ++ Hq) f vs (fun v H' => ∃ x, v = rt x ∧ H' = New x ++ (He ++ Hq)))
    (h : ∀ x, QM P F N M K ops E0 Hq ((i, some (d, true, rt x)) :: p) (i :: eff) (New x ++ He)) : HX P F N M K ops E0 Hq p eff He i o l :=
  hx_e hd hN hg (hg.opx (x_call (o:=(ung o)) (Post:=fun v H'=>∃ x,v=rt x∧H'=New x++(He++Hq)) cf hop rfl hd hN ha hc (by rintro _ _ ⟨x,rfl,rfl⟩;exact⟨_,New x++He,by simp[look],by rw[List.append_assoc],h x⟩)))
end calls
end Go.Proofs.YtmakdilmibjpbaaGreatDoor
namespace Go.Proofs.YtmakdilmibjpbaaGreatDoor
open Go Go.RowKit
set_option linter.unusedVariables false
variable{H R:List HP}{α β:Type}{P:β→α→HP}{bs:List β}{ds:List α}{i:Nat}{b:β}{d:α}
def allP (L:List HP):HP:=fun h=>sep L h
theorem allP_out{L:List HP}:Ent (allP L::R) (L++R):=fun h ⟨a,b,ha,hb,hd,e⟩=>⟨h,by subst e;exact sep_app' ha hb hd,Hp.sub_refl h⟩
theorem allP_in{L:List HP}:Ent (L++R) (allP L::R):=fun h hx=>by
  obtain⟨a,b,ha,hb,hd,e⟩:=sep_app hx
  exact⟨h,⟨a,b,ha,hb,hd,e⟩,Hp.sub_refl h⟩
theorem entOut{X:HP}:∀ {A B:List HP},Ent (A++X::B) (X::(A++B))
  | [],_=>Ent.rfl
  | Y::A,B=>Ent.tr (Ent.mono (entOut (A:=A) (B:=B))) Ent.swap
def manyP (P:β→α→HP)(bs:List β)(ds:List α):HP:=allP (List.zipWith P bs ds)
def restP (P:β→α→HP)(bs:List β)(ds:List α)(i:Nat):HP:=allP (List.zipWith P (bs.take i) (ds.take i)++List.zipWith P (bs.drop (i+1)) (ds.drop (i+1)))
theorem zip_cut : ∀ {bs : List β} {ds : List α} {i : Nat} {b : β} {d : α}, bs[i]? = some b → ds[i]? = some d →
    List.zipWith P bs ds = List.zipWith P (bs.take i) (ds.take i) ++ P b d :: List.zipWith P (bs.drop (i + 1)) (ds.drop (i + 1))
  | [],_,_,_,_,h,_=>by simp at h
  | _::_,[],_,_,_,_,h=>by simp at h
  | x::bs,y::ds,0,b,d,h1,h2=>by simp at h1 h2;subst h1;subst h2;simp
  | x::bs,y::ds,i+1,b,d,h1,h2=>by
    have:=zip_cut (bs:=bs) (ds:=ds) (i:=i) (b:=b) (d:=d) (by simpa using h1) (by simpa using h2)
    simp[this]
theorem many_out (h1:bs[i]?=some b)(h2:ds[i]?=some d):Ent (manyP P bs ds::R) (P b d::restP P bs ds i::R):=by
  refine Ent.tr allP_out ?_
  rw[zip_cut h1 h2,List.append_assoc,List.cons_append]
  refine Ent.tr entOut (Ent.mono ?_)
  rw[← List.append_assoc]
  exact allP_in
theorem many_in{d':α}(h1:bs[i]?=some b)(h2:ds[i]?=some d):Ent (P b d'::restP P bs ds i::R) (manyP P bs (ds.set i d')::R):=by
  have hi:=(List.getElem?_eq_some_iff.1 h2).1
  have hz:=zip_cut (P:=P) (bs:=bs) (ds:=ds.set i d') (i:=i) (b:=b) (d:=d') h1 (by simp[hi])
  rw[List.take_set_of_le (Nat.le_refl i),List.drop_set_of_lt (Nat.lt_succ_self i)] at hz
  refine Ent.tr (Ent.mono allP_out) ?_
  unfold manyP
  rw[hz]
  refine Ent.tr ?_ allP_in
  rw[List.append_assoc,List.append_assoc,List.cons_append]
  exact Ent.unA Ent.rfl
theorem many_in2{b':β}{d':α}(h1:bs[i]?=some b)(h2:ds[i]?=some d):Ent (P b' d'::restP P bs ds i::R) (manyP P (bs.set i b') (ds.set i d')::R):=by
  have hi:=(List.getElem?_eq_some_iff.1 h2).1
  have hj:=(List.getElem?_eq_some_iff.1 h1).1
  have hz:=zip_cut (P:=P) (bs:=bs.set i b') (ds:=ds.set i d') (i:=i) (b:=b') (d:=d') (by simp[hj]) (by simp[hi])
  rw[List.take_set_of_le (Nat.le_refl i),List.drop_set_of_lt (Nat.lt_succ_self i),List.take_set_of_le (Nat.le_refl i),List.drop_set_of_lt (Nat.lt_succ_self i)] at hz
  refine Ent.tr (Ent.mono allP_out) ?_
  unfold manyP
  rw[hz]
  refine Ent.tr ?_ allP_in
  rw[List.append_assoc,List.append_assoc,List.cons_append]
  exact Ent.unA Ent.rfl
theorem zip_set{γ:Type}{f:β→α→γ}{b':β}{d':α}:∀ {bs:List β} {ds:List α} {i:Nat},(List.zipWith f bs ds).set i (f b' d')=List.zipWith f (bs.set i b') (ds.set i d')
  | [],_,_=>by simp
  | _::_,[],i=>by cases i<;>simp
  | _::_,_::_,0=>by simp
  | _::bs,_::ds,i+1=>by simp[zip_set (bs:=bs) (ds:=ds) (i:=i)]
theorem zip_get{γ:Type}{f:β→α→γ}(h1:bs[i]?=some b)(h2:ds[i]?=some d):(List.zipWith f bs ds)[i]?=some (f b d):=by
  rw[List.getElem?_zipWith,h1,h2]
theorem many_back (h1:bs[i]?=some b)(h2:ds[i]?=some d):Ent (P b d::restP P bs ds i::R) (manyP P bs ds::R):=by
  have e:ds.set i d=ds:=by
    apply List.ext_getElem?
    intro j
    by_cases hj:i=j
    · subst hj;rw[h2];simp[(List.getElem?_eq_some_iff.1 h2).1]
    · rw[List.getElem?_set_ne hj]
  have:=many_in (P:=P) (R:=R) (d':=d) h1 h2
  rwa [e] at this
theorem many_add (hl:bs.length=ds.length):Ent (P b d::manyP P bs ds::R) (manyP P (bs++[b]) (ds++[d])::R):=by
  refine Ent.tr (Ent.mono allP_out) ?_
  unfold manyP
  refine Ent.tr ?_ allP_in
  rw[List.zipWith_append hl,List.append_assoc]
  exact Ent.unA Ent.rfl
theorem r_many{Pg:Program}{F:Exit→Act→World→Prop}{N:Nat}{M:Amb}{K:List KI}{env:Env}(i:Nat){bs:List β}{ds:List α}{b:β}{d:α}(h1:bs[i]?=some b)(h2:ds[i]?=some d)[t:SelX H (manyP P bs ds) R](h:Run Pg F N M K env (P b d::restP P bs ds i::R)):Run Pg F N M K env H:=r_ent (Ent.tr t.ent (many_out h1 h2)) h
theorem many_nil:Ent R (manyP P [] ([]:List α)::R):=allP_in (L:=[])
end Go.Proofs.YtmakdilmibjpbaaGreatDoor
namespace Go.Proofs.YtmakdilmibjpbaaGreatDoor
open Go Go.RowKit
set_option linter.unusedVariables false
variable{P:Program}{F:Exit→Act→World→Prop}{N:Nat}{M:Amb}{env eb:Env}{H H' R:List HP}{a:Act}{w:World}{ops:Array Oper}{o:Oper}{rest:List Oper}{K:List KI}
variable{g gx gy gz:Bool}{x y z:Operand}{v v' u ret:Value}{T T2 E:TypeId}{Rr:Env→List HP→Prop}
theorem flat_set {sz j : Nat} {us r r' sp : List Value} : ∀ {rows : List (List Value)} {i : Nat}, RowsOk sz rows → rows[i]? = some r → Ins r j us r' →
    (rows.flatten ++ sp).take (i * sz + j) ++ us ++ (rows.flatten ++ sp).drop (i * sz + j + us.length) = (rows.set i r').flatten ++ sp ∧ i * sz + j + us.length ≤ rows.flatten.length ∧ r'.length = sz
  | [],_,_,h,_=>by simp at h
  | r0::rows,0,hok,h,hi=>by
    simp at h;subst h
    obtain⟨h1,h2⟩:=hi.eq
    have hl:=(hok r0 (by simp)).1
    subst h2
    refine⟨?_,by simp;omega,by simp;omega⟩
    simp only[Nat.zero_mul,Nat.zero_add,List.flatten_cons,List.set_cons_zero,List.append_assoc]
    rw[List.take_append_of_le_length (by omega),List.drop_append_of_le_length (by omega)]
  | r0::rows,i+1,hok,h,hi=>by
    have hl:=(hok r0 (by simp)).1
    obtain⟨h1,h2,h3⟩:=flat_set (sp:=sp) hok.tail (by simpa using h) hi
    refine⟨?_,by simp only[List.flatten_cons,List.length_append,hl,Nat.succ_mul];omega,h3⟩
    simp only[List.flatten_cons,List.set_cons_succ,List.append_assoc]
    rw[show (i+1)*sz+j=r0.length+(i*sz+j) from by rw[hl,Nat.succ_mul];omega,show r0.length+(i*sz+j)+us.length=r0.length+(i*sz+j+us.length) from by omega,
      List.take_length_add_append,List.drop_length_add_append,List.append_assoc]
    rw[← h1];simp
theorem RowsOk.set{sz i:Nat}{r':List Value}{rows:List (List Value)}(h:RowsOk sz rows)(hl:r'.length=sz)(h1:∀ v∈r',v.oneCell'=true):RowsOk sz (rows.set i r'):=fun x hx=>by
  rcases List.mem_or_eq_of_mem_set hx with hx|rfl
  · exact h x hx
  · exact⟨hl,h1⟩
theorem x_stel {sz i j q n : Nat} {rows : List (List Value)} {r r' us : List Value} (hs : SizeIs P T n) (he : Ent H (sl v E sz rows :: R)) (hrow : rows[i]? = some r) (hq : q = i * sz + j) (hop : o.op = .store T x y) (hgd : o.guard = Option.none) (hd : o.dst = Option.none)
    (hx : evo env x = some (true, ptrAt v q)) (hy : evo env y = some (true, u)) (hu : u.cells = us.toArray) (hn : us.length = n) (h1 : us.all (·.oneCell') = true) (hi : Ins r j us r')
    (h : Rr env (sl v E sz (rows.set i r') :: R)) : OpX P N M ops o env H Rr := fun a w Kc Q hf ho hK => by
  have hw:Region.wanted o (yielded ops a.tmps)=true:=by simp[Region.wanted,hgd]
  rw[hw,if_pos rfl]
  subst hq
  have ho':=ho.ent he
  rcases ho'.slE with ⟨rfl,rfl,_⟩|⟨b,cap,rfl,ho2⟩
  · simp at hrow
  · obtain⟨sp,ho3,q1,q2,q3,q4⟩:=ho2.arrE
    obtain⟨f1,f2,f3⟩:=flat_set (sp:=sp) q1 hrow hi
    have hv:ptrAt (.slice (some ⟨b,0,Option.none⟩) rows.length cap) (i*sz+j)=.pointer (some ⟨b,i*sz+j,Option.none⟩):=by simp[ptrAt]
    rw[hv] at hx
    have hrun:=run_storeVar (P:=P) (T:=T) (n:=n) hs ho3.blk.2 (u:=u) (i:=i*sz+j) (by simp[hu,hn]) (by rw[← hn,List.length_append];omega) (by simpa[hu] using h1)
    have hr:(execOp a.eval o).run P w=.ok .skip (w.setRow b ((rows.set i r').flatten++sp).toArray):=by
      rw[hu] at hrun
      simp only at hrun
      rw[← hn,f1] at hrun
      simp[execOp,hop,hf.ev hx _root_.rfl,hf.ev hy _root_.rfl,Instr.storeAt,Instr.sureAddr,hrun]
    simp only[Oper.wp,hr,Oper.upon_skip]
    have hr1:∀ c∈r',c.oneCell'=true:=by
      obtain⟨_,e⟩:=hi.eq
      rw[e]
      intro c hc
      have hro:=(q1 r (List.mem_of_getElem? hrow)).2
      rcases List.mem_append.1 hc with hc|hc
      · rcases List.mem_append.1 hc with hc|hc
        · exact hro c (List.mem_of_mem_take hc)
        · exact List.all_eq_true.1 h1 c hc
      · exact hro c (List.mem_of_mem_drop hc)
    have hfl:(rows.set i r').flatten.length=rows.flatten.length:=by rw[flat_len (q1.set f3 hr1),flat_len q1,List.length_set]
    have hput:=(setRow_own (cs':=(rows.set i r').flatten++sp) ho3).arrI (cap:=cap) (q1.set f3 hr1) (by simpa using q2) q3 (by rw[List.length_append,hfl,← List.length_append,q4])
    have:=hput.slI
    rw[List.length_set] at this
    exact hK _ _ _ _ h (by simpa[Act.put,hd] using hf) this
theorem made_one (u:Value)(n:Nat):madeCells #[u] n=(List.replicate n u).toArray:=by
  apply Array.ext'
  simp only[madeCells,Array.toList_map,Array.toList_range]
  apply List.ext_getElem?
  intro i
  simp only[List.getElem?_map,List.getElem?_replicate]
  by_cases h:i<n
  · simp[h,Nat.mod_one]
  · simp[h]
theorem rep_flat (u:Value):∀ n:Nat,(List.replicate n [u]).flatten=List.replicate n u
  | 0=>rfl
  | n+1=>by simp[List.replicate_succ,rep_flat u n]
theorem x_mks {bytes d n : Nat} (hT : P.underlying T = some (.slice E)) (hE : EL P E 1 bytes) (zr : ZR P E [u]) (hu : u.oneCell' = true) (hop : o.op = .makeSlice T x x) (hgd : o.guard = Option.none) (hd : o.dst = some d) (hN : Nat.blt d N = true)
    (hx : evo env x = some (true, .int .i64 (n : Int))) (hb : bytes * n ≤ 281474976710656) (hm : n ≤ maxLen) (h : ∀ v', Rr ((d, true, v') :: env) (sl v' E 1 (List.replicate n [u]) :: H)) : OpX P N M ops o env H Rr := fun a w Kc Q hf ho hK => by
  have hw:Region.wanted o (yielded ops a.tmps)=true:=by simp[Region.wanted,hgd]
  rw[hw,if_pos rfl]
  obtain⟨i,z,hi,hz,q1,q2,q3⟩:=hE.is
  subst q2
  have hzc:z.cells=#[u]:=by
    unfold ZR at zr
    rw[hi] at zr
    simp[hz] at zr
    exact Array.ext' (by simpa using zr)
  have hm':(n:Int)≤9223372036854775807:=by simp only[maxLen] at hm;omega
  have hb':(i.bytes:Int)*(n:Int)≤281474976710656:=by
    have h:((i.bytes*n:Nat):Int)≤281474976710656:=by omega
    rwa [Int.natCast_mul] at h
  have hrun:=run_make (P:=P) w T E i z hT hi hz .i64 .i64 n n (by omega) (Int.le_refl _) hb' hm'
  simp only[Int.toNat_natCast,q1,Nat.mul_one,hzc,made_one] at hrun
  have hr:(execOp a.eval o).run P w=.ok (.value (.slice (some ⟨w.heap.size,0,Option.none⟩) n n)) (w.alloc (.cells (List.replicate n u).toArray E)):=by
    simp[execOp,hop,hf.ev hx rfl,hrun]
  simp only[Oper.wp,hr,Oper.upon_value]
  refine hK _ _ _ _ (h _) (by rw[hd];exact hf.put hN true _) ?_
  have hrows:RowsOk 1 (List.replicate n [u]):=fun r hr=>by
    have:=List.eq_of_mem_replicate hr
    subst this
    exact⟨rfl,fun c hc=>by simp at hc;subst hc;exact hu⟩
  have hal:=(ho.alloc ((List.replicate n [u]).flatten++[]) E).arrI (cap:=n) (sz:=1) hrows (by simp) hm (by rw[List.append_nil,flat_len hrows];simp)
  have:=hal.slI
  rw[List.append_nil,rep_flat,List.length_replicate] at this
  exact this
section short
variable{d:Nat}{ty:TypeId}{ps:String}{af:Array Edge}
theorem p_stel {sz i q n : Nat} {rows : List (List Value)} {r r' us : List Value} (j : Nat) (hs : SizeIs P T n) (hx : evo env x = some (true, ptrAt v q)) [s : SelS H v E sz rows R] (hrow : rows[i]? = some r) (hq : q = i * sz + j) (hy : evo env y = some (true, u)) (hu : u.cells = us.toArray) (hn : us.length = n) (h1 : us.all (·.oneCell') = true) (hi : Ins r j us r')
    (h : Ops P F N M K ops rest env (sl v E sz (rows.set i r') :: R)) : Ops P F N M K ops (⟨Option.none, .store T x y, ty, ps, af, Option.none⟩ :: rest) env H :=
  l_op (x_stel hs s.ent hrow hq rfl rfl rfl hx hy hu hn h1 hi h)
theorem p_mks {bytes n : Nat} (hT : P.underlying T = some (.slice E)) (hE : EL P E 1 bytes) (zr : ZR P E [u]) (hu : u.oneCell' = true) (hx : evo env x = some (true, .int .i64 (n : Int))) (hN : Nat.blt d N = true) (hb : bytes * n ≤ 281474976710656 ∧ n ≤ maxLen)
    (h : ∀ v', Ops P F N M K ops rest ((d, true, v') :: env) (sl v' E 1 (List.replicate n [u]) :: H)) : Ops P F N M K ops (⟨some d, .makeSlice T x x, ty, ps, af, Option.none⟩ :: rest) env H :=
  l_op (x_mks hT hE zr hu rfl rfl rfl hN hx hb.1 hb.2 h)
end short
variable{E0:Env}{Hq He Re H2:List HP}{p:Plan}{eff:List Nat}
theorem qm_stel {i sz k q n : Nat} {rows : List (List Value)} {r r' us : List Value} (j : Nat) (hsz : SizeIs P T n) (hrow : rows[k]? = some r) (hq : q = k * sz + j) (l : List Src) (hac : acB ops = true) (hds : dstB ops = true) (hi : ops[i]? = some o) (hn : getP p i = Option.none) (hd : o.dst = Option.none) (hs : srcB ops i l = true) (hrest : restB ops p i = true) (hg : GdW ops (srcEnv p E0 l) o)
    (hop : o.op = .store T x y) (hx : evo (srcEnv p E0 l) x = some (true, ptrAt v q)) [s : SelS He v E sz rows Re] (hy : evo (srcEnv p E0 l) y = some (true, u)) (hu : u.cells = us.toArray) (hvn : us.length = n) (h1 : us.all (·.oneCell') = true) (hin : Ins r j us r')
    (h : QM P F N M K ops E0 Hq ((i, Option.none) :: p) (i :: eff) (sl v E sz (rows.set k r') :: Re)) : QM P F N M K ops E0 Hq p eff He :=
  qm_s l hac hds hi hn hd hs hrest hg (hg.opx (x_stel (o:=(ung o)) hsz (Ent.app (A':=sl v E sz rows::Re) s.ent) hrow hq hop rfl hd hx hy hu hvn h1 hin ⟨sl v E sz (rows.set k r')::Re,rfl,h⟩))
theorem qb_stel {i sz k q n : Nat} {rows : List (List Value)} {r r' us : List Value} (j : Nat) (hsz : SizeIs P T n) (hrow : rows[k]? = some r) (hq : q = k * sz + j) (l : List Src) (hac : acB ops = true) (hds : dstB ops = true) (hi : ops[i]? = some o) (hn : getP p i = Option.none) (hd : o.dst = Option.none) (hs : srcB ops i l = true) (hrest : restB ops p i = true) (hbar : barB ops p i = true) (hg : GdW ops (srcEnv p E0 l) o)
    [c : Cat He Hq H2] (hop : o.op = .store T x y) (hx : evo (srcEnv p E0 l) x = some (true, ptrAt v q)) [s : SelS H2 v E sz rows Re] (hy : evo (srcEnv p E0 l) y = some (true, u)) (hu : u.cells = us.toArray) (hvn : us.length = n) (h1 : us.all (·.oneCell') = true) (hin : Ins r j us r')
    (h : QM P F N M K ops E0 [] ((i, Option.none) :: p) (i :: p.map (·.1)) (sl v E sz (rows.set k r') :: Re)) : QM P F N M K ops E0 Hq p eff He :=
  qb_s l hac hds hi hn hd hs hrest hbar hg (hg.opx (x_stel (o:=(ung o)) hsz (by rw[c.eq];exact s.ent) hrow hq hop rfl hd hx hy hu hvn h1 hin h))
theorem qm_mks {i d bytes n : Nat} (hT : P.underlying T = some (.slice E)) (hE : EL P E 1 bytes) (zr : ZR P E [u]) (hu : u.oneCell' = true) (l : List Src) (hac : acB ops = true) (hds : dstB ops = true) (hi : ops[i]? = some o) (hn : getP p i = Option.none) (hd : o.dst = some d) (hN : Nat.blt d N = true) (hs : srcB ops i l = true) (hrest : restB ops p i = true) (hg : GdW ops (srcEnv p E0 l) o)
    (hop : o.op = .makeSlice T x x) (hx : evo (srcEnv p E0 l) x = some (true, .int .i64 (n : Int))) (hb : bytes * n ≤ 281474976710656 ∧ n ≤ maxLen)
    (h : ∀ v', QM P F N M K ops E0 Hq ((i, some (d, true, v')) :: p) (i :: eff) (sl v' E 1 (List.replicate n [u]) :: He)) : QM P F N M K ops E0 Hq p eff He :=
  qm_e l hac hds hi hn hd hN hs hrest hg (hg.opx (x_mks (o:=(ung o)) hT hE zr hu hop rfl hd hN hx hb.1 hb.2 fun v'=>⟨v',sl v' E 1 (List.replicate n [u])::He,by simp[look],rfl,h v'⟩))
theorem fnv_to{f:FuncId}{vs:List Value}(h:FnV P M H f vs v)(e:v=v'):FnV P M H f vs v':=e▸h
theorem FnE.all{α:Type}{f:FuncId}{vs:List Value}{A:List HP}{rt:α→Value}{New:α→List HP}(h:FnE P M f vs A rt (fun x=>New x++A)):FnR P M A f vs (fun v H'=>∃ x,v=rt x∧H'=New x++A):=by
  have:=h []
  simpa using this
theorem qm_cm {i j di dj bytes n : Nat} {oi oj : Oper} {α : Type} {rt : α → Value} {X : α → HP} {xs : List Operand} {vs : List Value} {at' : Array TypeId} {f : FuncId} {li lj : List Src} (hT : P.underlying T = some (.slice E)) (hE : EL P E 1 bytes) (zr : ZR P E [u]) (hu : u.oneCell' = true)
    (hac : acB ops = true) (hds : dstB ops = true) (hi : ops[i]? = some oi) (hj : ops[j]? = some oj) (ni : getP p i = Option.none) (nj : getP p j = Option.none)
    (die : oi.dst = some di) (dje : oj.dst = some dj) (Ni : Nat.blt di N = true) (Nj : Nat.blt dj N = true) (eij : Nat.beq i j = false) (si : srcB ops i li = true) (sj : srcB ops j lj = true) (c0 : restC ops p [i, j] = true) (ri : ∀ y, restB ops ((j, y) :: p) i = true) (rj : ∀ x, restB ops ((i, x) :: p) j = true)
    (gi : oi.guard = Option.none) (gj : oj.guard = Option.none) (cf : cfB P f = true) (hopi : oi.op = .call { callee := .value (.func f), args := xs.toArray, argTypes := at' }) (hopj : oj.op = .makeSlice T x x)
    (ai : Args (srcEnv p E0 li) xs vs) (ai' : ∀ y, Args (srcEnv ((j, y) :: p) E0 li) xs vs) (xj : evo (srcEnv p E0 lj) x = some (true, .int .i64 (n : Int))) (xj' : ∀ z, evo (srcEnv ((i, z) :: p) E0 lj) x = some (true, .int .i64 (n : Int))) (hb : bytes * n ≤ 281474976710656 ∧ n ≤ maxLen)
    (hc : ∀ He, FnR P M (He ++ Hq) f vs (fun v H' => ∃ x, v = rt x ∧ H' = [X x] ++ (He ++ Hq)))
    (h : ∀ x v', QM P F N M K ops E0 Hq ((j, some (dj, true, v')) :: (i, some (di, true, rt x)) :: p) (j :: i :: eff) (sl v' E 1 (List.replicate n [u]) :: X x :: He)) : QM P F N M K ops E0 Hq p eff He := by
  have hij:¬ i=j:=fun e=>by subst e;simp at eij
  have gw:∀ (o:Oper) (q:Plan) (l:List Src),o.guard=Option.none→GdW ops (srcEnv q E0 l) o:=fun o q l hg=>⟨true,.n hg,rfl⟩
  have gp:∀ {i k:Nat} {x:Option (Nat×Bool×Value)} {q:Plan},¬ i=k→getP q k=Option.none→getP ((i,x)::q) k=Option.none:=fun hne hq=>by simp only[getP];rw[beq_ne hne];exact hq
  refine qm_any (cs:=[i,j]) (i0:=i) (by simp) hac hds c0 fun c hcc=>?_
  simp only[List.mem_cons,List.not_mem_nil,or_false] at hcc
  rcases hcc with rfl|rfl
  · refine⟨oi,li,hi,ni,si,gw _ _ _ gi,hx_calln2 (New:=fun x=>[X x]) li die Ni (gw _ _ _ gi) cf hopi ai (hc _) fun z=>?_⟩
    refine qm_mks hT hE zr hu lj hac hds hj (gp hij nj) dje Nj sj (rj _) (gw _ _ _ gj) hopj (xj' _) hb fun v'=>?_
    exact h z v'
  · refine⟨oj,lj,hj,nj,sj,gw _ _ _ gj,hx_e dje Nj (gw _ _ _ gj) ((gw _ _ lj gj).opx (x_mks (o:=ung oj) hT hE zr hu hopj rfl dje Nj xj hb.1 hb.2 fun v'=>⟨v',sl v' E 1 (List.replicate n [u])::He,by simp[look],rfl,?_⟩))⟩
    refine qm_calln2 (New:=fun x=>[X x]) li hac hds hi (gp (fun e=>hij e.symm) ni) die Ni si (ri _) (gw _ _ _ gi) cf hopi (ai' _) (hc _) fun z=>?_
    refine QM.ent (He':=sl v' E 1 (List.replicate n [u])::X z::He) Ent.swap (QM.ext (fun k=>?_) (fun k=>?_) (h z v'))
    · exact getP_swap (fun e=>hij e.symm) p k
    · simp only[List.mem_cons];constructor<;>(rintro (q|q|q)<;>simp[q])
def Cand (P:Program)(F:Exit→Act→World→Prop)(N:Nat)(M:Amb)(K:List KI)(ops:Array Oper)(E0:Env)(Hq:List HP)(p:Plan)(eff:List Nat)(He:List HP)(c:Nat):Prop:=
  ∃ o l,ops[c]?=some o∧getP p c=Option.none∧srcB ops c l=true∧GdW ops (srcEnv p E0 l) o∧HX P F N M K ops E0 Hq p eff He c o l
theorem qm_two{i j:Nat}(hac:acB ops=true)(hds:dstB ops=true)(c0:restC ops p [i,j]=true)(hi:Cand P F N M K ops E0 Hq p eff He i)(hj:Cand P F N M K ops E0 Hq p eff He j):QM P F N M K ops E0 Hq p eff He:=
  qm_any (cs:=[i,j]) (i0:=i) (by simp) hac hds c0 fun c hc=>by
    simp only[List.mem_cons,List.not_mem_nil,or_false] at hc
    rcases hc with rfl|rfl
    · exact hi
    · exact hj
theorem qm_three{i j k:Nat}(hac:acB ops=true)(hds:dstB ops=true)(c0:restC ops p [i,j,k]=true)(hi:Cand P F N M K ops E0 Hq p eff He i)(hj:Cand P F N M K ops E0 Hq p eff He j)(hk:Cand P F N M K ops E0 Hq p eff He k):QM P F N M K ops E0 Hq p eff He:=
  qm_any (cs:=[i,j,k]) (i0:=i) (by simp) hac hds c0 fun c hc=>by
    simp only[List.mem_cons,List.not_mem_nil,or_false] at hc
    rcases hc with rfl|rfl|rfl
    · exact hi
    · exact hj
    · exact hk
theorem cand_alloc {i d : Nat} {zs : List Value} (zr : ZR P T zs) (hi : ops[i]? = some o) (hn : getP p i = Option.none) (hd : o.dst = some d) (hN : Nat.blt d N = true) (hg : o.guard = Option.none) (hop : o.op = .alloc T)
    (h : ∀ b, QM P F N M K ops E0 Hq ((i, some (d, true, .pointer (some ⟨b, 0, Option.none⟩))) :: p) (i :: eff) (blk b zs T :: He)) : Cand P F N M K ops E0 Hq p eff He i :=
  have gw:GdW ops (srcEnv p E0 []) o:=⟨true,.n hg,rfl⟩
  ⟨o,[],hi,hn,rfl,gw,hx_e hd hN gw (gw.opx (x_alloc (o:=ung o) zr hop rfl hd hN fun b=>⟨.pointer (some ⟨b,0,Option.none⟩),blk b zs T::He,by simp[look],rfl,h b⟩))⟩
theorem cand_calln {i d : Nat} {α : Type} {rt : α → Value} {X : α → HP} {xs : List Operand} {vs : List Value} {at' : Array TypeId} {f : FuncId} (l : List Src) (hi : ops[i]? = some o) (hn : getP p i = Option.none) (hd : o.dst = some d) (hN : Nat.blt d N = true) (hs : srcB ops i l = true) (hg : o.guard = Option.none)
    (cf : cfB P f = true) (hop : o.op = .call { callee := .value (.func f), args := xs.toArray, argTypes := at' }) (ha : Args (srcEnv p E0 l) xs vs) (hc : FnR P M (He ++ Hq) f vs (fun v H' => ∃ x, v = rt x ∧ H' = [X x] ++ (He ++ Hq)))
    (h : ∀ x, QM P F N M K ops E0 Hq ((i, some (d, true, rt x)) :: p) (i :: eff) (X x :: He)) : Cand P F N M K ops E0 Hq p eff He i :=
  have gw:GdW ops (srcEnv p E0 l) o:=⟨true,.n hg,rfl⟩
  ⟨o,l,hi,hn,hs,gw,hx_calln2 (New:=fun x=>[X x]) l hd hN gw cf hop ha hc h⟩
theorem cand_callc {i d : Nat} {A A' C R : List HP} {xs : List Operand} {vs : List Value} {at' : Array TypeId} {f : FuncId} (l : List Src) (hi : ops[i]? = some o) (hn : getP p i = Option.none) (hd : o.dst = some d) (hN : Nat.blt d N = true) (hs : srcB ops i l = true) (hg : o.guard = Option.none)
    (cf : cfB P f = true) (hop : o.op = .call { callee := .value (.func f), args := xs.toArray, argTypes := at' }) (ha : Args (srcEnv p E0 l) xs vs) [s : SelL He A R] [c : Cat A' R C] (hc : FnC P M f vs ret A A')
    (h : QM P F N M K ops E0 Hq ((i, some (d, true, ret)) :: p) (i :: eff) C) : Cand P F N M K ops E0 Hq p eff He i :=
  have gw:GdW ops (srcEnv p E0 l) o:=⟨true,.n hg,rfl⟩
  ⟨o,l,hi,hn,hs,gw,hx_e hd hN gw (gw.opx (x_call (o:=ung o) (Post:=fun v H'=>v=ret∧H'=C++Hq) cf hop rfl hd hN ha
    (FnR.pre (Ent.app (A':=A++R) s.ent) (by rw[List.append_assoc];exact (hc (R++Hq)).post fun v H' hv=>⟨hv.1,by rw[hv.2,← List.append_assoc,c.eq]⟩)) fun v H' hv=>⟨v,C,by simp[look],hv.2,hv.1▸h⟩))⟩
theorem pv_indexc {nn i : Nat} {cs : List Value} {k : IntKind} {m : Int} (hT : P.underlying T = some (.array nn E)) (tc : tcB P E = true) (hn : g = true → m = (i : Int) ∧ i < nn) (hg : Gd ops env o g) (hop : o.op = .index T x y)
    (hx : evo env x = some (gx, .agg cs.toArray)) (hy : evo env y = some (gy, .int k m)) (hi : g = true → gx = true ∧ gy = true) (hv : g = true → cs[i]? = some v) : PV P ops o env g v :=
  fun _ _ hf=>⟨hg.wanted hf,fun e w=>by
    obtain⟨rfl,hlt⟩:=hn e
    obtain⟨h1,inf,h3,h4⟩:=run_isAgg_no tc w
    have hv:=hv e
    have hbd:(0:Int)≤(i:Int)∧(i:Int)<(nn:Int):=by omega
    have hv':cs.toArray[i]?=some v:=by simpa using hv
    simp only[execOp,hop,Instr.index,hf.ev hx (hi e).1,hf.ev hy (hi e).2,asIntOf,Sem.run_bind,Sem.run_pure,Result.andThen_ok,run_und hT,hbd,and_self,if_true,sizeOf,run_info h3,h4,part,h1,Int.toNat_natCast,Nat.mul_one]
    simp[hv']⟩
end Go.Proofs.YtmakdilmibjpbaaGreatDoor
