/- Strings, told by lists of bytes: what is compared, joined, counted, cut; errors held against nil. For whatever program P. Slices of one cell an element, made of as many as are told. For whatever program P. What a builder of strings is made of: a string laid behind a slice of bytes, pointers seen as unsafe ones, a slice's bytes as a string; clear. For whatever program P. -/
import Derived.Test.YtmakdilmibjpbaaGreatDoorElt
import Derived.Test.YtmakdilmibjpbaaGreatDoorTwo
import Derived.Lib.Builder
import Derived.Lib.UnsafeStr
import Derived.Laws.Externs
namespace Go.Proofs.YtmakdilmibjpbaaGreatDoor
open Go Go.RowKit
set_option linter.unusedVariables false
set_option linter.unusedSimpArgs false
abbrev str (l:List UInt8):Value:=.string ⟨l.toArray⟩
theorem str_eta (s:ByteArray):Value.string s=str s.data.toList:=rfl
variable{P:Program}{F:Exit→Act→World→Prop}{N:Nat}{M:Amb}{env eb:Env}{H H' R:List HP}{a:Act}{w:World}{ops:Array Oper}{o:Oper}{rest:List Oper}{K:List KI}
variable{g gx gy gz:Bool}{x y z:Operand}{v v' u ret:Value}{T T2 E:TypeId}{k:IntKind}{m n:Int}{s t:List UInt8}
theorem pv_seq (hg:Gd ops env o g)(hop:o.op=.binOp .eql T x y T2)(hx:evo env x=some (gx,str s))(hy:evo env y=some (gy,str t))(hi:g=true→gx=true∧gy=true):PV P ops o env g (.bool (decide (s=t))):=
  fun _ _ hf=>⟨hg.wanted hf,fun e w=>by
    simp[execOp,hop,hf.ev hx (hi e).1,hf.ev hy (hi e).2,binOp,eqGuard,Op.stringOp]
    rw[Bool.eq_iff_iff];simp⟩
theorem pv_sne (hg:Gd ops env o g)(hop:o.op=.binOp .neq T x y T2)(hx:evo env x=some (gx,str s))(hy:evo env y=some (gy,str t))(hi:g=true→gx=true∧gy=true):PV P ops o env g (.bool (!decide (s=t))):=
  fun _ _ hf=>⟨hg.wanted hf,fun e w=>by
    simp[execOp,hop,hf.ev hx (hi e).1,hf.ev hy (hi e).2,binOp,eqGuard,Op.stringOp]
    rw[Bool.eq_iff_iff];simp⟩
theorem pv_sadd (hb:g=true→s.length+t.length≤9223372036854775807)(hg:Gd ops env o g)(hop:o.op=.binOp .add T x y T2)(hx:evo env x=some (gx,str s))(hy:evo env y=some (gy,str t))(hi:g=true→gx=true∧gy=true):PV P ops o env g (str (s++t)):=
  fun _ _ hf=>⟨hg.wanted hf,fun e w=>by
    have h1:=run_string_add_sum (P:=P) w ⟨s.toArray⟩ ⟨t.toArray⟩ (by simpa[ByteArray.size] using hb e)
    rw[ByteArray.mk_append_mk] at h1
    simp[execOp,hop,hf.ev hx (hi e).1,hf.ev hy (hi e).2,binOp,eqGuard,h1]⟩
theorem pv_slen {Tr : TypeId} {at' : Array TypeId} (hs : P.underlying T = some .string) (hg : Gd ops env o g)
    (hop : o.op = .call { callee := .builtin .len, args := #[x], argTypes := at' }) (hT : at'[0]? = some T) (_ : o.type = Tr) (hx : evo env x = some (gx, str s)) (hi : g = true → gx = true) : PV P ops o env g (.int .i64 (s.length : Int)) :=
  fun _ _ hf=>⟨hg.wanted hf,fun e w=>by
    have h0:(⟨s.toArray⟩:ByteArray).size=s.length:=by simp[ByteArray.size]
    simp[execOp,hop,resolve,invoke,builtin,Builtin.len_,hf.ev hx (hi e),hT,run_und hs,goInt,h0]⟩
theorem pv_sidx {i : Nat} {c : UInt8} (hT : P.underlying T = some .string) (hn : g = true → m = (i : Int)) (hc : g = true → s[i]? = some c) (hg : Gd ops env o g) (hop : o.op = .index T x y)
    (hx : evo env x = some (gx, str s)) (hy : evo env y = some (gy, .int k m)) (hi : g = true → gx = true ∧ gy = true) : PV P ops o env g (.int .u8 c.toNat) :=
  fun _ _ hf=>⟨hg.wanted hf,fun e w=>by
    obtain rfl:=hn e
    have hlt:i<s.length:=(List.getElem?_eq_some_iff.1 (hc e)).1
    have h1:(⟨s.toArray⟩:ByteArray)[i]?=some c:=by
      rw[getElem?_pos _ i (by simpa[ByteArray.size] using hlt)]
      have:=(List.getElem?_eq_some_iff.1 (hc e)).2
      simp[← this]
      rfl
    simp only[execOp,hop,Instr.index,hf.ev hx (hi e).1,hf.ev hy (hi e).2,asIntOf,Sem.run_bind,Sem.run_pure,Result.andThen_ok,run_und hT,Int.natCast_nonneg,if_true,Int.toNat_natCast,h1]⟩
theorem pv_sslc {l h : Nat} {lo hi' : Operand} {gl gh : Bool} {kl kh : IntKind} (hT : P.underlying T = some .string) (h1 : g = true → l ≤ h) (h2 : g = true → h ≤ s.length) (hg : Gd ops env o g) (hop : o.op = .slice T x (some lo) (some hi') Option.none)
    (hx : evo env x = some (gx, str s)) (hl : evo env lo = some (gl, .int kl (l : Int))) (hh : evo env hi' = some (gh, .int kh (h : Int))) (hi : g = true → gx = true ∧ gl = true ∧ gh = true) : PV P ops o env g (str ((s.take h).drop l)) :=
  fun _ _ hf=>⟨hg.wanted hf,fun e w=>by
    have e1:(⟨s.toArray⟩:ByteArray).extract l h=⟨((s.take h).drop l).toArray⟩:=by
      apply ByteArray.ext
      simp[ByteArray.data_extract,List.drop_take]
    have hle:=h1 e;have hle2:=h2 e
    have h0:(⟨s.toArray⟩:ByteArray).size=s.length:=by simp[ByteArray.size]
    simp only[execOp,hop,Instr.sliceAt,Instr.slice,Instr.sliceBounds,Instr.sliceBound,Option.map,hf.ev hx (hi e).1,hf.ev hl (hi e).2.1,hf.ev hh (hi e).2.2,asIntOf,Sem.run_bind,Sem.run_pure,Result.andThen_ok,run_und hT,Option.isSome,Bool.false_eq_true,if_false,h0]
    rw[if_pos (by constructor<;>omega)]
    simp only[Sem.run_bind,Sem.run_pure,Result.andThen_ok,Int.toNat_natCast]
    rw[if_pos (by constructor<;>omega)]
    simp[e1]⟩
theorem run_eqi{ms:Array (String×TypeId)}(d:Nat)(tp:TypeId)(pv:Value)(hT:P.underlying T=some (.interface ms))(w:World):(Op.equalIn (d+1) T (.iface tp pv) .nilIface).run P w=.ok false w:=by
  simp[Op.equalIn,run_und hT]
theorem run_eqi0{ms:Array (String×TypeId)}(d:Nat)(hT:P.underlying T=some (.interface ms))(w:World):(Op.equalIn (d+1) T .nilIface .nilIface).run P w=.ok true w:=by
  simp[Op.equalIn,run_und hT]
theorem pv_inil{ms:Array (String×TypeId)}{tp:TypeId}{pv:Value}(hT:P.underlying T=some (.interface ms))(hg:Gd ops env o g)(hop:o.op=.binOp .neq T x (.const .nilIface) T2)(hx:evo env x=some (gx,.iface tp pv))(hi:g=true→gx=true):PV P ops o env g (.bool true):=
  fun _ _ hf=>⟨hg.wanted hf,fun e w=>by
    have h1:=run_eqi (P:=P) 9999 tp pv hT w
    have h2:∀ a:Act,a.eval (.const .nilIface)=.nilIface:=fun _=>rfl
    simp only[execOp,hop,hf.ev hx (hi e),h2]
    simp[binOp,eqGuard,Op.equal,Op.maxDepth,h1]⟩
theorem pv_inil0{ms:Array (String×TypeId)}(hT:P.underlying T=some (.interface ms))(hg:Gd ops env o g)(hop:o.op=.binOp .neq T x (.const .nilIface) T2)(hx:evo env x=some (gx,.nilIface))(hi:g=true→gx=true):PV P ops o env g (.bool false):=
  fun _ _ hf=>⟨hg.wanted hf,fun e w=>by
    have h1:=run_eqi0 (P:=P) 9999 hT w
    have h2:∀ a:Act,a.eval (.const .nilIface)=.nilIface:=fun _=>rfl
    simp only[execOp,hop,hf.ev hx (hi e),h2]
    simp[binOp,eqGuard,Op.equal,Op.maxDepth,h1]⟩
end Go.Proofs.YtmakdilmibjpbaaGreatDoor
namespace Go.Proofs.YtmakdilmibjpbaaGreatDoor
open Go Go.RowKit
set_option linter.unusedVariables false
set_option linter.unusedSimpArgs false
variable{P:Program}{F:Exit→Act→World→Prop}{N:Nat}{M:Amb}{env eb:Env}{H H' R:List HP}{a:Act}{w:World}{ops:Array Oper}{o:Oper}{rest:List Oper}{K:List KI}
variable{g gx gy gz:Bool}{x y z:Operand}{v v' u ret:Value}{T T2 E:TypeId}{Rr:Env→List HP→Prop}
inductive PartsN (env:Env):Nat→List (Nat×Operand)→List Value→Prop
  | n {k:Nat}:PartsN env k [] []
  | c {k:Nat} {x:Operand} {v:Value} {ps:List (Nat×Operand)} {vs:List Value} (h:evo env x=some (true,v)) (h1:v.cells=[v].toArray) (ho:v.oneCell'=true) (r:PartsN env (k+1) ps vs):PartsN env k ((k,x)::ps) (v::vs)
theorem PartsN.len{k:Nat}{ps:List (Nat×Operand)}{vs:List Value}(h:PartsN env k ps vs):vs.length=ps.length:=by
  induction h with
  | n=>rfl
  | c h h1 ho r ih=>simp[ih]
theorem PartsN.one{k:Nat}{ps:List (Nat×Operand)}{vs:List Value}(h:PartsN env k ps vs):∀ v∈vs,v.oneCell'=true:=by
  induction h with
  | n=>intro v hv;cases hv
  | c h h1 ho r ih=>
    intro v hv
    simp only[List.mem_cons] at hv
    rcases hv with rfl|hv
    · exact ho
    · exact ih v hv
theorem PartsN.lt{k nn:Nat}{ps:List (Nat×Operand)}{vs:List Value}(h:PartsN env k ps vs)(hn:k+ps.length≤nn):ps.all (fun q=>Nat.blt q.1 nn)=true:=by
  induction h with
  | n=>rfl
  | c h h1 ho r ih=>
    simp only[List.length_cons] at hn
    simp only[List.all_cons,Bool.and_eq_true]
    exact⟨by simp;omega,ih (by omega)⟩
theorem ins_mid{v c:Value}{l:List Value}:∀ (done:List Value),Ins (done++c::l) done.length [v] (done++v::l)
  | []=>.p .z
  | d::done=>.s (ins_mid done)
theorem fill_parts{pl:List (Nat×Nat)}{k:Nat}{ps:List (Nat×Operand)}{vs:List Value}(h:PartsN env k ps vs):∀ {done zs:List Value},done.length=k→zs.length=ps.length→(∀ i,i<k+ps.length→pl[i]?=some (i,1))→FillR pl env true (done++zs) ps (done++vs):=by
  induction h with
  | n=>
    intro done zs hd hz hp
    cases zs with
    | nil=>exact .n
    | cons z zs=>simp at hz
  | c h h1 ho r ih=>
    rename_i k x v ps vs
    intro done zs hd hz hp
    cases zs with
    | nil=>simp at hz
    | cons z zs=>
      simp only[List.length_cons] at hz hp
      refine .c h (fun _=>rfl) (hp k (by omega)) h1 rfl (hd▸ins_mid done) ?_
      have:=ih (done:=done++[v]) (zs:=zs) (by simp[hd]) (by omega) (fun i hi=>hp i (by omega))
      simpa using this
theorem flat_ones:∀ (vs:List Value),(vs.map fun v=>[v]).flatten=vs
  | []=>rfl
  | v::vs=>by rw[List.map_cons,List.flatten_cons,flat_ones vs];rfl
theorem x_bsliceN {ps : List (Nat × Operand)} {vs : List Value} {nn d : Nat} {zv : Value} (hT : P.underlying T = some (.slice E)) (hE : SizeIs P E 1) (zr : ZR P E [zv]) (hp : PartsN env 0 ps vs) (hn : ps.length = nn) (hnn : Nat.ble nn 1000 = true)
    (hop : o.op = .buildSlice T nn ps.toArray) (hgd : o.guard = Option.none) (hd : o.dst = some d) (hN : Nat.blt d N = true)
    (h : ∀ b, Rr ((d, true, .slice (some ⟨b, 0, Option.none⟩) nn nn) :: env) (arr b E 1 (vs.map fun v => [v]) nn :: H)) : OpX P N M ops o env H Rr := by
  have hn':nn≤1000:=Nat.le_of_ble_eq_true hnn
  have hl:=hp.len
  refine x_bslice (nn:=nn) (ps:=ps) (zl:=[zv]) (zs:=(List.range (nn*1)).map (fun i=>[zv].toArray[i % [zv].length]!)) (cs:=vs) (rows:=vs.map fun v=>[v]) ((List.range nn).map fun i=>(i,1)) hT hE zr (by omega) (by simp only[maxLen];omega) (fun i=>?_) (hp.lt (by omega)) rfl hop hgd hd hN ?_ ?_ ?_ (by simp[hl,hn]) h
  · rw[List.getElem?_map]
    by_cases hi:i<nn
    · rw[if_pos hi,List.getElem?_range hi];simp
    · rw[if_neg hi,List.getElem?_eq_none (by simpa using hi)];rfl
  · have:=fill_parts (pl:=(List.range nn).map fun i=>(i,1)) hp (done:=[]) (zs:=(List.range (nn*1)).map (fun i=>[zv].toArray[i % [zv].length]!)) rfl (by simp[hn]) (fun i hi=>by rw[List.getElem?_map,List.getElem?_range (by omega)];rfl)
    simpa using this
  · exact flat_ones vs
  · intro r hr
    simp only[List.mem_map] at hr
    obtain⟨v,hv,rfl⟩:=hr
    exact⟨rfl,fun c hc=>by simp at hc;subst hc;exact hp.one c hv⟩
section short
variable{d:Nat}{ty:TypeId}{pss:String}{af:Array Edge}
theorem p_bsliceN {ps : List (Nat × Operand)} {vs : List Value} {nn : Nat} {zv : Value} (hT : P.underlying T = some (.slice E)) (hE : SizeIs P E 1) (zr : ZR P E [zv]) (hp : PartsN env 0 ps vs) (hn : ps.length = nn) (hnn : Nat.ble nn 1000 = true) (hN : Nat.blt d N = true)
    (h : ∀ b, Ops P F N M K ops rest ((d, true, .slice (some ⟨b, 0, Option.none⟩) nn nn) :: env) (sl (.slice (some ⟨b, 0, Option.none⟩) nn nn) E 1 (vs.map fun v => [v]) :: H)) : Ops P F N M K ops (⟨some d, .buildSlice T nn ps.toArray, ty, pss, af, Option.none⟩ :: rest) env H :=
  l_op (x_bsliceN hT hE zr hp hn hnn rfl rfl rfl hN fun b=>o_ent (Ent.imp fun _ hx=>.inr ⟨b,nn,by simp[hp.len,hn],hx⟩) (h b))
theorem p_bsl {ps : List (Nat × Operand)} {vs : List Value} {nn : Nat} {zv : Value} {rows : List (List Value)} (hT : P.underlying T = some (.slice E)) (hE : SizeIs P E 1) (zr : ZR P E [zv]) (hp : PartsN env 0 ps vs) (e : (vs.map fun v => [v]) = rows) (hn : ps.length = nn) (hnn : Nat.ble nn 1000 = true) (hN : Nat.blt d N = true)
    (h : ∀ b, Rd M [sl (.slice (some ⟨b, 0, Option.none⟩) nn nn) E 1 rows] (.slice (some ⟨b, 0, Option.none⟩) nn nn) 1 rows → Ops P F N M K ops rest ((d, true, .slice (some ⟨b, 0, Option.none⟩) nn nn) :: env) (sl (.slice (some ⟨b, 0, Option.none⟩) nn nn) E 1 rows :: H)) : Ops P F N M K ops (⟨some d, .buildSlice T nn ps.toArray, ty, pss, af, Option.none⟩ :: rest) env H :=
  p_bsliceN hT hE zr hp hn hnn hN fun b=>by
    rw[e];exact o_rd _ (h b)
variable{E0:Env}{Hq He Re:List HP}{p:Plan}{eff:List Nat}
theorem qm_bsliceN {i : Nat} {ps : List (Nat × Operand)} {vs : List Value} {nn : Nat} {zv : Value} (hT : P.underlying T = some (.slice E)) (hE : SizeIs P E 1) (zr : ZR P E [zv]) (l : List Src) (hac : acB ops = true) (hds : dstB ops = true) (hi : ops[i]? = some o) (hn : getP p i = Option.none) (hd : o.dst = some d) (hN : Nat.blt d N = true) (hs : srcB ops i l = true) (hrest : restB ops p i = true) (hg : GdW ops (srcEnv p E0 l) o)
    (hop : o.op = .buildSlice T nn ps.toArray) (hp : PartsN (srcEnv p E0 l) 0 ps vs) (hln : ps.length = nn) (hnn : Nat.ble nn 1000 = true)
    (h : ∀ b, QM P F N M K ops E0 Hq ((i, some (d, true, .slice (some ⟨b, 0, Option.none⟩) nn nn)) :: p) (i :: eff) (arr b E 1 (vs.map fun v => [v]) nn :: He)) : QM P F N M K ops E0 Hq p eff He :=
  qm_e l hac hds hi hn hd hN hs hrest hg (hg.opx (x_bsliceN (o:=(ung o)) hT hE zr hp hln hnn hop rfl hd hN fun b=>⟨_,arr b E 1 (vs.map fun v=>[v]) nn::He,by simp[look],rfl,h b⟩))
theorem qm_slN{b nn:Nat}{rows:List (List Value)}(e:rows.length=nn)(h:QM P F N M K ops E0 Hq p eff (sl (.slice (some ⟨b,0,Option.none⟩) nn nn) E 1 rows::He)):QM P F N M K ops E0 Hq p eff (arr b E 1 rows nn::He):=
  QM.ent (He':=sl (.slice (some ⟨b,0,Option.none⟩) nn nn) E 1 rows::He) (show Ent (arr b E 1 rows nn::(He++Hq)) (sl (.slice (some ⟨b,0,Option.none⟩) nn nn) E 1 rows::(He++Hq)) from Ent.imp fun _ hx=>Or.inr ⟨b,nn,by rw[e],hx⟩) h
theorem qm_bsl {i : Nat} {ps : List (Nat × Operand)} {vs : List Value} {nn : Nat} {zv : Value} {rows : List (List Value)} (hT : P.underlying T = some (.slice E)) (hE : SizeIs P E 1) (zr : ZR P E [zv]) (l : List Src) (hac : acB ops = true) (hds : dstB ops = true) (hi : ops[i]? = some o) (hn : getP p i = Option.none) (hd : o.dst = some d) (hN : Nat.blt d N = true) (hs : srcB ops i l = true) (hrest : restB ops p i = true) (hg : GdW ops (srcEnv p E0 l) o)
    (hop : o.op = .buildSlice T nn ps.toArray) (hp : PartsN (srcEnv p E0 l) 0 ps vs) (e : (vs.map fun v => [v]) = rows) (hln : ps.length = nn) (hnn : Nat.ble nn 1000 = true)
    (h : ∀ b, Rd M [sl (.slice (some ⟨b, 0, Option.none⟩) nn nn) E 1 rows] (.slice (some ⟨b, 0, Option.none⟩) nn nn) 1 rows → QM P F N M K ops E0 Hq ((i, some (d, true, .slice (some ⟨b, 0, Option.none⟩) nn nn)) :: p) (i :: eff) (sl (.slice (some ⟨b, 0, Option.none⟩) nn nn) E 1 rows :: He)) : QM P F N M K ops E0 Hq p eff He :=
  qm_bsliceN hT hE zr l hac hds hi hn hd hN hs hrest hg hop hp hln hnn fun b=>by
    rw[e];exact qm_slN (by rw[← e];simp[hp.len,hln]) (qm_rd _ (h b))
theorem qx_callc {ex : List Nat} {i : Nat} {f : FuncId} {A A' C H2 : List HP} {xs : List Operand} {vs : List Value} {at' : Array TypeId} (l : List Src) (hac : acB ops = true) (hds : dstB ops = true) (hi : ops[i]? = some o) (hn : getP p i = Option.none) (hd : o.dst = some d) (hN : Nat.blt d N = true) (hs : srcB ops i l = true) (hrest : restB ops p i = true) (hbar : barX ops p ex i = true) (hg : GdW ops (srcEnv p E0 l) o)
    (hex : ∀ e ∈ ex, ∀ x, getP p e = some x → QOk P M N ops E0 [] p e)
    [c1 : Cat He Hq H2] (cf : cfB P f = true) (hop : o.op = .call { callee := .value (.func f), args := xs.toArray, argTypes := at' }) (ha : Args (srcEnv p E0 l) xs vs) [s : SelL H2 A R] [c : Cat A' R C] (hc : FnC P M f vs ret A A')
    (h : QM P F N M K ops E0 [] ((i, some (d, true, ret)) :: p) (i :: (p.map (·.1)).filter fun q => !ex.contains q) C) : QM P F N M K ops E0 Hq p eff He :=
  qm_barx (l:=l) hac hds hi hn hs hrest hbar hex hg fun a w Kc Q hf ho hk=>by
    have hw:Region.wanted o (yielded ops a.tmps)=true:=hg.wtd hf
    have h':=(hg.opx (x_call (o:=(ung o)) (P:=P) (N:=N) (M:=M) (ops:=ops) (Rr:=fun e h=>∃ v,look e d=some (true,v)∧QM P F N M K ops E0 [] ((i,some (d,true,v))::p) (i::(p.map (·.1)).filter fun q=>!ex.contains q) h) cf hop rfl hd hN ha (FnR.pre (by rw[c1.eq];exact s.ent) (hc R)) (by rintro _ _ ⟨rfl,rfl⟩;rw[c.eq];exact⟨_,by simp[look],h⟩))) a w Kc Q hf ho (fun env' H' u w' hR hf' ho'=>by
      obtain⟨v,hlook,hqm⟩:=hR
      have hdN:d<N:=by simpa using hN
      have hu':u=v:=by
        have:=hf'.ok d true v hlook
        rw[hd] at this
        have hd':d<a.tmps.size:=by rw[hf.sz];exact hdN
        simpa[Act.put,hd'] using this
      subst hu'
      rw[hd]
      exact hk (some (d,true,u)) H' w' ⟨hd,hdN⟩ ho' hqm)
    rw[hw,if_pos rfl] at h'
    exact h'
end short
theorem pv_slarr{n:Nat}{A:Addr}(hT:P.underlying T=some (.array n E))(hE:SizeIs P E 1)(hn:n≠0)(hg:Gd ops env o g)(hop:o.op=.slice T x Option.none Option.none Option.none)(hx:evo env x=some (gx,.pointer (some A)))(hi:g=true→gx=true):PV P ops o env g (.slice (some A) n n):=
  fun _ a hf=>⟨hg.wanted hf,fun e w=>by
    obtain⟨inf,h3,h4⟩:=hE
    have hrun:(Instr.sliceAt T (.pointer (some A)) Option.none Option.none Option.none).run P w=.ok (.slice (some A) n n) w:=by
      simp[Instr.sliceAt,Instr.sureAddr,run_und hT,Instr.sliceBounds,Instr.sliceBound,asIntOf,sizeOf,run_info h3,h4,Addr.add]
    simp[execOp,hop,hf.ev hx (hi e),hrun]⟩
theorem rd_blk{b:Nat}{cs:List Value}{rows:List (List Value)}{Tb:TypeId}(h1:RowsOk 1 rows)(hc:rows.flatten=cs)(hl:rows.length=cs.length)(h3:rows.length≤maxLen)(he:Ent H (blk b cs Tb::R)):Rd M H (.slice (some ⟨b,0,Option.none⟩) rows.length rows.length) 1 rows:=
  Rd.arr (E:=Tb) h1 (Nat.le_refl _) h3 (Ent.tr he (Ent.imp fun h hx=>⟨[],by rw[List.append_nil,hc];exact hx,h1,Nat.le_refl _,h3,by rw[List.append_nil,hc];omega⟩))
end Go.Proofs.YtmakdilmibjpbaaGreatDoor
namespace Go.Proofs.YtmakdilmibjpbaaGreatDoor
open Go Go.RowKit
set_option linter.unusedVariables false
set_option linter.unusedSimpArgs false
variable{P:Program}{F:Exit→Act→World→Prop}{N:Nat}{M:Amb}{env eb:Env}{H H' R:List HP}{a:Act}{w:World}{ops:Array Oper}{o:Oper}{rest:List Oper}{K:List KI}
variable{g gx gy gz:Bool}{x y z:Operand}{v v' u ret:Value}{T T2 E:TypeId}{Rr:Env→List HP→Prop}
def rBy (c:UInt8):List Value:=[.int .u8 c.toNat]
theorem rBy_flat (s:List UInt8):(s.map rBy).flatten=Lib.byteCells s:=by
  induction s with
  | nil=>rfl
  | cons c s ih=>simp only[List.map_cons,List.flatten_cons,ih];rfl
theorem strCells_str (s:List UInt8):Lib.strCells ⟨s.toArray⟩=(s.map rBy).flatten:=by rw[rBy_flat];rfl
theorem rBy_ok (s:List UInt8):RowsOk 1 (s.map rBy):=fun r hr=>by
  simp only[List.mem_map] at hr
  obtain⟨c,_,rfl⟩:=hr
  exact⟨rfl,fun v hv=>by simp[rBy] at hv;subst hv;rfl⟩
theorem run_append_str {ty : TypeId} {u s : List UInt8} (hT : P.underlying T = some (.slice E)) (hS : P.underlying T2 = some .string) (hE : EL P E 1 1) (ho : Own M (sl v E 1 (u.map rBy) :: R) w) (h0 : s ≠ [])
    (hb : u.length + s.length ≤ 140737488355328) :
    ∃ v' w', (Builtin.append_ #[T, T2] ty #[v, str s]).run P w = .ok v' w' ∧ Own M (sl v' E 1 ((u ++ s).map rBy) :: R) w' := by
  obtain⟨i,z,hi,hz,h1,h2,h3⟩:=hE.is
  have hsz:(⟨s.toArray⟩:ByteArray).size=s.length:=by simp[ByteArray.size]
  have hpos:0<s.length:=List.length_pos_iff.2 h0
  have hm:u.length+s.length≤maxLen:=by simp only[maxLen];omega
  have fresh : ∀ (old : Nat) (xs : List UInt8), Own M R w → old < xs.length + s.length → xs.length + s.length ≤ maxLen →
      Own M (sl (.slice (some ⟨w.heap.size, 0, Option.none⟩) (xs.length + s.length) (grownCap w (xs.length + s.length) old E)) E 1 ((xs ++ s).map rBy) :: R)
        (w.drew.alloc (.cells ((xs.map rBy).flatten.toArray ++ (s.map rBy).flatten.toArray ++ Builtin.zeroCells z.cells (grownCap w (xs.length + s.length) old E - (xs.length + s.length))) E)) := by
    intro old xs hoR hold hle
    have hge:=grownCap_ge w (xs.length+s.length) old E
    have hcm:=grownCap_le_maxLen w (xs.length+s.length) old E hle
    have hal:=(hoR.drawn (w.drawn+1)).alloc (((xs++s).map rBy).flatten++(Builtin.zeroCells z.cells (grownCap w (xs.length+s.length) old E - (xs.length+s.length))).toList) E
    have hal':=hal.arrI (cap:=grownCap w (xs.length+s.length) old E) (sz:=1) (rBy_ok _) (by simpa using hge) hcm (by
      rw[List.length_append,flat_len (rBy_ok _)]
      simp only[Array.length_toList,size_zeroCells,h3,h1,List.length_append,List.length_map,← Nat.add_mul]
      omega)
    have hfin:=hal'.slI
    simp only[List.length_append,List.length_map] at hfin
    have hw : w.drew.alloc (.cells ((xs.map rBy).flatten.toArray ++ (s.map rBy).flatten.toArray ++ Builtin.zeroCells z.cells (grownCap w (xs.length + s.length) old E - (xs.length + s.length))) E) =
        ({ w with drawn := w.drawn + 1 } : World).alloc (.cells (((xs ++ s).map rBy).flatten ++ (Builtin.zeroCells z.cells (grownCap w (xs.length + s.length) old E - (xs.length + s.length))).toList).toArray E) := by
      congr 2
      apply Array.ext'
      simp
    rw[hw]
    exact hfin
  rcases ho.slE with ⟨rfl,hu,hoR⟩|⟨b,cap,rfl,ho2⟩
  · obtain rfl:u=[]:=by simpa using hu
    have hrun:=run_append_nil_string (P:=P) w T T2 ty E i z hT hS hi hz ⟨s.toArray⟩ (by rw[hsz];exact hpos) (by rw[hsz];simp at hb;omega) (by rw[hsz,h2];simp at hb;omega)
    have:=fresh 0 [] hoR (by simpa using hpos) (by simpa using hm)
    simp only[List.length_nil,Nat.zero_add,List.nil_append,List.map_nil,List.flatten_nil,Array.empty_append] at this
    rw[hsz] at hrun
    refine⟨_,_,hrun,?_⟩
    have e:Array.map (fun b:UInt8=>Value.int IntKind.u8 (b.toNat:Int)) s.toArray=(s.map rBy).flatten.toArray:=by
      rw[rBy_flat];simp[Lib.byteCells]
    rw[e]
    simpa using this
  · obtain⟨sp,ho3,q1,q2,q3,q4⟩:=ho2.arrE
    rw[List.length_map] at q2 ⊢
    have hl1:(u.map rBy).flatten.length=u.length:=by rw[flat_len q1,List.length_map,Nat.mul_one]
    have hl2:(s.map rBy).flatten.length=s.length:=by rw[flat_len (rBy_ok s),List.length_map,Nat.mul_one]
    by_cases hroom:u.length+s.length≤cap
    · have hfit:u.length+s.length≤((u.map rBy).flatten++sp).length:=by rw[q4];omega
      have hrun:=Lib.run_append_room_string (P:=P) w T T2 ty E i hT hS hi h1 b u.length cap _ ho3.blk.2 ⟨s.toArray⟩ (by rw[hsz];exact hroom) (by rw[hsz];simpa using hfit)
      rw[hsz,strCells_str] at hrun
      refine⟨_,_,hrun,?_⟩
      have hlist:((u.map rBy).flatten++sp).take u.length++(s.map rBy).flatten++((u.map rBy).flatten++sp).drop (u.length+s.length)=((u++s).map rBy).flatten++sp.drop s.length:=by
        rw[List.map_append,flat_app]
        conv=>lhs;rw[← hl1]
        rw[List.take_left,List.drop_append]
        simp
      have hput:=setRow_own (cs':=((u++s).map rBy).flatten++sp.drop s.length) ho3
      have e2:(((u.map rBy).flatten++sp).toArray.toList.take u.length++(s.map rBy).flatten++((u.map rBy).flatten++sp).toArray.toList.drop (u.length+s.length)).toArray=(((u++s).map rBy).flatten++sp.drop s.length).toArray:=by
        rw[← hlist]
      rw[e2]
      have:=(hput.arrI (cap:=cap) (sz:=1) (rBy_ok _) (by simpa using hroom) q3 (by
        rw[List.map_append,flat_app]
        simp only[List.length_append,List.length_drop] at q4 hfit ⊢
        omega)).slI
      simpa using this
    · have hold : ∀ (j : Nat) x, ((u.map rBy).flatten)[j]? = some x → w.cell? ((⟨b, 0, Option.none⟩ : Addr).add j) = some x := fun j x hx => by
        rw [addr_add, ho3.cell]
        simp only [Nat.zero_add]
        rw [List.getElem?_append_left (List.getElem?_eq_some_iff.1 hx).1]; exact hx
      have hrun:=Lib.run_append_grow_string (P:=P) w T T2 ty E i z hT hS hi hz ⟨b,0,Option.none⟩ u.length cap (u.map rBy).flatten (by rw[hl1,h1];omega) hold ⟨s.toArray⟩ (by rw[hsz];omega) (by rw[hsz];simp only[maxLen] at hm;omega) (by rw[hsz];exact growslice_fits (by omega) (by rw[h2];omega))
      rw[hsz,strCells_str] at hrun
      exact⟨_,_,hrun,fresh cap u (ho2.ent Ent.drop) (by omega) hm⟩
theorem x_appstr {d : Nat} {b s : List UInt8} (hT : P.underlying T = some (.slice E)) (hS : P.underlying T2 = some .string) (hE : EL P E 1 1) (he : Ent H (sl v E 1 (b.map rBy) :: R)) (h0 : s ≠ []) (hb : b.length + s.length ≤ 140737488355328)
    (hop : o.op = .call { callee := .builtin .append, args := #[x, y], argTypes := #[T, T2] }) (hgd : o.guard = Option.none) (hd : o.dst = some d) (hN : Nat.blt d N = true) (hx : evo env x = some (true, v)) (hy : evo env y = some (true, str s))
    (h : ∀ v', Rr ((d, true, v') :: env) (sl v' E 1 ((b ++ s).map rBy) :: R)) : OpX P N M ops o env H Rr := fun a w Kc Q hf ho hK => by
  have hw:Region.wanted o (yielded ops a.tmps)=true:=by simp[Region.wanted,hgd]
  rw[hw,if_pos rfl]
  obtain⟨v',w',hrun,ho'⟩:=run_append_str (ty:=o.type) hT hS hE (ho.ent he) h0 hb
  have hr:(execOp a.eval o).run P w=.ok (.value v') w':=by
    simp[execOp,hop,resolve,invoke,builtin,hf.ev hx rfl,hf.ev hy rfl,hrun]
  simp only[Oper.wp,hr,Oper.upon_value]
  exact hK _ _ _ _ (h v') (by rw[hd];exact hf.put hN true v') ho'
section short
variable{d:Nat}{ty:TypeId}{pss:String}{af:Array Edge}
theorem p_appstr {b s : List UInt8} [q : SelS H v E 1 (b.map rBy) R] (hT : P.underlying T = some (.slice E)) (hS : P.underlying T2 = some .string) (hE : EL P E 1 1) (h0 : s ≠ []) (hb : b.length + s.length ≤ 140737488355328) (hN : Nat.blt d N = true) (hx : evo env x = some (true, v)) (hy : evo env y = some (true, str s))
    (h : ∀ v', Ops P F N M K ops rest ((d, true, v') :: env) (sl v' E 1 ((b ++ s).map rBy) :: R)) : Ops P F N M K ops (⟨some d, .call { callee := .builtin .append, args := #[x, y], argTypes := #[T, T2] }, ty, pss, af, Option.none⟩ :: rest) env H :=
  l_op (x_appstr hT hS hE q.ent h0 hb rfl rfl rfl hN hx hy h)
end short
theorem shape_blk{b:Nat}{cs:List Value}{T:TypeId}(he:Ent H (blk b cs T::R))(ho:Own M H w):w.shape? b=some (T,cs.length):=by
  have:=(ho.ent he).blk.2
  simp[World.shape?,this]
theorem rv_toU {b off t : Nat} {cs : List Value} {src dst Tb : TypeId} {j : TypeInfo} [s : SelB H b cs Tb R] (hs : P.underlying src = some (.pointer t)) (hd : P.underlying dst = some .unsafePointer) (ht : P.info? t = some j) (hj : j.size ≠ 0) (hoff : off < cs.length) (hg : Gd ops env o g) (hop : o.op = .convert src dst x)
    (hx : evo env x = some (gx, .pointer (some ⟨b, off, Option.none⟩))) (hi : g = true → gx = true) : RV P M ops o env H g (.pointer (some ⟨b, off, Option.none⟩)) :=
  fun _ _ w hf ho=>⟨hg.wanted hf,fun e=>by
    have h1:=Lib.run_to_unsafe (P:=P) (cells:=cs.length) w ⟨b,off,Option.none⟩ hs hd ht hj (shape_blk s.ent ho) hoff
    simp[execOp,hop,hf.ev hx (hi e),h1]⟩
theorem rv_fromU {b off t : Nat} {cs : List Value} {src dst Tb : TypeId} {j : TypeInfo} [s : SelB H b cs Tb R] (hs : P.underlying src = some .unsafePointer) (hd : P.underlying dst = some (.pointer t)) (ht : P.info? t = some j) (hl : liesAt P P.depth Tb (cs.length / P.cellsOf Tb) off t 1 = true) (hg : Gd ops env o g) (hop : o.op = .convert src dst x)
    (hx : evo env x = some (gx, .pointer (some ⟨b, off, Option.none⟩))) (hi : g = true → gx = true) : RV P M ops o env H g (.pointer (some ⟨b, off, Option.none⟩)) :=
  fun _ _ w hf ho=>⟨hg.wanted hf,fun e=>by
    have h1:=Lib.run_from_unsafe (P:=P) (cells:=cs.length) w ⟨b,off,Option.none⟩ hs hd ht (shape_blk s.ent ho) hl
    simp[execOp,hop,hf.ev hx (hi e),h1]⟩
theorem pv_noEsc {f : Nat} {fn : Func} {at' : Array TypeId} (hf' : P.funcs[f]? = some fn) (hname : (fn.name == "runtime.NumGoroutine") = false) (hb : fn.body.isNone = true) (hn : Extern.findNext fn = Option.none) (hfi : Extern.find fn = some Extern.AbiNoEscape.same) (hg : Gd ops env o g)
    (hop : o.op = .call { callee := .value (.func f), args := #[x], argTypes := at' }) (hx : evo env x = some (gx, v)) (hi : g = true → gx = true) : PV P ops o env g v :=
  fun _ a hf=>⟨hg.wanted hf,fun e w=>by
    have h1:=run_callFunc_extern (P:=P) hf' hname hb hn hfi #[v] w
    rw[Lib.run_noEscape] at h1
    have h2:=hf.ev hx (hi e)
    simp[Act.eval] at h2
    simp[execOp,hop,resolve,Act.eval,Deferred.ofValue,invoke]
    rw[h2,h1];rfl⟩
theorem pv_pnes{te:TypeId}{j:TypeInfo}{A:Addr}(hT:P.underlying T=some (.pointer te))(hj:P.info? te=some j)(hg:Gd ops env o g)(hop:o.op=.binOp .neq T x y T2)(hx:evo env x=some (gx,.pointer (some A)))(hy:evo env y=some (gy,.pointer (some A)))(hi:g=true→gx=true∧gy=true):PV P ops o env g (.bool false):=
  fun _ _ hf=>⟨hg.wanted hf,fun e w=>by
    have h1:=Lib.run_neq_ptr_same (P:=P) w A hT hj
    simp[execOp,hop,hf.ev hx (hi e).1,hf.ev hy (hi e).2,eqGuard,h1]⟩
theorem pv_sdata{b n c:Nat}{at':Array TypeId}(hc:c≠0)(hg:Gd ops env o g)(hop:o.op=.call {callee:=.builtin .unsafeSliceData,args:=#[x],argTypes:=at'})(hx:evo env x=some (gx,.slice (some ⟨b,0,Option.none⟩) n c))(hi:g=true→gx=true):PV P ops o env g (.pointer (some ⟨b,0,Option.none⟩)):=
  fun _ _ hf=>⟨hg.wanted hf,fun e w=>by
    have h1:=Lib.run_unsafeSliceData_row (P:=P) w at' o.type ⟨b,0,Option.none⟩ n c hc
    simp[execOp,hop,resolve,invoke,builtin,hf.ev hx (hi e),h1]⟩
theorem pv_sdata0{at':Array TypeId}(hg:Gd ops env o g)(hop:o.op=.call {callee:=.builtin .unsafeSliceData,args:=#[x],argTypes:=at'})(hx:evo env x=some (gx,.slice Option.none 0 0))(hi:g=true→gx=true):PV P ops o env g (.pointer Option.none):=
  fun _ _ hf=>⟨hg.wanted hf,fun e w=>by
    have h1:=Lib.run_unsafeSliceData_nil (P:=P) w at' o.type 0 0
    simp[execOp,hop,resolve,invoke,builtin,hf.ev hx (hi e),h1]⟩
theorem pv_ustr0{pt it:TypeId}(hg:Gd ops env o g)(hop:o.op=.call {callee:=.builtin .unsafeString,args:=#[x,y],argTypes:=#[pt,it]})(hx:evo env x=some (gx,.pointer Option.none))(hy:evo env y=some (gy,.int .i64 0))(hi:g=true→gx=true∧gy=true):PV P ops o env g (str []):=
  fun _ _ hf=>⟨hg.wanted hf,fun e w=>by
    have h1:=Lib.run_unsafeString_none (P:=P) w pt it o.type Option.none
    simp[execOp,hop,resolve,invoke,builtin,hf.ev hx (hi e).1,hf.ev hy (hi e).2,h1]
    rfl⟩
theorem x_ustr {d b cap : Nat} {s : List UInt8} {pt it : TypeId} (hp : P.underlying pt = some (.pointer E)) (hc : P.cellsOf E = 1) (h0 : s ≠ []) (hl : s.length ≤ 140737488355328) (he : Ent H (arr b E 1 (s.map rBy) cap :: R))
    (hop : o.op = .call { callee := .builtin .unsafeString, args := #[x, y], argTypes := #[pt, it] }) (hgd : o.guard = Option.none) (hd : o.dst = some d) (hN : Nat.blt d N = true) (hx : evo env x = some (true, .pointer (some ⟨b, 0, Option.none⟩))) (hy : evo env y = some (true, .int .i64 (s.length : Int)))
    (h : Rr ((d, true, str s) :: env) R) : OpX P N M ops o env H Rr := fun a w Kc Q hf ho hK => by
  have hw:Region.wanted o (yielded ops a.tmps)=true:=by simp[Region.wanted,hgd]
  rw[hw,if_pos rfl]
  have ho2:=ho.ent he
  obtain⟨sp,ho3,q1,q2,q3,q4⟩:=ho2.arrE
  have hl1:(s.map rBy).flatten.length=s.length:=by rw[flat_len q1,List.length_map,Nat.mul_one]
  have hbk:=ho3.blk
  have hsh:w.shape? b=some (E,((s.map rBy).flatten++sp).length):=by simp[World.shape?,hbk.2]
  have hcell:∀ (j:Nat) c,s[j]?=some c→w.cell? ((⟨b,0,Option.none⟩:Addr).add j)=some (.int .u8 c.toNat):=by
    intro j c hj
    rw[addr_add,ho3.cell]
    simp only[Nat.zero_add]
    have hjl:=(List.getElem?_eq_some_iff.1 hj).1
    rw[List.getElem?_append_left (by omega),rBy_flat]
    simp[Lib.byteCells,hj]
  have hrun:=Lib.run_unsafeString_row (P:=P) w pt it o.type E hp hc b _ hsh s h0 (by rw[List.length_append];omega) (by omega) hcell
  have hr:(execOp a.eval o).run P w=.ok (.value (str s)) (w.freeze ⟨b,0,Option.none⟩ s.length):=by
    simp[execOp,hop,resolve,invoke,builtin,hf.ev hx rfl,hf.ev hy rfl,hrun]
  simp only[Oper.wp,hr,Oper.upon_value]
  refine hK _ _ _ _ h (by rw[hd];exact hf.put hN true _) ?_
  have fsz:∀ (w:World) (a:Addr) (n:Nat),(w.freeze a n).heap.size=w.heap.size:=by
    intro w a n;unfold World.freeze;split
    · rfl
    · exact Array.size_modify
  have fne:∀ (w:World) (a:Addr) (n:Nat) {k:Nat},k≠a.block→(w.freeze a n).heap[k]?=w.heap[k]?:=by
    intro w a n k h;unfold World.freeze;split
    · rfl
    · show (Array.modify _ _ _)[k]?=_
      rw[Array.getElem?_modify,if_neg (fun e=>h e.symm)]
  refine⟨Lib.below_freeze ho.below (p:=⟨b,0,Option.none⟩) hbk.1 _,by rw[fsz];exact ho.size,?_⟩
  obtain⟨hh,⟨a1,c1,ha1,hc1,hdj,rfl⟩,hs⟩:=ho3.ex
  refine⟨c1,hc1,fun k ob hk=>?_⟩
  obtain⟨k1,k2⟩:=hs k ob (Hp.un_r hdj hk)
  refine⟨k1,?_⟩
  have hne:k≠b:=by
    rintro rfl
    have ha':a1=fun q=>if q=k then some (.cells ((s.map rBy).flatten++sp).toArray E (0,0)) else Option.none:=ha1
    rcases hdj k with h'|h'
    · rw[ha'] at h';simp at h'
    · rw[h'] at hk;cases hk
  rw[fne _ _ _ hne];exact k2
variable{E0:Env}{Hq He Re:List HP}{p:Plan}{eff:List Nat}
theorem qm_ustr {i d b cap : Nat} {s : List UInt8} {pt it : TypeId} (hp : P.underlying pt = some (.pointer E)) (hc : P.cellsOf E = 1) (h0 : s ≠ []) (hl : s.length ≤ 140737488355328) (l : List Src) (hac : acB ops = true) (hds : dstB ops = true) (hi : ops[i]? = some o) (hn : getP p i = Option.none) (hd : o.dst = some d) (hN : Nat.blt d N = true) (hs : srcB ops i l = true) (hrest : restB ops p i = true) (hg : GdW ops (srcEnv p E0 l) o)
    (hop : o.op = .call { callee := .builtin .unsafeString, args := #[x, y], argTypes := #[pt, it] }) (hx : evo (srcEnv p E0 l) x = some (true, .pointer (some ⟨b, 0, Option.none⟩))) (hy : evo (srcEnv p E0 l) y = some (true, .int .i64 (s.length : Int))) [q : SelR He b E 1 (s.map rBy) cap Re]
    (h : QM P F N M K ops E0 Hq ((i, some (d, true, str s)) :: p) (i :: eff) Re) : QM P F N M K ops E0 Hq p eff He :=
  qm_e l hac hds hi hn hd hN hs hrest hg (hg.opx (x_ustr (o:=(ung o)) hp hc h0 hl (Ent.app (A':=arr b E 1 (s.map rBy) cap::Re) q.ent) hop rfl hd hN hx hy ⟨_,Re,by simp[look],rfl,h⟩))
end Go.Proofs.YtmakdilmibjpbaaGreatDoor
