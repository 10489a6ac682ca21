/- Books, which are brokers by the document: how they lie. The walks of BookW: written by a program of ours (gen.py) over the engine. The walks of BookW2: written by a program of ours (gen.py) over the engine. The walks of BookW3: written by a program of ours (gen.py) over the engine. -/
import Derived.Test.YtmakdilmibjpbaaGreatDoorDeskP
import Derived.Test.YtmakdilmibjpbaaGreatDoorWants
import Derived.Test.YtmakdilmibjpbaaGreatDoorFacts
import Derived.Test.YtmakdilmibjpbaaGreatDoorBrokW2
import Derived.Test.YtmakdilmibjpbaaGreatDoorElt
namespace Go.Proofs.YtmakdilmibjpbaaGreatDoor
open Go Go.RowKit
set_option linter.unusedVariables false
set_option maxRecDepth 20000
structure DT where
  wv:Value
  yv:Value
  tv:Value
  ys:List Int
structure YesR (ys:List Int)(d:Deal):Prop where
  nd:ys.Nodup
  rng:∀ x∈ys,0≤x∧x<(d.wants.length:Int)
  is:∀ i:Nat,i<d.wants.length→((i:Int)∈ys↔d.yes[i]?=some true)
def rowD (t:DT)(d:Deal):List Value:=[t.wv,.int .i64 d.state,t.yv,t.tv]
abbrev bdL (t:DT)(d:Deal):List HP:=[sl t.wv 93 2 (d.wants.map rW),sl t.yv 3 1 (t.ys.map rI),sl t.tv 3 1 (d.over.map rI)]
def bdealP (t:DT)(d:Deal):HP:=fun h=>YesR t.ys d∧sep (bdL t d) h
abbrev bookL (b:Nat)(T:TypeId)(rest:List Value)(s:BrokS)(lv ov:Value)(ts:List DT):List HP:=[blk b (lv::ov::rest) T,sl lv 148 4 (List.zipWith rowD ts s.l),sl ov 3 1 (s.order.map rI),manyP bdealP ts s.l]
def bookP (b:Nat)(T:TypeId)(rest:List Value)(s:BrokS):HP:=fun h=>∃ lv ov ts,ts.length=s.l.length∧sep (bookL b T rest s lv ov ts) h
variable{H R R1 R2 R3:List HP}{b q:Nat}{d:Deal}{s:BrokS}{T:TypeId}{rest:List Value}{t:DT}
theorem bookP_close (lv ov:Value)(ts:List DT)(hl:ts.length=s.l.length){cs:List Value}{r1 r2:List (List Value)}[a:SelB H b cs T R][u:SelS R lv 148 4 r1 R1][v:SelS R1 ov 3 1 r2 R2][w:SelX R2 (manyP bdealP ts s.l) R3](e:cs=lv::ov::rest)(e1:r1=List.zipWith rowD ts s.l)(e2:r2=s.order.map rI):Ent H (bookP b T rest s::R3):=by
  subst e;subst e1;subst e2
  refine Ent.tr (Ent.tr a.ent (Ent.mono (Ent.tr u.ent (Ent.mono (Ent.tr v.ent (Ent.mono w.ent)))))) (fun h hx=>?_)
  obtain⟨x,y,hx,hy,hd,e⟩:=sep_app (A:=bookL b T rest s lv ov ts) hx
  exact⟨h,⟨x,y,⟨lv,ov,ts,hl,hx⟩,hy,hd,e⟩,Hp.sub_refl h⟩
theorem bdealP_close (t:DT)(hy:YesR t.ys d){r1 r2 r3:List (List Value)}[a:SelS H t.wv 93 2 r1 R][u:SelS R t.yv 3 1 r2 R1][v:SelS R1 t.tv 3 1 r3 R2](e1:r1=d.wants.map rW)(e2:r2=t.ys.map rI)(e3:r3=d.over.map rI):Ent H (bdealP t d::R2):=by
  subst e1;subst e2;subst e3
  refine Ent.tr (Ent.tr a.ent (Ent.mono (Ent.tr u.ent (Ent.mono v.ent)))) (fun h hx=>?_)
  obtain⟨x,y,hx,hy',hd,e⟩:=sep_app (A:=bdL t d) hx
  exact⟨h,⟨x,y,⟨hy,hx⟩,hy',hd,e⟩,Hp.sub_refl h⟩
theorem Rd.lenz{M:Amb}{α β:Type}{f:β→α→List Value}{v:Value}{sz:Nat}{bs:List β}{l:List α}(h:Rd M H v sz (List.zipWith f bs l))(e:bs.length=l.length):∃ ao c,v=.slice ao l.length c:=by
  obtain⟨ao,c,e'⟩:=h.shape
  exact⟨ao,c,by rw[e',List.length_zipWith,e,Nat.min_self]⟩
section opening
variable{P:Program}{F:Exit→Act→World→Prop}{N:Nat}{M:Amb}{K:List KI}{env:Env}
theorem r_book (h:∀ lv ov ts,ts.length=s.l.length→Run P F N M K env (bookL b T rest s lv ov ts++R)):Run P F N M K env (bookP b T rest s::R):=fun a w hf ho=>by
  obtain⟨hb,hs,g,⟨x,y,⟨lv,ov,ts,hl,hx⟩,hr,hd,e⟩,hh⟩:=ho
  subst e
  exact h lv ov ts hl a w hf ⟨hb,hs,_,sep_app' hx hr hd,hh⟩
theorem r_bdeal (i:Nat){ts:List DT}{ds:List Deal}(h1:ts[i]?=some t)(h2:ds[i]?=some d)[u:SelX H (manyP bdealP ts ds) R](h:YesR t.ys d→Run P F N M K env (bdL t d++(restP bdealP ts ds i::R))):Run P F N M K env H:=fun a w hf ho=>by
  have ho':=ho.ent (Ent.tr u.ent (many_out h1 h2))
  obtain⟨hb,hs,g,⟨x,y,⟨hy,hx⟩,hr,hd,e⟩,hh⟩:=ho'
  subst e
  exact h hy a w hf ⟨hb,hs,_,sep_app' hx hr hd,hh⟩
end opening
end Go.Proofs.YtmakdilmibjpbaaGreatDoor
namespace Go.Proofs.YtmakdilmibjpbaaGreatDoor
open Go Go.RowKit
set_option linter.unusedVariables false
set_option linter.unusedSimpArgs false
set_option maxRecDepth 20000
theorem zip_set1{ts:List DT}{ds:List Deal}{i:Nat}{t:DT}{d':Deal}(h:ts[i]?=some t):(List.zipWith rowD ts ds).set i (rowD t d')=List.zipWith rowD ts (ds.set i d'):=zip_set.trans (by rw[set_selfE h])
theorem book_State_o (M:Amb)(T:TypeId)(rest:List Value)(b:Nat)(s:BrokS)(hI:BInv s)(lv ov:Value)(ts:List DT)(hts:ts.length=s.l.length)(n:Int):FnC Tryz.prog M 41 [ptr b,.int .i64 n] (.int .i64 (stateB s n)) [blk b (lv::ov::rest) T,sl lv 148 4 (List.zipWith rowD ts s.l),sl ov 3 1 (s.order.map rI),manyP bdealP ts s.l] [blk b (lv::ov::rest) T,sl lv 148 4 (List.zipWith rowD ts s.l),sl ov 3 1 (s.order.map rI),manyP bdealP ts s.l]:=by
 refine fnc_intro Tryz.func41 rfl Tryz.ntmps41 rfl fun R F hF=>?_
 refine r_cat ?_
 refine r_rd lv fun hrd=>?_
 refine r_rd ov fun hro=>?_
 refine r_sr (p_as rfl rfl (o_keep (kp [0,1,4] rfl) (r_seq (r_sr (p_mv rfl rfl (p_lss rfl rfl rfl (p_mv rfl rfl ?_)))))))
 refine l_op (x_p (pv_mv (.s rfl rfl rfl) rfl rfl gA) rfl rfl (l_op (x_p (pv_mv (.s rfl rfl rfl) rfl rfl gA) rfl rfl ?_)))
 refine l_op (x_p (pv_nilp (.s rfl rfl rfl) rfl rfl gA) rfl rfl (l_op (x_p (pv_fa fa_67_0 (.s rfl rfl rfl) rfl rfl gA) rfl rfl ?_)))
 refine l_op (x_r (q_ldc tc_64 (.s rfl rfl rfl) rfl rfl gA (by rfl)) rfl rfl ?_)
 refine l_op (x_p (pv_lens (Rd.lenz hrd hts) ⟨_,Tryz.underlying64⟩ (.s rfl rfl rfl) rfl rfl rfl rfl gA) rfl rfl ?_)
 refine l_op (x_p (pv_geq (.s rfl rfl rfl) rfl rfl rfl gB) rfl rfl ?_)
 refine l_op (x_p (pv_or (.n rfl) rfl rfl rfl (fun _=>⟨rfl,fun hc=>by first|rfl|(rw[hc];rfl)|simp_all⟩)) rfl rfl ?_)
 refine o_keep (kp [0,1,4,15] rfl) (r_cond _ rfl (fun h1=>?_) (fun h1=>?_))
 ·skip
  have hst:=stateB_out (b:=s) (n:=n) (by simp at h1;omega)
  refine r_sr (p_as rfl rfl (o_keep (kp [0,1,4] rfl) ?_))
  refine r_retv hF rfl (.c (.t rfl) .n) ?_ ?_
  ·refine Ent.catI ?_;apply eI;repeat constructor
  ·rw[hst];rfl
 ·skip
  have hn0:0≤n∧n<s.l.length:=by simp at h1;omega
  obtain⟨i,hni⟩:∃ i:Nat,n=(i:Int):=⟨n.toNat,by omega⟩
  obtain⟨t,ht⟩:=getlt (l:=ts) (i:=i) (by omega)
  obtain⟨d,hd⟩:=getlt (l:=s.l) (i:=i) (by omega)
  have hst:stateB s n=d.state:=by rw[hni];exact stateB_at hd
  refine r_skip (r_sr (p_mv rfl rfl (p_nil rfl rfl (p_fa fa_67_0 rfl rfl (p_ldc tc_64 rfl (by rfl) rfl ?_)))))
  refine p_mv rfl rfl (p_idx Tryz.underlying64 (.ofA ta_148) hrd hni (zip_get ht hd) rfl rfl rfl (p_faat fa_148_1 (Rd.sh hrd (zip_get ht hd)) rfl rfl (p_ldat 1 tc_3 (Rd.ent hrd (eJ (by repeat constructor))) (zip_get ht hd) rfl rfl rfl rfl ?_)))
  refine p_as rfl rfl (o_keep (kp [4] rfl) ?_)
  refine r_retv hF rfl (.c (.t rfl) .n) ?_ ?_
  ·refine Ent.catI ?_;apply eI;repeat constructor
  ·rw[hst];rfl
theorem bookP_open{M:Amb}{R:List HP}{b:Nat}{s:BrokS}{T:TypeId}{rest:List Value}{w:World}(ho:Own M (bookP b T rest s::R) w):∃ lv ov ts,ts.length=s.l.length∧Own M (bookL b T rest s lv ov ts++R) w:=by
  obtain⟨hb,hs,g,⟨x,y,⟨lv,ov,ts,hl,hx⟩,hr,hd,e⟩,hh⟩:=ho
  subst e
  exact⟨lv,ov,ts,hl,hb,hs,_,sep_app' hx hr hd,hh⟩
theorem FnC.book{P:Program}{M:Amb}{f:FuncId}{vs:List Value}{ret:Value}{b:Nat}{T:TypeId}{rest:List Value}{s:BrokS}(h:∀ lv ov ts,ts.length=s.l.length→FnC P M f vs ret (bookL b T rest s lv ov ts) (bookL b T rest s lv ov ts)):FnC P M f vs ret [bookP b T rest s] [bookP b T rest s]:=fun R w ho=>by
  obtain⟨lv,ov,ts,hl,ho'⟩:=bookP_open ho
  refine (h lv ov ts hl R w ho').mono fun _ _ ⟨v,H',e,⟨h1,h2⟩,ho2⟩=>⟨v,_,e,⟨h1,rfl⟩,?_⟩
  subst h2
  have ho3:Own M (blk b (lv::ov::rest) T::sl lv 148 4 (List.zipWith rowD ts s.l)::sl ov 3 1 (s.order.map rI)::manyP bdealP ts s.l::R) _:=ho2
  exact ho3.ent (bookP_close (b:=b) (s:=s) lv ov ts hl rfl rfl rfl)
theorem FnE.book{α:Type}{P:Program}{M:Amb}{f:FuncId}{vs:List Value}{rt:α→Value}{X:α→HP}{b:Nat}{T:TypeId}{rest:List Value}{s:BrokS}(h:∀ lv ov ts,ts.length=s.l.length→FnE P M f vs (bookL b T rest s lv ov ts) rt (fun x=>X x::bookL b T rest s lv ov ts)):FnE P M f vs [bookP b T rest s] rt (fun x=>[X x,bookP b T rest s]):=fun R w ho=>by
  obtain⟨lv,ov,ts,hl,ho'⟩:=bookP_open ho
  refine (h lv ov ts hl R w ho').mono fun _ _ ⟨v,H',e,⟨x,h1,h2⟩,ho2⟩=>⟨v,_,e,⟨x,h1,rfl⟩,?_⟩
  subst h2
  have ho3:Own M (X x::blk b (lv::ov::rest) T::sl lv 148 4 (List.zipWith rowD ts s.l)::sl ov 3 1 (s.order.map rI)::manyP bdealP ts s.l::R) _:=ho2
  exact ho3.ent (Ent.mono (bookP_close (b:=b) (s:=s) lv ov ts hl rfl rfl rfl))
theorem book_State (M:Amb)(T:TypeId)(rest:List Value)(b:Nat)(s:BrokS)(hI:BInv s)(n:Int):FnC Tryz.prog M 41 [ptr b,.int .i64 n] (.int .i64 (stateB s n)) [bookP b T rest s] [bookP b T rest s]:=FnC.book fun lv ov ts hts=>book_State_o M T rest b s hI lv ov ts hts n
theorem book_Quit (M:Amb)(T:TypeId)(rest:List Value)(b:Nat)(s:BrokS)(hI:BInv s)(n:Int):FnC Tryz.prog M 74 [ptr b,.int .i64 n] (.int .i64 (quitB s n).2) [bookP b T rest s] [bookP b T rest (quitB s n).1]:=by
 refine fnc_intro Tryz.func74 rfl Tryz.ntmps74 rfl fun R F hF=>?_
 refine r_cat ?_
 refine r_sr (p_as rfl rfl (o_keep (kp [0,1,4] rfl) (r_seq (r_sr (p_mv rfl rfl (p_mv rfl rfl ?_))))))
 refine p_callv cf_41 (.c rfl (.c rfl .n)) rfl ((book_State _ T rest b s hI n).q) ?_
 refine p_eql rfl rfl rfl (o_keep (kp [0,1,4,8] rfl) (r_cond _ rfl (fun h1=>?_) (fun h1=>?_)))
 ·skip
  have hs:quitB s n=(s,7):=by unfold quitB;rw[if_pos (of_decide_eq_true h1)]
  refine r_sr (p_as rfl rfl (o_keep (kp [0,1,4] rfl) ?_))
  refine r_retv hF rfl (.c (.t rfl) .n) ?_ ?_
  ·refine Ent.catI ?_;rw[hs];refine Ent.c (SelX.ent) ?_;apply eI;repeat constructor
  ·rw[hs];rfl
 ·skip
  have h1:¬ stateB s n=-1:=of_decide_eq_false h1
  have hn0:0≤n∧n<s.l.length:=by rcases hI.st n with h|h;omega;exact⟨h.1,h.2.1⟩
  obtain⟨i,hni⟩:∃ i:Nat,n=(i:Int):=⟨n.toNat,by omega⟩
  obtain⟨d,hd⟩:=getlt (l:=s.l) (i:=i) (by omega)
  have hst:stateB s n=d.state:=by rw[hni];exact stateB_at hd
  refine r_skip (r_seq (r_seq ?_))
  refine r_book fun lv ov ts hts=>?_
  refine r_cat ?_
  refine r_rd lv fun hrd=>?_
  refine r_rd ov fun hro=>?_
  obtain⟨t,ht⟩:=getlt (l:=ts) (i:=i) (by omega)
  refine r_region (p_mv rfl rfl (p_nil rfl rfl (p_fa fa_67_0 rfl rfl (p_ldc tc_64 rfl (by rfl) rfl ?_))))
  refine p_mv rfl rfl (p_idx Tryz.underlying64 (.ofA ta_148) hrd hni (zip_get ht hd) rfl rfl rfl (p_faat fa_148_1 (Rd.sh hrd (zip_get ht hd)) rfl rfl (p_ldat 1 tc_3 (Rd.ent hrd (eJ (by repeat constructor))) (zip_get ht hd) rfl rfl rfl rfl ?_)))
  refine p_neq rfl rfl rfl (o_keep (kp [0,1,4,17] rfl) (r_cond _ rfl (fun h2=>?_) (fun h2=>?_)))
  ·skip
   have h2:d.state≠0:=by simpa using h2
   have hs:quitB s n=(s,8):=by unfold quitB;rw[if_neg h1,if_neg (by omega)]
   refine r_sr (p_as rfl rfl (o_keep (kp [0,1,4] rfl) ?_))
   refine r_retv hF rfl (.c (.t rfl) .n) ?_ ?_
   ·refine Ent.catI ?_;rw[hs];refine Ent.c (bookP_close lv ov ts hts rfl rfl rfl) ?_;apply eI;repeat constructor
   ·rw[hs];rfl
  ·skip
   have h2:d.state=0:=by simpa using h2
   have hs:quitB s n=(⟨s.l.set i {d with state:=2},s.order⟩,0):=by unfold quitB;rw[if_neg h1,if_pos (by omega)];rw[show n.toNat=i by omega,decideB_2 hd h2];rfl
   refine r_skip (r_seq ?_)
   refine r_bdeal i ht hd fun hy=>?_
   refine r_cat ?_
   refine r_rd t.wv fun hrw=>?_
   refine r_rd t.yv fun hry=>?_
   refine r_rd t.tv fun hrt=>?_
   refine r_region (p_mv rfl rfl (p_nil rfl rfl (p_fa fa_67_0 rfl rfl (p_ldc tc_64 rfl (by rfl) rfl ?_))))
   refine p_mv rfl rfl (p_idx Tryz.underlying64 (.ofA ta_148) hrd hni (zip_get ht hd) rfl rfl rfl (p_faat fa_148_1 (Rd.sh hrd (zip_get ht hd)) rfl rfl ?_))
   refine p_stel 1 (.ofC tc_3) rfl (zip_get ht hd) rfl rfl rfl rfl rfl (by repeat constructor) ?_
   refine o_keep (kp [4] rfl) (r_sr (p_as rfl rfl (o_keep (kp [4] rfl) ?_)))
   refine r_retv hF rfl (.c (.t rfl) .n) ?_ ?_
   ·refine Ent.catI ?_;rw[hs];refine Ent.tr (bdealP_close (d:={d with state:=2}) t ⟨hy.nd,hy.rng,hy.is⟩ rfl rfl rfl) ?_;refine Ent.tr (Ent.mono (SelX.ent (X:=restP bdealP ts s.l i))) ?_;refine Ent.tr (many_in ht hd) ?_;refine Ent.c (bookP_close (s:=⟨s.l.set i {d with state:=2},s.order⟩) lv ov ts (by simpa using hts) rfl (zip_set1 ht) rfl) ?_;apply eI;repeat constructor
   ·rw[hs];rfl
theorem crashT_set{s:BrokS}{i:Nat}{d:Deal}(h:s.l[i]?=some d):(crashT s i).l.set i (crashD d)=(crashT s (i+1)).l:=by
  have hi:=(List.getElem?_eq_some_iff.1 h).1
  unfold crashT
  dsimp only
  rw[List.set_append_right _ _ (by simp;omega),List.length_map,List.length_take,Nat.min_eq_left (by omega),Nat.sub_self,drop_at h,List.take_add_one,h]
  simp
theorem yes_no (l:List Want){st:Int}{ov:List Int}:YesR [] ⟨l,st,noYes l,ov⟩:=
  ⟨List.nodup_nil,fun x hx=>by simp at hx,fun i hi=>by simp[noYes,List.getElem?_replicate]⟩
theorem sgs{α:Type}{l:List α}{i:Nat}{r:α}(h:i<l.length):(l.set i r)[i]?=some r:=List.getElem?_set_self h
theorem zlen{ts:List DT}{ds:List Deal}(h:ts.length=ds.length):(List.zipWith rowD ts ds).length=ds.length:=by simp[h]
abbrev bgD (ws:List Want):Deal:=⟨ws,0,noYes ws,[]⟩
abbrev bgT0 (v:Value):DT:=⟨v,.slice Option.none 0 0,.slice Option.none 0 0,[]⟩
def nilS:Value:=.slice Option.none 0 0
theorem crash_rows {s : BrokS} {us : List DT} {t : DT} {i : Nat} {d : Deal} {l2 : List Deal} {r1 : List Value} {st : Int} {yv tv : Value} {y : List Int} (hd : s.l[i]? = some d) (hl2 : l2 = (crashT s i).l.set i { d with state := st }) (hst : st = if d.state = 0 then 2 else d.state) :
    ((List.zipWith rowD us l2).set i r1).set i [t.wv, .int .i64 st, .slice Option.none 0 0, .slice Option.none 0 0] = List.zipWith rowD (us.set i ⟨t.wv, .slice Option.none 0 0, .slice Option.none 0 0, []⟩) (crashT s (i + 1)).l := by
  have e:([t.wv,.int .i64 st,.slice Option.none 0 0,.slice Option.none 0 0]:List Value)=rowD ⟨t.wv,.slice Option.none 0 0,.slice Option.none 0 0,[]⟩ (crashD d):=by subst hst;rfl
  rw[List.set_set,e,zip_set,hl2,List.set_set,crashT_set hd]
theorem book_Crash (M:Amb)(T:TypeId)(rest:List Value)(b:Nat)(s:BrokS)(hI:BInv s):FnC Tryz.prog M 76 [ptr b] (resVal []) [bookP b T rest s] [bookP b T rest (crashB s)]:=by
 have hl8:=hI.len
 refine fnc_intro Tryz.func76 rfl Tryz.ntmps76 rfl fun R F hF=>?_
 refine r_cat ?_
 refine r_book fun lv ov ts hts=>?_
 refine r_cat ?_
 refine r_rd lv fun hrd=>?_
 refine r_rd ov fun hro=>?_
 refine r_sr (p_as rfl rfl (o_keep (kp [0,2] rfl) (r_block ?_)))
 refine r_loop_2 (fun (i:Nat) (us:List DT)=>[(2,true,.int .i64 (i:Int))]) (kp [0] rfl) (fun (i:Nat) (us:List DT)=>blk b (lv::ov::rest) T::sl lv 148 4 (List.zipWith rowD us (crashT s i).l)::sl ov 3 1 (s.order.map rI)::manyP bdealP us (crashT s i).l::R) (fun (i:Nat) (us:List DT)=>i≤s.l.length∧us.length=s.l.length) (fun (i:Nat) (us:List DT)=>s.l.length - i) (0) (ts) ?_ (kp [2] rfl) ?_ (fun i us hI=>?_)
 ·exact⟨Nat.zero_le _,hts⟩
 ·rw[crashT_0];apply eI;repeat constructor
 ·skip
  obtain⟨hi0,hus⟩:=hI
  refine r_rd lv fun hrl=>?_
  refine r_seq (r_sr (p_mv rfl rfl (p_mv rfl rfl (p_nil rfl rfl (p_fa fa_67_0 rfl rfl (p_ldc tc_64 rfl (by rfl) rfl ?_))))))
  refine l_op (x_p (pv_lens (Rd.lenz hrl (hus.trans (crashT_len s i).symm)) ⟨_,Tryz.underlying64⟩ (.n rfl) rfl rfl rfl rfl fR) rfl rfl (p_lss rfl rfl rfl (o_keep (kp [0,2,9] rfl) (r_cond _ rfl (fun h1=>?_) (fun h1=>?_)))))
  ·skip
   have hil:i<s.l.length:=by have:=of_decide_eq_true h1;have:=crashT_len s i;omega
   obtain⟨d,hd⟩:=getlt hil
   obtain⟨t,ht⟩:=getlt (l:=us) (i:=i) (by omega)
   have hdc:=crashT_at hd
   refine r_skip (r_seq (r_block (r_seq (r_sr (p_mv rfl rfl (p_nil rfl rfl (p_fa fa_67_0 rfl rfl ?_)))))))
   refine p_ldc tc_64 rfl (by rfl) rfl ?_
   refine p_mv rfl rfl (p_idx Tryz.underlying64 (.ofA ta_148) hrl rfl (zip_get ht hdc) rfl rfl rfl (p_faat fa_148_1 (Rd.sh hrl (zip_get ht hdc)) rfl rfl (p_ldat 1 tc_3 (Rd.ent hrl (eJ (by repeat constructor))) (zip_get ht hdc) rfl rfl rfl rfl ?_)))
   refine p_eql rfl rfl rfl (o_keep (kp [0,2,20] rfl) ?_)
   refine r_cut_1 (fun (l2:List Deal)=>[]) (kp [0,2] rfl) (fun (l2:List Deal)=>blk b (lv::ov::rest) T::sl lv 148 4 (List.zipWith rowD us l2)::sl ov 3 1 (s.order.map rI)::manyP bdealP us (crashT s i).l::R) (fun (l2:List Deal)=>l2=((crashT s i).l.set i {d with state:=if d.state=0 then 2 else d.state})) ?_ (fun l2 hI=>?_)
   ·skip
    refine r_cond _ rfl (fun h2=>?_) (fun h2=>?_)
    ·skip
     have h0:d.state=0:=of_decide_eq_true h2
     refine r_region (p_mv rfl rfl (p_nil rfl rfl (p_fa fa_67_0 rfl rfl (p_ldc tc_64 rfl (by rfl) rfl ?_))))
     refine p_mv rfl rfl (p_idx Tryz.underlying64 (.ofA ta_148) hrl rfl (zip_get ht hdc) rfl rfl rfl (p_faat fa_148_1 (Rd.sh hrl (zip_get ht hdc)) rfl rfl ?_))
     refine p_stel 1 (.ofC tc_3) rfl (zip_get ht hdc) rfl rfl rfl rfl rfl (by repeat constructor) ?_
     refine o_keep (kp [0,2] rfl) ?_
     refine r_join_1 ((crashT s i).l.set i {d with state:=2}) ?_ (Keep.app (.n) (kp [0,2] rfl)) ?_
     ·rw[if_pos h0]
     ·rw[← zip_set1 ht];apply eI;repeat constructor
    ·skip
     have h0:¬ d.state=0:=of_decide_eq_false h2
     refine r_skip ?_
     refine r_join_1 ((crashT s i).l) ?_ (Keep.app (.n) (kp [0,2] rfl)) ?_
     ·rw[if_neg h0];exact (set_selfE hdc).symm
     ·apply eI;repeat constructor
   have hl2:=hI
   have hd2:l2[i]?=some {d with state:=if d.state=0 then 2 else d.state}:=by rw[hl2];exact sgs (by rw[crashT_len];exact hil)
   refine r_rd lv fun hr2=>?_
   refine r_bdeal i ht hdc fun hy=>?_
   refine r_cat ?_
   refine r_rd t.wv fun hrw=>?_
   refine r_rd t.yv fun hry=>?_
   refine r_rd t.tv fun hrt=>?_
   refine r_plan (_) ([sl lv 148 4 (List.zipWith rowD us l2)]) mo (kp [0,2] rfl) (SelS.ent) ?_
   refine yp 0 [.k 0] rfl rfl (by kernel_rfl) (u_mv rfl rfl rfl) (yp 1 [.o 0] rfl rfl (by kernel_rfl) (u_nil rfl rfl rfl) (yp 2 [.o 1] rfl rfl (by kernel_rfl) (u_fa fa_67_0 rfl rfl rfl) (yr 3 [.o 2] rfl rfl (by kernel_rfl) (fun He=>u_ldc tc_64 rfl rfl rfl (by rfl)) ?_)))
   refine yp 4 [.k 2] rfl rfl (by kernel_rfl) (u_mv rfl rfl rfl) (yp 5 [.k 0] rfl rfl (by kernel_rfl) (u_mv rfl rfl rfl) (yp 6 [.o 5] rfl rfl (by kernel_rfl) (u_nil rfl rfl rfl) (yp 7 [.o 6] rfl rfl (by kernel_rfl) (u_fa fa_67_0 rfl rfl rfl) (yr 8 [.o 7] rfl rfl (by kernel_rfl) (fun He=>u_ldc tc_64 rfl rfl rfl (by rfl)) ?_))))
   refine yp 9 [.k 2] rfl rfl (by kernel_rfl) (u_mv rfl rfl rfl) (yp 10 [.o 3,.o 4] rfl rfl (by kernel_rfl) (pv_idx Tryz.underlying64 (.ofA ta_148) hr2 (fun hg=>⟨rfl,(zip_get ht hd2)⟩) (.n rfl) rfl rfl rfl fS) (yp 11 [.o 10] rfl rfl (by kernel_rfl) (pv_faat fa_148_2 (fun hg=>Rd.sh hr2 (zip_get ht hd2)) (.n rfl) rfl rfl fR) ?_))
   refine qm_stel 2 (.ofC tc_65) (zip_get ht hd2) rfl (i:=12) [.o 11] (by kernel_rfl) (by kernel_rfl) rfl rfl rfl (by kernel_rfl) (by kernel_rfl) ⟨_,.n rfl,rfl⟩ rfl rfl rfl rfl rfl rfl (by repeat constructor) ?_
   refine yp 13 [.o 8,.o 9] rfl rfl (by kernel_rfl) (pv_idx Tryz.underlying64 (.ofA ta_148) hr2 (fun hg=>⟨rfl,(zip_get ht hd2)⟩) (.n rfl) rfl rfl rfl fS) (yp 14 [.o 13] rfl rfl (by kernel_rfl) (pv_faat fa_148_3 (fun hg=>Rd.sh hr2 (zip_get ht hd2)) (.n rfl) rfl rfl fR) ?_)
   refine qb_stel 3 (.ofC tc_65) (sgs (by rw[zlen (by rw[hl2];simp[crashT_len,hus])];rw[hl2];simp[crashT_len];omega)) rfl (i:=15) [.o 14] (by kernel_rfl) (by kernel_rfl) rfl rfl rfl (by kernel_rfl) (by kernel_rfl) (by kernel_rfl) ⟨_,.n rfl,rfl⟩ rfl rfl rfl rfl rfl rfl (by repeat constructor) ?_
   refine qm_n (by kernel_rfl) (by kernel_rfl) (by kernel_rfl) (by kernel_rfl) (kp [0,2] rfl) ?_
   refine r_end (r_region (p_mv rfl rfl (p_add rfl rfl (by omega) rfl (p_as rfl rfl (o_keep (kp [0,2] rfl) ?_)))))
   refine r_back_2 (i+1) (us.set i ⟨t.wv,.slice Option.none 0 0,.slice Option.none 0 0,[]⟩) ?_ ?_ (Keep.app (kp [2] rfl) (kp [0] rfl)) ?_
   ·exact⟨by omega,by simpa using hus⟩
   ·omega
   ·rw[← crash_rows (t:=t) (r1:=[t.wv,.int .i64 (if d.state=0 then 2 else d.state),.slice Option.none 0 0,t.tv]) (yv:=nilS) (tv:=nilS) (y:=[]) hd hl2 rfl];refine Ent.c (SelB.ent) ?_;refine Ent.c (SelS.ent) ?_;refine Ent.c (SelS.ent) ?_;refine Ent.tr (Ent.slN (E:=3) (sz:=1)) (Ent.tr (Ent.slN (E:=3) (sz:=1)) ?_);refine Ent.tr (bdealP_close (d:=crashD d) ⟨t.wv,.slice Option.none 0 0,.slice Option.none 0 0,[]⟩ (yes_no d.wants) rfl rfl rfl) ?_;refine Ent.tr (Ent.mono (SelX.ent (X:=restP bdealP us (crashT s i).l i))) ?_;refine Ent.tr (many_in2 (b':=⟨t.wv,.slice Option.none 0 0,.slice Option.none 0 0,[]⟩) (d':=crashD d) ht hdc) ?_;rw[crashT_set hd];apply eI;repeat constructor
  ·skip
   have hil:s.l.length≤i:=by have:=of_decide_eq_false h1;have:=crashT_len s i;omega
   refine r_exit rfl ?_
   refine r_fallc hF rfl ?_
   ·refine Ent.catI ?_;rw[← crashT_all s hil];refine Ent.c (bookP_close (s:=crashT s i) lv ov us (hus.trans (crashT_len s i).symm) rfl rfl rfl) ?_;apply eI;repeat constructor
theorem one_cons{M:Amb}{H:List HP}{v:Value}{sz:Nat}{rows:List (List Value)}{r:List Value}(h:Rd M H v sz rows)(hr:r.all (·.oneCell')=true):(v::r).all (·.oneCell')=true:=by
  obtain⟨ao,c,rfl⟩:=h.shape;exact hr
theorem Rd.lenz1{H:List HP}{M:Amb}{v:Value}{sz:Nat}{ts:List DT}{l:List Deal}{r:List Value}(h:Rd M H v sz (List.zipWith rowD ts l++[r]))(e:ts.length=l.length):∃ ao c,v=.slice ao (l.length+1) c:=by
  obtain⟨ao,c,e'⟩:=h.shape
  exact⟨ao,c,by rw[e',List.length_append,List.length_zipWith,e,Nat.min_self];rfl⟩
theorem zip_add{ts:List DT}{ds:List Deal}{t:DT}{d:Deal}(h:ts.length=ds.length):List.zipWith rowD ts ds++[rowD t d]=List.zipWith rowD (ts++[t]) (ds++[d]):=by
  rw[List.zipWith_append h];rfl
theorem book_BeginR (M:Amb)(T:TypeId)(rest:List Value)(b:Nat)(s:BrokS)(hI:BInv s)(R:List HP)(wv:Value)(ws:List Want)(hw:Rd M R wv 2 (ws.map rW))(hb:ws.length≤100000):FnR Tryz.prog M (bookP b T rest s::R) 69 [ptr b,wv] (fun u H'=>u=.tuple #[.int .i64 (beginB s ws).2.1,.int .i64 (beginB s ws).2.2]∧H'=bookP b T rest (beginB s ws).1::R):=by
 have hl8:=hI.len
 refine fn_intro Tryz.func69 rfl Tryz.ntmps69 rfl fun F hF=>?_
 refine r_book fun lv ov ts hts=>?_
 refine r_cat ?_
 refine r_rd lv fun hrd=>?_
 refine r_rd ov fun hro=>?_
 refine r_sr (p_as rfl rfl (p_as rfl rfl (o_keep (kp [0,1,4,5] rfl) (r_seq (r_sr (p_mv rfl rfl ?_))))))
 refine p_callv cf_115 (.c rfl .n) rfl (ref_WantsFault _ _ wv ws (Rd.ent hw (by repeat (first|exact Ent.rfl|refine Ent.dropR ?_))) hb) ?_
 refine p_alloc zr_31 rfl fun b6=>?_
 refine p_store (.ofA ta_31) rfl rfl rfl (by first|rfl|exact rfl) (by first|rfl|exact rfl) (Ins.whole (by first|rfl|(simp only[List.length_map,List.length_cons,List.length_nil];omega)|(simp[*];done)|(simp[*];rfl))) ?_
 refine o_keep (.c 0 rfl (.c 1 rfl (.c 4 rfl (.c 5 rfl (.c 6 rfl .n))))) (r_sr (p_fa fa_31_0 rfl rfl (p_ldc tc_3 rfl (by rfl) rfl ?_)))
 refine p_neq rfl rfl rfl (o_keep (kp [0,1,4,5,6,12] rfl) (r_cond _ rfl (fun h1=>?_) (fun h1=>?_)))
 ·skip
  have hc:(checkL ws).code≠0:=by simpa using h1
  have hs:beginB s ws=(s,0,(checkL ws).code):=by unfold beginB;rw[if_pos hc]
  refine r_seq ?_
  refine r_plan _ [] mo (kp [0,1,6] rfl) Ent.rfl ?_
  refine yp 0 [.k 6] rfl rfl (by kernel_rfl) (u_fa fa_31_0 rfl rfl rfl) (yr 1 [.o 0] rfl rfl (by kernel_rfl) (fun He=>u_ldc tc_3 rfl rfl rfl (by rfl)) ?_)
  refine yp 2 [] rfl rfl (by kernel_rfl) (u_as rfl rfl rfl) (yp 3 [.o 1] rfl rfl (by kernel_rfl) (u_as rfl rfl rfl) ?_)
  refine qm_n (by kernel_rfl) (by kernel_rfl) (by kernel_rfl) (by kernel_rfl) (kp [0,1,4,5] rfl) ?_
  refine r_retv hF rfl (.c (.t rfl) (.c (.t rfl) .n)) ?_ ?_
  ·rw[hs];refine Ent.c (bookP_close lv ov ts hts rfl rfl rfl) ?_;apply eI;repeat constructor
  ·rw[hs];rfl
 ·skip
  have hc:¬ (checkL ws).code≠0:=by simpa using h1
  refine r_skip (r_seq (r_sr (p_mv rfl rfl (p_nil rfl rfl (p_fa fa_67_0 rfl rfl (p_ldc tc_64 rfl (by rfl) rfl ?_))))))
  refine l_op (x_p (pv_lens (Rd.lenz hrd hts) ⟨_,Tryz.underlying64⟩ (.n rfl) rfl rfl rfl rfl fR) rfl rfl (p_geq rfl rfl rfl (o_keep (kp [0,1,4,5,20] rfl) (r_cond _ rfl (fun h2=>?_) (fun h2=>?_)))))
  ·skip
   have h8:8≤s.l.length:=by have:=of_decide_eq_true h2;omega
   have hs:beginB s ws=(s,0,6):=by unfold beginB;rw[if_neg hc,if_pos h8]
   refine r_sr (p_as rfl rfl (p_as rfl rfl (o_keep (kp [0,1,4,5] rfl) ?_)))
   refine r_retv hF rfl (.c (.t rfl) (.c (.t rfl) .n)) ?_ ?_
   ·rw[hs];refine Ent.c (bookP_close lv ov ts hts rfl rfl rfl) ?_;apply eI;repeat constructor
   ·rw[hs];rfl
  ·skip
   have h8:¬ 8≤s.l.length:=by have:=of_decide_eq_false h2;omega
   have hs:beginB s ws=({s with l:=s.l++[(bgD ws)]},(s.l.length:Int),0):=by unfold beginB;rw[if_neg hc,if_neg h8]
   refine r_skip (r_sr (p_as rfl rfl (o_keep (kp [0,1,4,5,7] rfl) (r_seq ?_))))
   refine r_slN 93 2 ?_
   refine r_plan (_) ([sl (.slice Option.none 0 0) 93 2 [],sl lv 148 4 (List.zipWith rowD ts s.l)]) mo (kp [0,1,4,5,7] rfl) ((Ent.c SelS.ent (Ent.c SelS.ent Ent.rfl))) ?_
   refine yp 0 [.k 0] rfl rfl (by kernel_rfl) (u_mv rfl rfl rfl) (yp 1 [.k 0] rfl rfl (by kernel_rfl) (u_mv rfl rfl rfl) (yp 2 [.o 1] rfl rfl (by kernel_rfl) (u_nil rfl rfl rfl) (yp 3 [.o 2] rfl rfl (by kernel_rfl) (u_fa fa_67_0 rfl rfl rfl) (yr 4 [.o 3] rfl rfl (by kernel_rfl) (fun He=>u_ldc tc_64 rfl rfl rfl (by rfl)) ?_))))
   refine yp 5 [.k 7] rfl rfl (by kernel_rfl) (u_mv rfl rfl rfl) (yp 6 [.k 1] rfl rfl (by kernel_rfl) (u_mv rfl rfl rfl) ?_)
   refine qa_append Tryz.underlying89 el_93 rfl rfl (i:=7) [.o 5,.o 6] (by kernel_rfl) (by kernel_rfl) rfl rfl rfl rfl (by kernel_rfl) (by kernel_rfl) ⟨_,.n rfl,rfl⟩ rfl rfl rfl ((Rd.ent hw (by repeat (first|exact Ent.rfl|refine Ent.dropR ?_)))) (by simp;omega) fun v28=>?_
   refine qm_rd v28 fun hr28=>?_
   refine yp 8 [.o 7] rfl rfl (by kernel_rfl) (pv_build zr_148 pl_148 (.n rfl) rfl (.c rfl fR rfl hr28.c1 rfl (by repeat constructor) .n)) ?_
   refine qm_bslice1 Tryz.underlying64 (.ofA ta_148) zr_148 rfl (i:=9) [.o 8] (by kernel_rfl) (by kernel_rfl) rfl rfl rfl rfl (by kernel_rfl) (by kernel_rfl) ⟨_,.n rfl,rfl⟩ rfl rfl rfl rfl (one_cons hr28 rfl) rfl fun b30=>?_
   refine qa_append Tryz.underlying64 el_148 rfl rfl (i:=10) [.o 4,.o 9] (by kernel_rfl) (by kernel_rfl) rfl rfl rfl rfl (by kernel_rfl) (by kernel_rfl) ⟨_,.n rfl,rfl⟩ rfl rfl rfl (Rd.blit rfl (one_cons hr28 rfl)) (by simp;omega) fun v31=>?_
   refine qm_rd v31 fun hr31=>?_
   refine yp 11 [.o 0] rfl rfl (by kernel_rfl) (u_nil rfl rfl rfl) (yp 12 [.o 11] rfl rfl (by kernel_rfl) (u_fa fa_67_0 rfl rfl rfl) ?_)
   refine qb_store (.ofC tc_64) (i:=13) [.o 12,.o 10] (by kernel_rfl) (by kernel_rfl) rfl rfl rfl (by kernel_rfl) (by kernel_rfl) (by kernel_rfl) ⟨_,.n rfl,rfl⟩ rfl rfl rfl hr31.c1 rfl hr31.o1 (by repeat constructor) ?_
   refine qm_n (by kernel_rfl) (by kernel_rfl) (by kernel_rfl) (by kernel_rfl) (kp [0,4,5] rfl) ?_
   refine r_seq ?_
   refine r_rd v31 fun hr9=>?_
   refine r_region (p_mv rfl rfl (p_nil rfl rfl (p_fa fa_67_0 rfl rfl (p_ldc tc_64 rfl (by rfl) rfl ?_))))
   refine l_op (x_p (pv_lens (Rd.lenz1 hr9 hts) ⟨_,Tryz.underlying64⟩ (.n rfl) rfl rfl rfl rfl fR) rfl rfl (p_sub rfl rfl (by omega) rfl (p_as rfl rfl (p_as rfl rfl (o_keep (kp [4,5] rfl) ?_)))))
   refine r_retv hF rfl (.c (.t rfl) (.c (.t rfl) .n)) ?_ ?_
   ·rw[hs];dsimp only;refine Ent.tr (Ent.slN (E:=3) (sz:=1)) (Ent.tr (Ent.slN (E:=3) (sz:=1)) ?_);refine Ent.tr (bdealP_close (d:=(bgD ws)) (bgT0 v28) (yes_no ws) rfl rfl rfl) ?_;refine Ent.tr (Ent.mono (SelX.ent (X:=manyP bdealP ts s.l))) ?_;refine Ent.tr (many_add hts) ?_;refine Ent.c (bookP_close (s:=⟨s.l++[(bgD ws)],s.order⟩) v31 ov (ts++[(bgT0 v28)]) (by simp[hts]) rfl (zip_add (t:=(bgT0 v28)) (d:=(bgD ws)) hts) rfl) ?_;apply eI;repeat constructor
   ·rw[hs];show Value.tuple #[.int .i64 (((s.l.length+1:Nat):Int) - 1),.int .i64 0]=_;rw[show ((s.l.length+1:Nat):Int) - 1=s.l.length by omega]
end Go.Proofs.YtmakdilmibjpbaaGreatDoor
namespace Go.Proofs.YtmakdilmibjpbaaGreatDoor
open Go Go.RowKit
set_option linter.unusedVariables false
set_option linter.unusedSimpArgs false
set_option maxRecDepth 20000
theorem hear_skip{s:BrokS}{i:Nat}{d:Deal}{m:Mail}(hd:s.l[i]?=some d)(hm:m.deal=(i:Int))(h4:m.kind≠4)(h:m.kind=2→d.state=0→shopOf m.ctr≠m.shop):hearB s m=s:=by
  rw[hearB_at hd hm]
  by_cases h2:m.kind=2
  · rw[if_pos h2]
    split
    · rfl
    · refine if_pos ?_
      by_cases h0:d.state=0
      · exact .inl (h h2 h0)
      · exact .inr h0
  · rw[if_neg h2,if_neg h4]
theorem hear_over{s:BrokS}{i:Nat}{d:Deal}{m:Mail}(hd:s.l[i]?=some d)(hm:m.deal=(i:Int))(h4:m.kind=4):hearB s m=if d.state≠0∧(shopsL d.wants).contains m.shop=true∧d.over.contains m.shop=false then ⟨s.l.set i {d with over:=d.over++[m.shop]},s.order⟩ else s:=by
  rw[hearB_at hd hm,if_neg (by omega),if_pos h4]
theorem atW_first{l:List Want}{c e:Int}{j:Nat}(h:l[j]?=some ⟨c,e⟩)(hf:∀ k:Nat,k<j→l[k]?≠some ⟨c,e⟩):atW l c e=some j:=by
  cases ha:atW l c e with
  | none=>exact absurd (List.mem_of_getElem? h) (atW_none ha)
  | some q=>
    obtain⟨h1,h2⟩:=atW_some ha
    rcases Nat.lt_trichotomy q j with h3|h3|h3
    · exact absurd h1 (hf q h3)
    · rw[h3]
    · exact absurd h (h2 j h3)
theorem atW_non{l:List Want}{c e:Int}(hf:∀ k:Nat,k<l.length→l[k]?≠some ⟨c,e⟩):atW l c e=none:=by
  cases ha:atW l c e with
  | none=>rfl
  | some q=>
    obtain⟨h1,_⟩:=atW_some ha
    exact absurd h1 (hf q (List.getElem?_eq_some_iff.1 h1).1)
theorem hear_none{s:BrokS}{i:Nat}{d:Deal}{m:Mail}(hd:s.l[i]?=some d)(hm:m.deal=(i:Int))(h2:m.kind=2)(ha:atW d.wants m.ctr m.dl=none):hearB s m=s:=by
  rw[hearB_at hd hm,if_pos h2,ha]
theorem hear_say {s : BrokS} {i j : Nat} {d : Deal} {m : Mail} (hd : s.l[i]? = some d) (hm : m.deal = (i : Int)) (h2 : m.kind = 2) (h0 : d.state = 0) (hs : shopOf m.ctr = m.shop) (ha : atW d.wants m.ctr m.dl = some j) :
    (m.yes = false → hearB s m = ⟨s.l.set i { d with state := 2 }, s.order⟩) ∧ (m.yes = true → ((d.yes.set j true).contains false = true → hearB s m = ⟨s.l.set i { d with yes := d.yes.set j true }, s.order⟩) ∧
      ((d.yes.set j true).contains false = false → hearB s m = ⟨s.l.set i { d with yes := d.yes.set j true, state := 1 }, s.order ++ [(i : Int)]⟩)) := by
  have hil:=(List.getElem?_eq_some_iff.1 hd).1
  rw[hearB_at hd hm,if_pos h2,ha]
  dsimp only
  rw[if_neg (by simp[hs,h0])]
  refine⟨fun hy=>?_,fun hy=>⟨fun hc=>?_,fun hc=>?_⟩⟩
  · rw[if_pos hy,decideB_2 hd h0];rfl
  · rw[if_neg (by simp[hy]),if_pos hc]
  · rw[if_neg (by simp[hy]),if_neg (by rw[hc];simp),decideB_2 (d:={d with yes:=d.yes.set j true}) (by exact sgs hil) h0]
    simp
theorem YesR.len{ys:List Int}{d:Deal}(h:YesR ys d):ys.length≤d.wants.length:=by
  have hr:((List.range d.wants.length).map fun i:Nat=>(i:Int)).length=d.wants.length:=by simp
  rw[← hr]
  refine nodup_le h.nd fun x hx=>?_
  have:=h.rng x hx
  exact List.mem_map.2 ⟨x.toNat,by simp;omega,by omega⟩
theorem YesR.add{ys:List Int}{d:Deal}{j:Nat}(h:YesR ys d)(hy:d.yes.length=d.wants.length)(hj:j<d.wants.length)(hn:(j:Int)∉ys):YesR (ys++[(j:Int)]) {d with yes:=d.yes.set j true}:=by
  refine⟨?_,fun x hx=>?_,fun i hi=>?_⟩
  · rw[List.nodup_append]
    exact⟨h.nd,by simp,fun a ha b hb e=>by simp at hb;subst hb;exact hn (e▸ha)⟩
  · rcases List.mem_append.1 hx with hx|hx
    · exact h.rng x hx
    · simp at hx;subst hx;exact⟨by omega,by show (j:Int)<d.wants.length;omega⟩
  · show _↔(d.yes.set j true)[i]?=some true
    by_cases e:i=j
    · subst e;rw[List.getElem?_set_self (by rw[hy];exact hi)];simp
    · rw[List.getElem?_set_ne (by omega),← h.is i hi]
      simp only[List.mem_append,List.mem_singleton]
      exact⟨fun q=>q.resolve_right (by omega),.inl⟩
theorem YesR.same{ys:List Int}{d:Deal}{j:Nat}(h:YesR ys d)(hj:j<d.wants.length)(hn:(j:Int)∈ys):YesR ys {d with yes:=d.yes.set j true}:=by
  rw[set_selfE ((h.is j hj).1 hn)];exact h
theorem YesR.full{ys:List Int}{d:Deal}{j:Nat}(h:YesR ys {d with yes:=d.yes.set j true})(hy:d.yes.length=d.wants.length)(hj:j<d.wants.length):ys.length=d.wants.length↔(d.yes.set j true).contains false=false:=by
  rw[full_iff h.nd h.rng,set_yes (by omega)]
  constructor
  · intro q k hk
    have:=(h.is k (by rw[hy] at hk;exact hk)).1 (q k (by rw[hy] at hk;exact hk))
    by_cases e:k=j
    · exact .inl e
    · rw[List.getElem?_set_ne (by omega)] at this;exact .inr this
  · intro q k hk
    refine (h.is k hk).2 ?_
    show (d.yes.set j true)[k]?=some true
    by_cases e:k=j
    · subst e;exact List.getElem?_set_self (by rw[hy];exact hk)
    · rw[List.getElem?_set_ne (by omega)];exact (q k (by rw[hy];exact hk)).resolve_left e
theorem bookCases (d:Deal)(m:Mail):m.kind≠4∨(m.kind=4∧d.state=0)∨(m.kind=4∧d.state≠0∧(shopsL d.wants).contains m.shop=false)∨(m.kind=4∧d.state≠0∧(shopsL d.wants).contains m.shop=true):=by
  by_cases h:m.kind=4
  · rcases overCases d m.shop with h0|h0|h0
    · exact .inr (.inl ⟨h,h0⟩)
    · exact .inr (.inr (.inl ⟨h,h0⟩))
    · exact .inr (.inr (.inr ⟨h,h0⟩))
  · exact .inl h
theorem ref_ShopsOfN (M:Amb)(A:List HP)(v:Value)(l:List Want)(hv:Rd M A v 2 (l.map rW))(hb:l.length≤100000):FnN (α:=Value) Tryz.prog M 80 [v] A (fun x=>x) (fun x=>[sl x 3 1 ((shopsL l).map rI)]):=ref_ShopsOf M A v l hv hb
theorem book_Hear (M:Amb)(T:TypeId)(rest:List Value)(b:Nat)(s:BrokS)(hI:BInv s)(m:Mail):FnC Tryz.prog M 117 [ptr b,vM m] (resVal []) [bookP b T rest s] [bookP b T rest (hearB s m)]:=by
 have hor:=hI.ord_le
 refine fnc_intro Tryz.func117 rfl Tryz.ntmps117 rfl fun R F hF=>?_
 refine r_cat ?_
 refine r_sr (p_box rfl rfl rfl fun b3=>?_)
 refine o_keep (kp [0,3] rfl) (r_seq (r_sr (p_mv rfl rfl (p_fa fa_139_1 rfl rfl (p_ldc tc_3 rfl (by rfl) rfl ?_)))))
 refine p_callv cf_41 (.c rfl (.c rfl .n)) rfl ((book_State _ T rest b s hI m.deal).q) ?_
 refine p_eql rfl rfl rfl (o_keep (kp [0,3,10] rfl) (r_cond _ rfl (fun h1=>?_) (fun h1=>?_)))
 ·skip
  have hn:=of_decide_eq_true h1
  have hh:hearB s m=s:=hearB_out (by rcases hI.st m.deal with h|h;exact h.2;omega)
  refine r_retv hF rfl .n ?_ ?_
  ·refine Ent.catI ?_;rw[hh];refine Ent.c (SelX.ent) ?_;apply eI;repeat constructor
  ·rfl
 ·skip
  have hn:=of_decide_eq_false h1
  obtain⟨i,d,hm,hd⟩:∃ (i:Nat) (d:Deal),m.deal=(i:Int)∧s.l[i]?=some d:=by rcases hI.st m.deal with h|h;omega;exact⟨m.deal.toNat,s.l[m.deal.toNat]'(by omega),by omega,List.getElem?_eq_getElem (by omega)⟩
  have hil:=(List.getElem?_eq_some_iff.1 hd).1
  have hdk:=hI.d d (List.mem_of_getElem? hd)
  have hle:=hdk.le
  have hdy:=hdk.y
  refine r_skip (r_seq ?_)
  refine r_sel (bookP b T rest s) ?_
  refine r_book fun lv ov ts hts=>?_
  refine r_cat ?_
  refine r_rd lv fun hrd=>?_
  refine r_rd ov fun hro=>?_
  obtain⟨t,ht⟩:=getlt (l:=ts) (i:=i) (by omega)
  obtain⟨bl,of,ll,cl,rfl⟩:=Rd.sh hrd (zip_get ht hd)
  refine r_bdeal i ht hd fun hy=>?_
  refine r_cat ?_
  refine r_rd t.wv fun hrw=>?_
  refine r_rd t.yv fun hry=>?_
  refine r_rd t.tv fun hrt=>?_
  have hyl:=hy.len
  have hzl:i<(List.zipWith rowD ts s.l).length:=by rw[zlen hts];exact hil
  refine r_plan _ [] mo (kp [0,3] rfl) Ent.rfl ?_
  refine yp 0 [.k 0] rfl rfl (by kernel_rfl) (u_mv rfl rfl rfl) (yp 1 [.o 0] rfl rfl (by kernel_rfl) (u_nil rfl rfl rfl) (yp 2 [.o 1] rfl rfl (by kernel_rfl) (u_fa fa_67_0 rfl rfl rfl) (yr 3 [.o 2] rfl rfl (by kernel_rfl) (fun He=>u_ldc tc_64 rfl rfl rfl (by rfl)) ?_)))
  refine yp 4 [.k 3] rfl rfl (by kernel_rfl) (u_fa fa_139_1 rfl rfl rfl) (yr 5 [.o 4] rfl rfl (by kernel_rfl) (fun He=>u_ldc tc_3 rfl rfl rfl (by rfl)) ?_)
  refine yp 6 [.o 3,.o 5] rfl rfl (by kernel_rfl) (pv_idx Tryz.underlying64 (.ofA ta_148) hrd (fun hg=>⟨hm,(zip_get ht hd)⟩) (.n rfl) rfl rfl rfl fS) (yp 7 [.o 6] rfl rfl (by kernel_rfl) (u_as rfl rfl rfl) ?_)
  refine qm_n (by kernel_rfl) (by kernel_rfl) (by kernel_rfl) (by kernel_rfl) (kp [0,3,4] rfl) ?_
  refine r_seq (r_seq ?_)
  rcases bookCases d m with h0|⟨h4,h0⟩|⟨h4,h0,hsn⟩|⟨h4,h0,hsn⟩
  ·skip
   refine r_plan _ [] mo (kp [0,3,4] rfl) Ent.rfl ?_
   refine yp 0 [.k 3] rfl rfl (by kernel_rfl) (u_fa fa_139_0 rfl rfl rfl) (yr 1 [.o 0] rfl rfl (by kernel_rfl) (fun He=>u_ldc tc_3 rfl rfl rfl (by rfl)) ?_)
   refine yp 2 [.o 1] rfl rfl (by kernel_rfl) (pv_to (pv_eql (.n rfl) rfl rfl rfl fS) (show _=Value.bool false from bool_eq (by simp[h0]))) (yp 3 [.o 2] rfl rfl (by kernel_rfl) (u_mv rfl rfl rfl) ?_)
   refine yq 4 [.k 4,.o 3] rfl rfl (by kernel_rfl) (fun He=>rq_no (v:=.bool false) (.s rfl rfl rfl) rfl) ?_
   refine yq 5 [.o 4,.o 3] rfl rfl (by kernel_rfl) (fun He=>rq_no (v:=.bool false) (.s rfl rfl rfl) rfl) ?_
   refine yq 6 [.o 5,.o 3] rfl rfl (by kernel_rfl) (fun He=>rq_no (v:=.bool false) (.s rfl rfl rfl) rfl) ?_
   refine yq 7 [.o 6,.o 3] rfl rfl (by kernel_rfl) (fun He=>rq_no (v:=.bool false) (.s rfl rfl rfl) rfl) ?_
   refine yq 8 [.o 7,.o 3] rfl rfl (by kernel_rfl) (fun He=>rq_no (v:=.bool false) (.s rfl rfl rfl) rfl) ?_
   refine yp 9 [.o 3,.o 8] rfl rfl (by kernel_rfl) (pv_andf (.n rfl) rfl rfl fR) (yp 10 [.o 9] rfl rfl (by kernel_rfl) (u_mv rfl rfl rfl) ?_)
   refine yq 11 [.k 4,.o 10] rfl rfl (by kernel_rfl) (fun He=>rq_no (v:=.bool false) (.s rfl rfl rfl) rfl) ?_
   refine yq 12 [.o 11,.o 10] rfl rfl (by kernel_rfl) (fun He=>rq_no (v:=.bool false) (.s rfl rfl rfl) rfl) ?_
   refine yq 13 [.o 12,.o 10] rfl rfl (by kernel_rfl) (fun He=>rq_no (v:=.bool false) (.s rfl rfl rfl) rfl) ?_
   refine yq 14 [.o 13,.o 10] rfl rfl (by kernel_rfl) (fun He=>rq_no (v:=.bool false) (.s rfl rfl rfl) rfl) ?_
   refine yq 15 [.o 14,.o 10] rfl rfl (by kernel_rfl) (fun He=>rq_no (v:=.bool false) (.s rfl rfl rfl) rfl) ?_
   refine yq 16 [.k 3,.o 10] rfl rfl (by kernel_rfl) (fun He=>rq_no (v:=.bool false) (.s rfl rfl rfl) rfl) ?_
   refine yq 17 [.o 16,.o 10] rfl rfl (by kernel_rfl) (fun He=>rq_no (v:=.bool false) (.s rfl rfl rfl) rfl) ?_
   refine yq 18 [.o 15,.o 17,.o 10] rfl rfl (by kernel_rfl) (fun He=>rq_no (v:=.bool false) (.s rfl rfl rfl) rfl) ?_
   refine yp 19 [.o 10,.o 18] rfl rfl (by kernel_rfl) (pv_andf (.n rfl) rfl rfl fR) (yp 20 [.o 19] rfl rfl (by kernel_rfl) (u_mv rfl rfl rfl) ?_)
   refine yq 21 [.k 4,.o 20] rfl rfl (by kernel_rfl) (fun He=>rq_no (v:=.bool false) (.s rfl rfl rfl) rfl) ?_
   refine yq 22 [.o 21,.o 20] rfl rfl (by kernel_rfl) (fun He=>rq_no (v:=.bool false) (.s rfl rfl rfl) rfl) ?_
   refine yq 23 [.o 22,.o 20] rfl rfl (by kernel_rfl) (fun He=>rq_no (v:=.bool false) (.s rfl rfl rfl) rfl) ?_
   refine yq 24 [.o 23,.o 20] rfl rfl (by kernel_rfl) (fun He=>rq_no (v:=.bool false) (.s rfl rfl rfl) rfl) ?_
   refine yq 25 [.k 3,.o 20] rfl rfl (by kernel_rfl) (fun He=>rq_no (v:=.bool false) (.s rfl rfl rfl) rfl) ?_
   refine yq 26 [.o 25,.o 20] rfl rfl (by kernel_rfl) (fun He=>rq_no (v:=.bool false) (.s rfl rfl rfl) rfl) ?_
   refine yq 27 [.o 24,.o 26,.o 20] rfl rfl (by kernel_rfl) (fun He=>rq_no (v:=.bool false) (.s rfl rfl rfl) rfl) ?_
   refine yq 28 [.o 27,.o 20] rfl rfl (by kernel_rfl) (fun He=>rq_no (v:=.bool false) (.s rfl rfl rfl) rfl) ?_
   refine yp 29 [.o 20,.o 28] rfl rfl (by kernel_rfl) (pv_andf (.n rfl) rfl rfl fR) ?_
   refine qm_n (by kernel_rfl) (by kernel_rfl) (by kernel_rfl) (by kernel_rfl) (kp [0,3,4,47] rfl) ?_
   refine r_cond _ rfl (fun h2=>?_) (fun h2=>?_)
   ·simp at h2
   ·skip
    refine r_skip (r_seq (r_seq ?_))
    refine r_plan _ [] mo (kp [0,3,4] rfl) Ent.rfl ?_
    refine yp 0 [.k 3] rfl rfl (by kernel_rfl) (u_fa fa_139_0 rfl rfl rfl) (yr 1 [.o 0] rfl rfl (by kernel_rfl) (fun He=>u_ldc tc_3 rfl rfl rfl (by rfl)) ?_)
    refine yp 2 [.o 1] rfl rfl (by kernel_rfl) (pv_neq (.n rfl) rfl rfl rfl fS) (yp 3 [.o 2] rfl rfl (by kernel_rfl) (u_mv rfl rfl rfl) (yp 4 [.k 4,.o 3] rfl rfl (by kernel_rfl) (pv_mv (.s rfl rfl rfl) rfl rfl gA) ?_))
    refine yp 5 [.o 4,.o 3] rfl rfl (by kernel_rfl) (pv_nilp (.s rfl rfl rfl) rfl rfl gA) ?_
    refine yp 6 [.o 5,.o 3] rfl rfl (by kernel_rfl) (pv_faat fa_148_1 (fun hg=>Rd.sh hrd (zip_get ht hd)) (.s rfl rfl rfl) rfl rfl gA) ?_
    refine yr 7 [.o 6,.o 3] rfl rfl (by kernel_rfl) (fun He=>rv_ldat (j:=1) tc_3 (Rd.ent hrd (eJ (by repeat constructor))) (fun hg=>(zip_get ht hd)) (.s rfl rfl rfl) rfl rfl gA rfl fR) ?_
    refine yp 8 [.o 7,.o 3] rfl rfl (by kernel_rfl) (pv_neq (.s rfl rfl rfl) rfl rfl rfl gB) ?_
    refine yp 9 [.o 3,.o 8] rfl rfl (by kernel_rfl) (pv_or (.n rfl) rfl rfl rfl (fun _=>⟨rfl,fun hc=>by first|rfl|(rw[hc];rfl)|simp_all⟩)) ?_
    refine yp 10 [.o 9] rfl rfl (by kernel_rfl) (u_mv rfl rfl rfl) (yp 11 [.k 3,.o 10] rfl rfl (by kernel_rfl) (pv_fa fa_139_3 (.s rfl rfl rfl) rfl rfl gA) ?_)
    refine yp 12 [.o 11,.o 10] rfl rfl (by kernel_rfl) (pv_fa fa_93_0 (.s rfl rfl rfl) rfl rfl gA) ?_
    refine yr 13 [.o 12,.o 10] rfl rfl (by kernel_rfl) (fun He=>q_ldc tc_3 (.s rfl rfl rfl) rfl rfl gA (by rfl)) ?_
    refine yq 14 [.o 13,.o 10] rfl rfl (by kernel_rfl) (fun He=>rq_call cf_79 (.s rfl rfl rfl) rfl (.c rfl gA .n) (fun hg=>ref_ShopOf _ _ _)) ?_
    refine yp 15 [.k 3,.o 10] rfl rfl (by kernel_rfl) (pv_fa fa_139_2 (.s rfl rfl rfl) rfl rfl gA) ?_
    refine yr 16 [.o 15,.o 10] rfl rfl (by kernel_rfl) (fun He=>q_ldc tc_3 (.s rfl rfl rfl) rfl rfl gA (by rfl)) ?_
    refine yp 17 [.o 14,.o 16,.o 10] rfl rfl (by kernel_rfl) (pv_neq (.s rfl rfl rfl) rfl rfl rfl gB) ?_
    refine yp 18 [.o 10,.o 17] rfl rfl (by kernel_rfl) (pv_or (.n rfl) rfl rfl rfl (fun _=>⟨rfl,fun hc=>by first|rfl|(rw[hc];rfl)|simp_all⟩)) ?_
    refine qm_n (by kernel_rfl) (by kernel_rfl) (by kernel_rfl) (by kernel_rfl) (kp [0,3,4,77] rfl) ?_
    refine r_cond _ rfl (fun h3=>?_) (fun h3=>?_)
    ·skip
     have hh:hearB s m=s:=hear_skip hd hm h0 (fun a1 a2 a3=>by simp[a1,a2,a3] at h3)
     refine r_retv hF rfl .n ?_ ?_
     ·refine Ent.catI ?_;rw[hh];refine Ent.tr (bdealP_close (d:=d) t hy rfl rfl rfl) ?_;refine Ent.tr (Ent.mono (SelX.ent (X:=restP bdealP ts s.l i))) ?_;refine Ent.tr (many_back ht hd) ?_;refine Ent.c (bookP_close (s:=s) (.slice (some ⟨bl,of,Option.none⟩) ll cl) ov ts hts rfl rfl rfl) ?_;apply eI;repeat constructor
     ·rfl
    ·skip
     have hk2:m.kind=2:=Classical.byContradiction fun q=>by simp[q] at h3
     have hst0:d.state=0:=Classical.byContradiction fun q=>by simp[q] at h3
     have hsh:shopOf m.ctr=m.shop:=Classical.byContradiction fun q=>by simp[q] at h3
     refine r_skip (r_sr (p_as rfl rfl (o_keep (kp [0,3,4,5] rfl) (r_block ?_))))
     refine r_loop_1 (fun (j:Nat)=>[(5,true,.int .i64 (j:Int))]) (kp [0,3,4] rfl) (fun (j:Nat)=>blk b ((.slice (some ⟨bl,of,Option.none⟩) ll cl)::ov::rest) T::sl (.slice (some ⟨bl,of,Option.none⟩) ll cl) 148 4 (List.zipWith rowD ts s.l)::sl ov 3 1 (s.order.map rI)::restP bdealP ts s.l i::sl t.wv 93 2 (d.wants.map rW)::sl t.yv 3 1 (t.ys.map rI)::sl t.tv 3 1 (d.over.map rI)::blk b3 (rM m) 139::R) (fun (j:Nat)=>j≤d.wants.length∧∀ k:Nat,k<j→d.wants[k]?≠some ⟨m.ctr,m.dl⟩) (fun (j:Nat)=>d.wants.length - j) (0) ?_ (kp [5] rfl) ?_ (fun j hI=>?_)
     ·exact⟨Nat.zero_le _,fun k hk=>by omega⟩
     ·apply eI;repeat constructor
     ·skip
      obtain⟨hj0,hjk⟩:=hI
      refine r_seq (r_sr (p_mv rfl rfl (p_mv rfl rfl (p_nil rfl rfl (p_faat fa_148_0 (Rd.sh hrd (zip_get ht hd)) rfl rfl (p_ldat 0 tc_89 (Rd.ent hrd (eJ (by repeat constructor))) (zip_get ht hd) rfl rfl rfl rfl ?_))))))
      refine l_op (x_p (pv_lens (Rd.len hrw) ⟨_,Tryz.underlying89⟩ (.n rfl) rfl rfl rfl rfl fR) rfl rfl (p_lss rfl rfl rfl (o_keep (kp [0,3,4,5,84] rfl) (r_cond _ rfl (fun h4=>?_) (fun h4=>?_)))))
      ·skip
       obtain⟨w,hwj⟩:=getlt (l:=d.wants) (i:=j) (by have:=of_decide_eq_true h4;omega)
       have hjl:=(List.getElem?_eq_some_iff.1 hwj).1
       refine r_skip (r_seq (r_block (r_seq (r_seq ?_))))
       refine r_plan _ [] mo (kp [0,3,4,5] rfl) Ent.rfl ?_
       refine yp 0 [.k 4] rfl rfl (by kernel_rfl) (u_mv rfl rfl rfl) (yp 1 [.o 0] rfl rfl (by kernel_rfl) (u_nil rfl rfl rfl) (yp 2 [.o 1] rfl rfl (by kernel_rfl) (pv_faat fa_148_0 (fun hg=>Rd.sh hrd (zip_get ht hd)) (.n rfl) rfl rfl fR) ?_))
       refine yr 3 [.o 2] rfl rfl (by kernel_rfl) (fun He=>rv_ldat (j:=0) tc_89 (Rd.ent hrd (eJ (by repeat constructor))) (fun hg=>(zip_get ht hd)) (.n rfl) rfl rfl fR rfl fR) ?_
       refine yp 4 [.k 5] rfl rfl (by kernel_rfl) (u_mv rfl rfl rfl) (yp 5 [.o 3,.o 4] rfl rfl (by kernel_rfl) (pv_idx Tryz.underlying89 (.ofA ta_93) hrw (fun hg=>⟨rfl,(mapget hwj)⟩) (.n rfl) rfl rfl rfl fS) ?_)
       refine yr 6 [.o 5] rfl rfl (by kernel_rfl) (fun He=>rv_ldats (j:=0) ta_93 (Rd.ent hrw (eJ (by repeat constructor))) (fun hg=>(mapget hwj)) (.n rfl) rfl rfl fR rfl (.s (.s .z))) ?_
       refine yp 7 [.k 3] rfl rfl (by kernel_rfl) (u_fa fa_139_3 rfl rfl rfl) (yr 8 [.o 7] rfl rfl (by kernel_rfl) (fun He=>q_lda ta_93 (.n rfl) rfl rfl fR (by exact (.s (.s .z)))) ?_)
       refine yp 9 [.o 6,.o 8] rfl rfl (by kernel_rfl) (pv_ane ((eq_Want (m:=w) (n:=⟨m.ctr,m.dl⟩))) (.n rfl) rfl rfl rfl fS) ?_
       refine qm_n (by kernel_rfl) (by kernel_rfl) (by kernel_rfl) (by kernel_rfl) (kp [0,3,4,5,96] rfl) ?_
       refine r_cond _ rfl (fun h5=>?_) (fun h5=>?_)
       ·skip
        have hne:¬ w=⟨m.ctr,m.dl⟩:=fun q=>by subst q;simp at h5
        refine r_exit rfl (r_region (p_mv rfl rfl (p_add rfl rfl (by omega) rfl (p_as rfl rfl (o_keep (kp [0,3,4,5] rfl) ?_)))))
        refine r_back_1 (j+1) ?_ ?_ (Keep.app (kp [5] rfl) (kp [0,3,4] rfl)) ?_
        ·exact⟨by omega,fun k hk=>by rcases Nat.lt_succ_iff_lt_or_eq.1 hk with q|rfl;exact hjk k q;rw[hwj];exact fun e=>hne (Option.some.inj e)⟩
        ·omega
        ·apply eI;repeat constructor
       ·skip
        have hwe:w=⟨m.ctr,m.dl⟩:=Classical.byContradiction fun q=>by simp[q] at h5
        subst hwe
        have hsay:=hear_say hd hm hk2 hst0 hsh (atW_first hwj hjk)
        refine r_skip (r_seq (r_sr (p_fa fa_139_4 rfl rfl (p_ldc tc_4 rfl (by rfl) rfl ?_))))
        refine p_not rfl rfl (o_keep (kp [0,3,4,5,99] rfl) (r_cond _ rfl (fun h6=>?_) (fun h6=>?_)))
        ·skip
         have hmy:m.yes=false:=by simpa using h6
         have hh:=hsay.1 hmy
         refine r_sr (p_mv rfl rfl (p_nil rfl rfl (p_faat fa_148_1 (Rd.sh hrd (zip_get ht hd)) rfl rfl ?_)))
         refine p_stel 1 (.ofC tc_3) rfl (zip_get ht hd) rfl rfl rfl rfl rfl (by repeat constructor) ?_
         refine o_keep (kp [0,3,4,5] rfl) ?_
         refine r_retv hF rfl .n ?_ ?_
         ·refine Ent.catI ?_;rw[hh];refine Ent.tr (bdealP_close (d:={d with state:=2}) t ⟨hy.nd,hy.rng,hy.is⟩ rfl rfl rfl) ?_;refine Ent.tr (Ent.mono (SelX.ent (X:=restP bdealP ts s.l i))) ?_;refine Ent.tr (many_in ht hd) ?_;refine Ent.c (bookP_close (s:=⟨s.l.set i {d with state:=2},s.order⟩) (.slice (some ⟨bl,of,Option.none⟩) ll cl) ov ts (by simpa using hts) rfl (zip_set1 ht) rfl) ?_;apply eI;repeat constructor
         ·rfl
        ·skip
         have hmy:m.yes=true:=by simpa using h6
         refine r_skip (r_seq (r_sr (p_mv rfl rfl (p_nil rfl rfl (p_faat fa_148_2 (Rd.sh hrd (zip_get ht hd)) rfl rfl (p_ldat 2 tc_65 (Rd.ent hrd (eJ (by repeat constructor))) (zip_get ht hd) rfl rfl rfl rfl ?_))))))
         refine p_mv rfl rfl ?_
         refine p_callv cf_78 (.c rfl (.c rfl .n)) rfl (ref_In _ _ t.yv t.ys (j:Int) (Rd.ent hry (eJ (by repeat constructor))) (by omega)) ?_
         refine p_not rfl rfl (o_keep (kp [0,3,4,5,109] rfl) ?_)
         refine r_cut_2 (fun (yv2:Value) (ys2:List Int)=>[]) (kp [0,3,4,5] rfl) (fun (yv2:Value) (ys2:List Int)=>blk b ((.slice (some ⟨bl,of,Option.none⟩) ll cl)::ov::rest) T::sl (.slice (some ⟨bl,of,Option.none⟩) ll cl) 148 4 ((List.zipWith rowD ts s.l).set i [t.wv,.int .i64 d.state,yv2,t.tv])::sl ov 3 1 (s.order.map rI)::restP bdealP ts s.l i::sl t.wv 93 2 (d.wants.map rW)::sl yv2 3 1 (ys2.map rI)::sl t.tv 3 1 (d.over.map rI)::blk b3 (rM m) 139::R) (fun (yv2:Value) (ys2:List Int)=>YesR ys2 {d with yes:=d.yes.set j true}) ?_ (fun yv2 ys2 hI=>?_)
         ·skip
          refine r_cond _ rfl (fun h7=>?_) (fun h7=>?_)
          ·skip
           have hni:(j:Int)∉t.ys:=by simpa using h7
           refine r_region (p_mv rfl rfl (p_mv rfl rfl (p_nil rfl rfl (p_faat fa_148_2 (Rd.sh hrd (zip_get ht hd)) rfl rfl (p_ldat 2 tc_65 (Rd.ent hrd (eJ (by repeat constructor))) (zip_get ht hd) rfl rfl rfl rfl ?_)))))
           refine p_mv rfl rfl ?_
           refine p_bslice1 Tryz.underlying65 (.ofC tc_3) zr_3 rfl rfl rfl rfl rfl rfl rfl fun b116=>?_
           refine p_append Tryz.underlying65 el_3 rfl rfl rfl rfl rfl (Rd.blit rfl rfl) (by simp;omega) fun v117=>?_
           refine o_rd v117 fun hr117=>?_
           refine p_nil rfl rfl (p_faat fa_148_2 (Rd.sh hrd (zip_get ht hd)) rfl rfl ?_)
           refine p_stel 2 (.ofC tc_65) rfl (zip_get ht hd) rfl rfl hr117.c1 rfl hr117.o1 (by repeat constructor) ?_
           refine o_keep (kp [0,3,4,5] rfl) ?_
           refine r_join_2 (v117) (t.ys++[(j:Int)]) ?_ (Keep.app (.n) (kp [0,3,4,5] rfl)) ?_
           ·exact hy.add hdy hjl hni
           ·rw[List.map_append];apply eI;repeat constructor
          ·skip
           have hin:(j:Int)∈t.ys:=by simpa using h7
           have hz:(List.zipWith rowD ts s.l).set i [t.wv,.int .i64 d.state,t.yv,t.tv]=List.zipWith rowD ts s.l:=set_selfE (zip_get ht hd)
           refine r_skip ?_
           refine r_join_2 (t.yv) (t.ys) ?_ (Keep.app (.n) (kp [0,3,4,5] rfl)) ?_
           ·exact hy.same hjl hin
           ·rw[hz];apply eI;repeat constructor
         have hy2:=hI
         have hyl2:ys2.length≤d.wants.length:=hy2.len
         refine r_rd (.slice (some ⟨bl,of,Option.none⟩) ll cl) fun hrd2=>?_
         refine r_rd yv2 fun hry2=>?_
         refine r_seq (r_seq ?_)
         refine r_plan _ [] mo (kp [0,3,4,5] rfl) Ent.rfl ?_
         refine yp 0 [.k 4] rfl rfl (by kernel_rfl) (u_mv rfl rfl rfl) (yp 1 [.o 0] rfl rfl (by kernel_rfl) (u_nil rfl rfl rfl) (yp 2 [.o 1] rfl rfl (by kernel_rfl) (pv_faat fa_148_2 (fun hg=>Rd.sh hrd2 (sgs hzl)) (.n rfl) rfl rfl fR) ?_))
         refine yr 3 [.o 2] rfl rfl (by kernel_rfl) (fun He=>rv_ldat (j:=2) tc_65 (Rd.ent hrd2 (eJ (by repeat constructor))) (fun hg=>(sgs hzl)) (.n rfl) rfl rfl fR rfl fR) ?_
         refine yp 4 [.o 3] rfl rfl (by kernel_rfl) (pv_lens (Rd.len hry2) ⟨_,Tryz.underlying65⟩ (.n rfl) rfl rfl rfl rfl fR) (yp 5 [.k 4] rfl rfl (by kernel_rfl) (u_mv rfl rfl rfl) (yp 6 [.o 5] rfl rfl (by kernel_rfl) (u_nil rfl rfl rfl) ?_))
         refine yp 7 [.o 6] rfl rfl (by kernel_rfl) (pv_faat fa_148_0 (fun hg=>Rd.sh hrd2 (sgs hzl)) (.n rfl) rfl rfl fR) ?_
         refine yr 8 [.o 7] rfl rfl (by kernel_rfl) (fun He=>rv_ldat (j:=0) tc_89 (Rd.ent hrd2 (eJ (by repeat constructor))) (fun hg=>(sgs hzl)) (.n rfl) rfl rfl fR rfl fR) ?_
         refine yp 9 [.o 8] rfl rfl (by kernel_rfl) (pv_lens (Rd.len hrw) ⟨_,Tryz.underlying89⟩ (.n rfl) rfl rfl rfl rfl fR) (yp 10 [.o 4,.o 9] rfl rfl (by kernel_rfl) (pv_eql (.n rfl) rfl rfl rfl fS) ?_)
         refine qm_n (by kernel_rfl) (by kernel_rfl) (by kernel_rfl) (by kernel_rfl) (kp [0,3,4,5,130] rfl) ?_
         refine r_cond _ rfl (fun h8=>?_) (fun h8=>?_)
         ·skip
          have hf:ys2.length=d.wants.length:=by have:=of_decide_eq_true h8;omega
          have hh:=(hsay.2 hmy).2 ((hy2.full hdy hjl).1 hf)
          refine r_sr (p_mv rfl rfl (p_nil rfl rfl (p_faat fa_148_1 (Rd.sh hrd2 (sgs hzl)) rfl rfl ?_)))
          refine p_stel 1 (.ofC tc_3) rfl (sgs hzl) rfl rfl rfl rfl rfl (by repeat constructor) ?_
          refine o_keep (kp [0,3,4,5] rfl) ?_
          refine r_plan (_) ([sl ov 3 1 (s.order.map rI)]) mo (kp [0,3,4,5] rfl) (SelS.ent) ?_
          refine yp 0 [.k 0] rfl rfl (by kernel_rfl) (u_mv rfl rfl rfl) (yp 1 [.k 0] rfl rfl (by kernel_rfl) (u_mv rfl rfl rfl) (yp 2 [.o 1] rfl rfl (by kernel_rfl) (u_nil rfl rfl rfl) (yp 3 [.o 2] rfl rfl (by kernel_rfl) (u_fa fa_67_1 rfl rfl rfl) (yr 4 [.o 3] rfl rfl (by kernel_rfl) (fun He=>u_ldc tc_65 rfl rfl rfl (by rfl)) ?_))))
          refine yp 5 [.k 3] rfl rfl (by kernel_rfl) (u_fa fa_139_1 rfl rfl rfl) (yr 6 [.o 5] rfl rfl (by kernel_rfl) (fun He=>u_ldc tc_3 rfl rfl rfl (by rfl)) ?_)
          refine qm_bslice1 Tryz.underlying65 (.ofC tc_3) zr_3 rfl (i:=7) [.o 6] (by kernel_rfl) (by kernel_rfl) rfl rfl rfl rfl (by kernel_rfl) (by kernel_rfl) ⟨_,.n rfl,rfl⟩ rfl rfl rfl rfl rfl rfl fun b141=>?_
          refine qa_append Tryz.underlying65 el_3 rfl rfl (i:=8) [.o 4,.o 7] (by kernel_rfl) (by kernel_rfl) rfl rfl rfl rfl (by kernel_rfl) (by kernel_rfl) ⟨_,.n rfl,rfl⟩ rfl rfl rfl (Rd.blit rfl rfl) (by simp;omega) fun v142=>?_
          refine qm_rd v142 fun hr142=>?_
          refine yp 9 [.o 0] rfl rfl (by kernel_rfl) (u_nil rfl rfl rfl) (yp 10 [.o 9] rfl rfl (by kernel_rfl) (u_fa fa_67_1 rfl rfl rfl) ?_)
          refine qb_store (.ofC tc_65) (i:=11) [.o 10,.o 8] (by kernel_rfl) (by kernel_rfl) rfl rfl rfl (by kernel_rfl) (by kernel_rfl) (by kernel_rfl) ⟨_,.n rfl,rfl⟩ rfl rfl rfl hr142.c1 rfl hr142.o1 (by repeat constructor) ?_
          refine qm_n (by kernel_rfl) (by kernel_rfl) (by kernel_rfl) (by kernel_rfl) (kp [0,3,4,5] rfl) ?_
          refine r_retv hF rfl .n ?_ ?_
          ·refine Ent.catI ?_;rw[hh];refine Ent.tr (bdealP_close (d:={d with yes:=d.yes.set j true,state:=1}) ⟨t.wv,yv2,t.tv,ys2⟩ ⟨hy2.nd,hy2.rng,hy2.is⟩ rfl rfl rfl) ?_;refine Ent.tr (Ent.mono (SelX.ent (X:=restP bdealP ts s.l i))) ?_;refine Ent.tr (many_in2 (b':=⟨t.wv,yv2,t.tv,ys2⟩) (d':={d with yes:=d.yes.set j true,state:=1}) ht hd) ?_;refine Ent.c (bookP_close (s:=⟨s.l.set i {d with yes:=d.yes.set j true,state:=1},s.order++[(i:Int)]⟩) (.slice (some ⟨bl,of,Option.none⟩) ll cl) v142 (ts.set i ⟨t.wv,yv2,t.tv,ys2⟩) (by simpa using hts) rfl ((List.set_set _).trans (zip_set (f:=rowD) (b':=⟨t.wv,yv2,t.tv,ys2⟩) (d':={d with yes:=d.yes.set j true,state:=1}))) (by simp[rI,hm])) ?_;apply eI;repeat constructor
          ·rfl
         ·skip
          have hf:¬ ys2.length=d.wants.length:=by have:=of_decide_eq_false h8;omega
          have hh:=(hsay.2 hmy).1 (by cases hq:(d.yes.set j true).contains false with|true=>rfl|false=>exact absurd ((hy2.full hdy hjl).2 hq) hf)
          refine r_skip ?_
          refine r_retv hF rfl .n ?_ ?_
          ·refine Ent.catI ?_;rw[hh];refine Ent.tr (bdealP_close (d:={d with yes:=d.yes.set j true}) ⟨t.wv,yv2,t.tv,ys2⟩ hy2 rfl rfl rfl) ?_;refine Ent.tr (Ent.mono (SelX.ent (X:=restP bdealP ts s.l i))) ?_;refine Ent.tr (many_in2 (b':=⟨t.wv,yv2,t.tv,ys2⟩) (d':={d with yes:=d.yes.set j true}) ht hd) ?_;refine Ent.c (bookP_close (s:=⟨s.l.set i {d with yes:=d.yes.set j true},s.order⟩) (.slice (some ⟨bl,of,Option.none⟩) ll cl) ov (ts.set i ⟨t.wv,yv2,t.tv,ys2⟩) (by simpa using hts) rfl (zip_set (f:=rowD) (b':=⟨t.wv,yv2,t.tv,ys2⟩) (d':={d with yes:=d.yes.set j true})) rfl) ?_;apply eI;repeat constructor
          ·rfl
      ·skip
       have hje:d.wants.length≤j:=by have:=of_decide_eq_false h4;omega
       have hh:hearB s m=s:=hear_none hd hm hk2 (atW_non fun k hk=>hjk k (by omega))
       refine r_exit rfl ?_
       refine r_fallc hF rfl ?_
       ·refine Ent.catI ?_;rw[hh];refine Ent.tr (bdealP_close (d:=d) t hy rfl rfl rfl) ?_;refine Ent.tr (Ent.mono (SelX.ent (X:=restP bdealP ts s.l i))) ?_;refine Ent.tr (many_back ht hd) ?_;refine Ent.c (bookP_close (s:=s) (.slice (some ⟨bl,of,Option.none⟩) ll cl) ov ts hts rfl rfl rfl) ?_;apply eI;repeat constructor
  ·skip
   refine r_plan _ [] mo (kp [0,3,4] rfl) Ent.rfl ?_
   refine yp 0 [.k 3] rfl rfl (by kernel_rfl) (u_fa fa_139_0 rfl rfl rfl) (yr 1 [.o 0] rfl rfl (by kernel_rfl) (fun He=>u_ldc tc_3 rfl rfl rfl (by rfl)) ?_)
   refine yp 2 [.o 1] rfl rfl (by kernel_rfl) (pv_to (pv_eql (.n rfl) rfl rfl rfl fS) (show _=Value.bool true from bool_eq (by simp[h4]))) (yp 3 [.o 2] rfl rfl (by kernel_rfl) (u_mv rfl rfl rfl) (yp 4 [.k 4,.o 3] rfl rfl (by kernel_rfl) (pv_ung (.s rfl rfl rfl) rfl (u_mv rfl rfl rfl)) ?_))
   refine yp 5 [.o 4,.o 3] rfl rfl (by kernel_rfl) (pv_ung (.s rfl rfl rfl) rfl (u_nil rfl rfl rfl)) (yp 6 [.o 5,.o 3] rfl rfl (by kernel_rfl) (pv_ung (.s rfl rfl rfl) rfl (pv_faat fa_148_1 (fun hg=>Rd.sh hrd (zip_get ht hd)) (.n rfl) rfl rfl fR)) ?_)
   refine yr 7 [.o 6,.o 3] rfl rfl (by kernel_rfl) (fun He=>rv_ung (.s rfl rfl rfl) rfl (rv_ldat (j:=1) tc_3 (Rd.ent hrd (eJ (by repeat constructor))) (fun hg=>(zip_get ht hd)) (.n rfl) rfl rfl fR rfl fR)) ?_
   refine yp 8 [.o 7,.o 3] rfl rfl (by kernel_rfl) (pv_ung (.s rfl rfl rfl) rfl (pv_to (pv_neq (.n rfl) rfl rfl rfl fS) (show _=Value.bool false from bool_eq (by simp[h0])))) ?_
   refine yp 9 [.o 3,.o 8] rfl rfl (by kernel_rfl) (pv_and (.n rfl) rfl rfl rfl (fun _=>⟨rfl,fun hc=>by first|rfl|(rw[hc];rfl)|simp_all⟩)) ?_
   refine yp 10 [.o 9] rfl rfl (by kernel_rfl) (u_mv rfl rfl rfl) ?_
   refine yq 11 [.k 4,.o 10] rfl rfl (by kernel_rfl) (fun He=>rq_no (v:=.bool false) (.s rfl rfl rfl) rfl) ?_
   refine yq 12 [.o 11,.o 10] rfl rfl (by kernel_rfl) (fun He=>rq_no (v:=.bool false) (.s rfl rfl rfl) rfl) ?_
   refine yq 13 [.o 12,.o 10] rfl rfl (by kernel_rfl) (fun He=>rq_no (v:=.bool false) (.s rfl rfl rfl) rfl) ?_
   refine yq 14 [.o 13,.o 10] rfl rfl (by kernel_rfl) (fun He=>rq_no (v:=.bool false) (.s rfl rfl rfl) rfl) ?_
   refine yq 15 [.o 14,.o 10] rfl rfl (by kernel_rfl) (fun He=>rq_no (v:=.bool false) (.s rfl rfl rfl) rfl) ?_
   refine yq 16 [.k 3,.o 10] rfl rfl (by kernel_rfl) (fun He=>rq_no (v:=.bool false) (.s rfl rfl rfl) rfl) ?_
   refine yq 17 [.o 16,.o 10] rfl rfl (by kernel_rfl) (fun He=>rq_no (v:=.bool false) (.s rfl rfl rfl) rfl) ?_
   refine yq 18 [.o 15,.o 17,.o 10] rfl rfl (by kernel_rfl) (fun He=>rq_no (v:=.bool false) (.s rfl rfl rfl) rfl) ?_
   refine yp 19 [.o 10,.o 18] rfl rfl (by kernel_rfl) (pv_andf (.n rfl) rfl rfl fR) (yp 20 [.o 19] rfl rfl (by kernel_rfl) (u_mv rfl rfl rfl) ?_)
   refine yq 21 [.k 4,.o 20] rfl rfl (by kernel_rfl) (fun He=>rq_no (v:=.bool false) (.s rfl rfl rfl) rfl) ?_
   refine yq 22 [.o 21,.o 20] rfl rfl (by kernel_rfl) (fun He=>rq_no (v:=.bool false) (.s rfl rfl rfl) rfl) ?_
   refine yq 23 [.o 22,.o 20] rfl rfl (by kernel_rfl) (fun He=>rq_no (v:=.bool false) (.s rfl rfl rfl) rfl) ?_
   refine yq 24 [.o 23,.o 20] rfl rfl (by kernel_rfl) (fun He=>rq_no (v:=.bool false) (.s rfl rfl rfl) rfl) ?_
   refine yq 25 [.k 3,.o 20] rfl rfl (by kernel_rfl) (fun He=>rq_no (v:=.bool false) (.s rfl rfl rfl) rfl) ?_
   refine yq 26 [.o 25,.o 20] rfl rfl (by kernel_rfl) (fun He=>rq_no (v:=.bool false) (.s rfl rfl rfl) rfl) ?_
   refine yq 27 [.o 24,.o 26,.o 20] rfl rfl (by kernel_rfl) (fun He=>rq_no (v:=.bool false) (.s rfl rfl rfl) rfl) ?_
   refine yq 28 [.o 27,.o 20] rfl rfl (by kernel_rfl) (fun He=>rq_no (v:=.bool false) (.s rfl rfl rfl) rfl) ?_
   refine yp 29 [.o 20,.o 28] rfl rfl (by kernel_rfl) (pv_andf (.n rfl) rfl rfl fR) ?_
   refine qm_n (by kernel_rfl) (by kernel_rfl) (by kernel_rfl) (by kernel_rfl) (kp [0,3,4,47] rfl) ?_
   refine r_cond _ rfl (fun h9=>?_) (fun h9=>?_)
   ·simp at h9
   ·skip
    have hh:hearB s m=s:=by rw[hear_over hd hm h4,if_neg (fun q=>q.1 h0)]
    refine r_skip (r_seq (r_seq ?_))
    refine r_plan _ [] mo (kp [0,3,4] rfl) Ent.rfl ?_
    refine yp 0 [.k 3] rfl rfl (by kernel_rfl) (u_fa fa_139_0 rfl rfl rfl) (yr 1 [.o 0] rfl rfl (by kernel_rfl) (fun He=>u_ldc tc_3 rfl rfl rfl (by rfl)) ?_)
    refine yp 2 [.o 1] rfl rfl (by kernel_rfl) (pv_to (pv_neq (.n rfl) rfl rfl rfl fS) (show _=Value.bool true from bool_eq (by simp[h4]))) (yp 3 [.o 2] rfl rfl (by kernel_rfl) (u_mv rfl rfl rfl) ?_)
    refine yq 4 [.k 4,.o 3] rfl rfl (by kernel_rfl) (fun He=>rq_no (v:=.bool false) (.s rfl rfl rfl) rfl) ?_
    refine yq 5 [.o 4,.o 3] rfl rfl (by kernel_rfl) (fun He=>rq_no (v:=.bool false) (.s rfl rfl rfl) rfl) ?_
    refine yq 6 [.o 5,.o 3] rfl rfl (by kernel_rfl) (fun He=>rq_no (v:=.bool false) (.s rfl rfl rfl) rfl) ?_
    refine yq 7 [.o 6,.o 3] rfl rfl (by kernel_rfl) (fun He=>rq_no (v:=.bool false) (.s rfl rfl rfl) rfl) ?_
    refine yq 8 [.o 7,.o 3] rfl rfl (by kernel_rfl) (fun He=>rq_no (v:=.bool false) (.s rfl rfl rfl) rfl) ?_
    refine yp 9 [.o 3,.o 8] rfl rfl (by kernel_rfl) (pv_ort (.n rfl) rfl rfl fR) (yp 10 [.o 9] rfl rfl (by kernel_rfl) (u_mv rfl rfl rfl) ?_)
    refine yq 11 [.k 3,.o 10] rfl rfl (by kernel_rfl) (fun He=>rq_no (v:=.bool false) (.s rfl rfl rfl) rfl) ?_
    refine yq 12 [.o 11,.o 10] rfl rfl (by kernel_rfl) (fun He=>rq_no (v:=.bool false) (.s rfl rfl rfl) rfl) ?_
    refine yq 13 [.o 12,.o 10] rfl rfl (by kernel_rfl) (fun He=>rq_no (v:=.bool false) (.s rfl rfl rfl) rfl) ?_
    refine yq 14 [.o 13,.o 10] rfl rfl (by kernel_rfl) (fun He=>rq_no (v:=.bool false) (.s rfl rfl rfl) rfl) ?_
    refine yq 15 [.k 3,.o 10] rfl rfl (by kernel_rfl) (fun He=>rq_no (v:=.bool false) (.s rfl rfl rfl) rfl) ?_
    refine yq 16 [.o 15,.o 10] rfl rfl (by kernel_rfl) (fun He=>rq_no (v:=.bool false) (.s rfl rfl rfl) rfl) ?_
    refine yq 17 [.o 14,.o 16,.o 10] rfl rfl (by kernel_rfl) (fun He=>rq_no (v:=.bool false) (.s rfl rfl rfl) rfl) ?_
    refine yp 18 [.o 10,.o 17] rfl rfl (by kernel_rfl) (pv_ort (.n rfl) rfl rfl fR) ?_
    refine qm_n (by kernel_rfl) (by kernel_rfl) (by kernel_rfl) (by kernel_rfl) (kp [0,3,4,77] rfl) ?_
    refine r_cond _ rfl (fun h10=>?_) (fun h10=>?_)
    ·skip
     refine r_retv hF rfl .n ?_ ?_
     ·refine Ent.catI ?_;rw[hh];refine Ent.tr (bdealP_close (d:=d) t hy rfl rfl rfl) ?_;refine Ent.tr (Ent.mono (SelX.ent (X:=restP bdealP ts s.l i))) ?_;refine Ent.tr (many_back ht hd) ?_;refine Ent.c (bookP_close (s:=s) (.slice (some ⟨bl,of,Option.none⟩) ll cl) ov ts hts rfl rfl rfl) ?_;apply eI;repeat constructor
     ·rfl
    ·simp at h10
  ·skip
   refine r_plan _ [] mo (kp [0,3,4] rfl) Ent.rfl ?_
   refine yp 0 [.k 3] rfl rfl (by kernel_rfl) (u_fa fa_139_0 rfl rfl rfl) (yr 1 [.o 0] rfl rfl (by kernel_rfl) (fun He=>u_ldc tc_3 rfl rfl rfl (by rfl)) ?_)
   refine yp 2 [.o 1] rfl rfl (by kernel_rfl) (pv_to (pv_eql (.n rfl) rfl rfl rfl fS) (show _=Value.bool true from bool_eq (by simp[h4]))) (yp 3 [.o 2] rfl rfl (by kernel_rfl) (u_mv rfl rfl rfl) (yp 4 [.k 4,.o 3] rfl rfl (by kernel_rfl) (pv_ung (.s rfl rfl rfl) rfl (u_mv rfl rfl rfl)) ?_))
   refine yp 5 [.o 4,.o 3] rfl rfl (by kernel_rfl) (pv_ung (.s rfl rfl rfl) rfl (u_nil rfl rfl rfl)) (yp 6 [.o 5,.o 3] rfl rfl (by kernel_rfl) (pv_ung (.s rfl rfl rfl) rfl (pv_faat fa_148_1 (fun hg=>Rd.sh hrd (zip_get ht hd)) (.n rfl) rfl rfl fR)) ?_)
   refine yr 7 [.o 6,.o 3] rfl rfl (by kernel_rfl) (fun He=>rv_ung (.s rfl rfl rfl) rfl (rv_ldat (j:=1) tc_3 (Rd.ent hrd (eJ (by repeat constructor))) (fun hg=>(zip_get ht hd)) (.n rfl) rfl rfl fR rfl fR)) ?_
   refine yp 8 [.o 7,.o 3] rfl rfl (by kernel_rfl) (pv_ung (.s rfl rfl rfl) rfl (pv_to (pv_neq (.n rfl) rfl rfl rfl fS) (show _=Value.bool true from bool_eq (by simp[h0])))) ?_
   refine yp 9 [.o 3,.o 8] rfl rfl (by kernel_rfl) (pv_and (.n rfl) rfl rfl rfl (fun _=>⟨rfl,fun hc=>by first|rfl|(rw[hc];rfl)|simp_all⟩)) ?_
   refine yp 10 [.o 9] rfl rfl (by kernel_rfl) (u_mv rfl rfl rfl) (yp 11 [.k 4,.o 10] rfl rfl (by kernel_rfl) (pv_ung (.s rfl rfl rfl) rfl (u_mv rfl rfl rfl)) (yp 12 [.o 11,.o 10] rfl rfl (by kernel_rfl) (pv_ung (.s rfl rfl rfl) rfl (u_nil rfl rfl rfl)) ?_))
   refine yp 13 [.o 12,.o 10] rfl rfl (by kernel_rfl) (pv_ung (.s rfl rfl rfl) rfl (pv_faat fa_148_0 (fun hg=>Rd.sh hrd (zip_get ht hd)) (.n rfl) rfl rfl fR)) ?_
   refine yr 14 [.o 13,.o 10] rfl rfl (by kernel_rfl) (fun He=>rv_ung (.s rfl rfl rfl) rfl (rv_ldat (j:=0) tc_89 (Rd.ent hrd (eJ (by repeat constructor))) (fun hg=>(zip_get ht hd)) (.n rfl) rfl rfl fR rfl fR)) ?_
   refine yp 16 [.k 3,.o 10] rfl rfl (by kernel_rfl) (pv_ung (.s rfl rfl rfl) rfl (u_fa fa_139_2 rfl rfl rfl)) (yr 17 [.o 16,.o 10] rfl rfl (by kernel_rfl) (fun He=>rv_ung (.s rfl rfl rfl) rfl (u_ldc tc_3 rfl rfl rfl (by rfl))) ?_)
   refine qm_calln (i:=15) [.o 14,.o 10] (by kernel_rfl) (by kernel_rfl) rfl rfl rfl rfl (by kernel_rfl) (by kernel_rfl) ⟨_,.s rfl rfl rfl,rfl⟩ cf_80 rfl (.c rfl .n) (ref_ShopsOfN _ [sl t.wv 93 2 (d.wants.map rW)] t.wv d.wants hrw (by omega)) fun sv=>?_
   refine qm_cat ?_
   refine qm_rd sv fun hrs=>?_
   refine qm_keep ?_
   refine yq 18 [.o 15,.o 17,.o 10] rfl rfl (by kernel_rfl) (fun He=>rq_ung (.s rfl rfl rfl) rfl (rq_call cf_78 (.n rfl) rfl (.c rfl fR (.c rfl fR .n)) (fun hg=>fnv_to (ref_In _ _ sv (shopsL d.wants) m.shop hrs.own (by have:(shopsL d.wants).length≤3:=List.length_filter_le _ _;omega)) (by rw[hsn])))) ?_
   refine yp 19 [.o 10,.o 18] rfl rfl (by kernel_rfl) (pv_and (.n rfl) rfl rfl rfl (fun _=>⟨rfl,fun hc=>by first|rfl|(rw[hc];rfl)|simp_all⟩)) ?_
   refine yp 20 [.o 19] rfl rfl (by kernel_rfl) (u_mv rfl rfl rfl) ?_
   refine yq 21 [.k 4,.o 20] rfl rfl (by kernel_rfl) (fun He=>rq_no (v:=.bool false) (.s rfl rfl rfl) rfl) ?_
   refine yq 22 [.o 21,.o 20] rfl rfl (by kernel_rfl) (fun He=>rq_no (v:=.bool false) (.s rfl rfl rfl) rfl) ?_
   refine yq 23 [.o 22,.o 20] rfl rfl (by kernel_rfl) (fun He=>rq_no (v:=.bool false) (.s rfl rfl rfl) rfl) ?_
   refine yq 24 [.o 23,.o 20] rfl rfl (by kernel_rfl) (fun He=>rq_no (v:=.bool false) (.s rfl rfl rfl) rfl) ?_
   refine yq 25 [.k 3,.o 20] rfl rfl (by kernel_rfl) (fun He=>rq_no (v:=.bool false) (.s rfl rfl rfl) rfl) ?_
   refine yq 26 [.o 25,.o 20] rfl rfl (by kernel_rfl) (fun He=>rq_no (v:=.bool false) (.s rfl rfl rfl) rfl) ?_
   refine yq 27 [.o 24,.o 26,.o 20] rfl rfl (by kernel_rfl) (fun He=>rq_no (v:=.bool false) (.s rfl rfl rfl) rfl) ?_
   refine yq 28 [.o 27,.o 20] rfl rfl (by kernel_rfl) (fun He=>rq_no (v:=.bool false) (.s rfl rfl rfl) rfl) ?_
   refine yp 29 [.o 20,.o 28] rfl rfl (by kernel_rfl) (pv_andf (.n rfl) rfl rfl fR) ?_
   refine qm_n (by kernel_rfl) (by kernel_rfl) (by kernel_rfl) (by kernel_rfl) (kp [0,3,4,47] rfl) ?_
   refine r_cond _ rfl (fun h11=>?_) (fun h11=>?_)
   ·simp at h11
   ·skip
    have hh:hearB s m=s:=by rw[hear_over hd hm h4,if_neg (fun q=>by rw[hsn] at q;cases q.2.1)]
    refine r_skip (r_seq (r_seq ?_))
    refine r_plan _ [] mo (kp [0,3,4] rfl) Ent.rfl ?_
    refine yp 0 [.k 3] rfl rfl (by kernel_rfl) (u_fa fa_139_0 rfl rfl rfl) (yr 1 [.o 0] rfl rfl (by kernel_rfl) (fun He=>u_ldc tc_3 rfl rfl rfl (by rfl)) ?_)
    refine yp 2 [.o 1] rfl rfl (by kernel_rfl) (pv_to (pv_neq (.n rfl) rfl rfl rfl fS) (show _=Value.bool true from bool_eq (by simp[h4]))) (yp 3 [.o 2] rfl rfl (by kernel_rfl) (u_mv rfl rfl rfl) ?_)
    refine yq 4 [.k 4,.o 3] rfl rfl (by kernel_rfl) (fun He=>rq_no (v:=.bool false) (.s rfl rfl rfl) rfl) ?_
    refine yq 5 [.o 4,.o 3] rfl rfl (by kernel_rfl) (fun He=>rq_no (v:=.bool false) (.s rfl rfl rfl) rfl) ?_
    refine yq 6 [.o 5,.o 3] rfl rfl (by kernel_rfl) (fun He=>rq_no (v:=.bool false) (.s rfl rfl rfl) rfl) ?_
    refine yq 7 [.o 6,.o 3] rfl rfl (by kernel_rfl) (fun He=>rq_no (v:=.bool false) (.s rfl rfl rfl) rfl) ?_
    refine yq 8 [.o 7,.o 3] rfl rfl (by kernel_rfl) (fun He=>rq_no (v:=.bool false) (.s rfl rfl rfl) rfl) ?_
    refine yp 9 [.o 3,.o 8] rfl rfl (by kernel_rfl) (pv_ort (.n rfl) rfl rfl fR) (yp 10 [.o 9] rfl rfl (by kernel_rfl) (u_mv rfl rfl rfl) ?_)
    refine yq 11 [.k 3,.o 10] rfl rfl (by kernel_rfl) (fun He=>rq_no (v:=.bool false) (.s rfl rfl rfl) rfl) ?_
    refine yq 12 [.o 11,.o 10] rfl rfl (by kernel_rfl) (fun He=>rq_no (v:=.bool false) (.s rfl rfl rfl) rfl) ?_
    refine yq 13 [.o 12,.o 10] rfl rfl (by kernel_rfl) (fun He=>rq_no (v:=.bool false) (.s rfl rfl rfl) rfl) ?_
    refine yq 14 [.o 13,.o 10] rfl rfl (by kernel_rfl) (fun He=>rq_no (v:=.bool false) (.s rfl rfl rfl) rfl) ?_
    refine yq 15 [.k 3,.o 10] rfl rfl (by kernel_rfl) (fun He=>rq_no (v:=.bool false) (.s rfl rfl rfl) rfl) ?_
    refine yq 16 [.o 15,.o 10] rfl rfl (by kernel_rfl) (fun He=>rq_no (v:=.bool false) (.s rfl rfl rfl) rfl) ?_
    refine yq 17 [.o 14,.o 16,.o 10] rfl rfl (by kernel_rfl) (fun He=>rq_no (v:=.bool false) (.s rfl rfl rfl) rfl) ?_
    refine yp 18 [.o 10,.o 17] rfl rfl (by kernel_rfl) (pv_ort (.n rfl) rfl rfl fR) ?_
    refine qm_n (by kernel_rfl) (by kernel_rfl) (by kernel_rfl) (by kernel_rfl) (kp [0,3,4,77] rfl) ?_
    refine r_cond _ rfl (fun h12=>?_) (fun h12=>?_)
    ·skip
     refine r_retv hF rfl .n ?_ ?_
     ·refine Ent.catI ?_;rw[hh];refine Ent.tr (bdealP_close (d:=d) t hy rfl rfl rfl) ?_;refine Ent.tr (Ent.mono (SelX.ent (X:=restP bdealP ts s.l i))) ?_;refine Ent.tr (many_back ht hd) ?_;refine Ent.c (bookP_close (s:=s) (.slice (some ⟨bl,of,Option.none⟩) ll cl) ov ts hts rfl rfl rfl) ?_;apply eI;repeat constructor
     ·rfl
    ·simp at h12
  ·skip
   refine r_plan _ [] mo (kp [0,3,4] rfl) Ent.rfl ?_
   refine yp 0 [.k 3] rfl rfl (by kernel_rfl) (u_fa fa_139_0 rfl rfl rfl) (yr 1 [.o 0] rfl rfl (by kernel_rfl) (fun He=>u_ldc tc_3 rfl rfl rfl (by rfl)) ?_)
   refine yp 2 [.o 1] rfl rfl (by kernel_rfl) (pv_to (pv_eql (.n rfl) rfl rfl rfl fS) (show _=Value.bool true from bool_eq (by simp[h4]))) (yp 3 [.o 2] rfl rfl (by kernel_rfl) (u_mv rfl rfl rfl) (yp 4 [.k 4,.o 3] rfl rfl (by kernel_rfl) (pv_ung (.s rfl rfl rfl) rfl (u_mv rfl rfl rfl)) ?_))
   refine yp 5 [.o 4,.o 3] rfl rfl (by kernel_rfl) (pv_ung (.s rfl rfl rfl) rfl (u_nil rfl rfl rfl)) (yp 6 [.o 5,.o 3] rfl rfl (by kernel_rfl) (pv_ung (.s rfl rfl rfl) rfl (pv_faat fa_148_1 (fun hg=>Rd.sh hrd (zip_get ht hd)) (.n rfl) rfl rfl fR)) ?_)
   refine yr 7 [.o 6,.o 3] rfl rfl (by kernel_rfl) (fun He=>rv_ung (.s rfl rfl rfl) rfl (rv_ldat (j:=1) tc_3 (Rd.ent hrd (eJ (by repeat constructor))) (fun hg=>(zip_get ht hd)) (.n rfl) rfl rfl fR rfl fR)) ?_
   refine yp 8 [.o 7,.o 3] rfl rfl (by kernel_rfl) (pv_ung (.s rfl rfl rfl) rfl (pv_to (pv_neq (.n rfl) rfl rfl rfl fS) (show _=Value.bool true from bool_eq (by simp[h0])))) ?_
   refine yp 9 [.o 3,.o 8] rfl rfl (by kernel_rfl) (pv_and (.n rfl) rfl rfl rfl (fun _=>⟨rfl,fun hc=>by first|rfl|(rw[hc];rfl)|simp_all⟩)) ?_
   refine yp 10 [.o 9] rfl rfl (by kernel_rfl) (u_mv rfl rfl rfl) (yp 11 [.k 4,.o 10] rfl rfl (by kernel_rfl) (pv_ung (.s rfl rfl rfl) rfl (u_mv rfl rfl rfl)) (yp 12 [.o 11,.o 10] rfl rfl (by kernel_rfl) (pv_ung (.s rfl rfl rfl) rfl (u_nil rfl rfl rfl)) ?_))
   refine yp 13 [.o 12,.o 10] rfl rfl (by kernel_rfl) (pv_ung (.s rfl rfl rfl) rfl (pv_faat fa_148_0 (fun hg=>Rd.sh hrd (zip_get ht hd)) (.n rfl) rfl rfl fR)) ?_
   refine yr 14 [.o 13,.o 10] rfl rfl (by kernel_rfl) (fun He=>rv_ung (.s rfl rfl rfl) rfl (rv_ldat (j:=0) tc_89 (Rd.ent hrd (eJ (by repeat constructor))) (fun hg=>(zip_get ht hd)) (.n rfl) rfl rfl fR rfl fR)) ?_
   refine yp 16 [.k 3,.o 10] rfl rfl (by kernel_rfl) (pv_ung (.s rfl rfl rfl) rfl (u_fa fa_139_2 rfl rfl rfl)) (yr 17 [.o 16,.o 10] rfl rfl (by kernel_rfl) (fun He=>rv_ung (.s rfl rfl rfl) rfl (u_ldc tc_3 rfl rfl rfl (by rfl))) ?_)
   refine qm_calln (i:=15) [.o 14,.o 10] (by kernel_rfl) (by kernel_rfl) rfl rfl rfl rfl (by kernel_rfl) (by kernel_rfl) ⟨_,.s rfl rfl rfl,rfl⟩ cf_80 rfl (.c rfl .n) (ref_ShopsOfN _ [sl t.wv 93 2 (d.wants.map rW)] t.wv d.wants hrw (by omega)) fun sv=>?_
   refine qm_cat ?_
   refine qm_rd sv fun hrs=>?_
   refine qm_keep ?_
   refine yq 18 [.o 15,.o 17,.o 10] rfl rfl (by kernel_rfl) (fun He=>rq_ung (.s rfl rfl rfl) rfl (rq_call cf_78 (.n rfl) rfl (.c rfl fR (.c rfl fR .n)) (fun hg=>fnv_to (ref_In _ _ sv (shopsL d.wants) m.shop hrs.own (by have:(shopsL d.wants).length≤3:=List.length_filter_le _ _;omega)) (by rw[hsn])))) ?_
   refine yp 19 [.o 10,.o 18] rfl rfl (by kernel_rfl) (pv_and (.n rfl) rfl rfl rfl (fun _=>⟨rfl,fun hc=>by first|rfl|(rw[hc];rfl)|simp_all⟩)) ?_
   refine yp 20 [.o 19] rfl rfl (by kernel_rfl) (u_mv rfl rfl rfl) (yp 21 [.k 4,.o 20] rfl rfl (by kernel_rfl) (pv_ung (.s rfl rfl rfl) rfl (u_mv rfl rfl rfl)) (yp 22 [.o 21,.o 20] rfl rfl (by kernel_rfl) (pv_ung (.s rfl rfl rfl) rfl (u_nil rfl rfl rfl)) ?_))
   refine yp 23 [.o 22,.o 20] rfl rfl (by kernel_rfl) (pv_ung (.s rfl rfl rfl) rfl (pv_faat fa_148_3 (fun hg=>Rd.sh hrd (zip_get ht hd)) (.n rfl) rfl rfl fR)) ?_
   refine yr 24 [.o 23,.o 20] rfl rfl (by kernel_rfl) (fun He=>rv_ung (.s rfl rfl rfl) rfl (rv_ldat (j:=3) tc_65 (Rd.ent hrd (eJ (by repeat constructor))) (fun hg=>(zip_get ht hd)) (.n rfl) rfl rfl fR rfl fR)) ?_
   refine yp 25 [.k 3,.o 20] rfl rfl (by kernel_rfl) (pv_ung (.s rfl rfl rfl) rfl (u_fa fa_139_2 rfl rfl rfl)) (yr 26 [.o 25,.o 20] rfl rfl (by kernel_rfl) (fun He=>rv_ung (.s rfl rfl rfl) rfl (u_ldc tc_3 rfl rfl rfl (by rfl))) ?_)
   refine yq 27 [.o 24,.o 26,.o 20] rfl rfl (by kernel_rfl) (fun He=>rq_ung (.s rfl rfl rfl) rfl (rq_call cf_78 (.n rfl) rfl (.c rfl fR (.c rfl fR .n)) (fun hg=>ref_In _ _ t.tv d.over m.shop (Rd.ent hrt (eJ (by repeat constructor))) (by omega)))) ?_
   refine yp 28 [.o 27,.o 20] rfl rfl (by kernel_rfl) (pv_ung (.s rfl rfl rfl) rfl (pv_not (.n rfl) rfl rfl fR)) ?_
   refine yp 29 [.o 20,.o 28] rfl rfl (by kernel_rfl) (pv_and (.n rfl) rfl rfl rfl (fun _=>⟨rfl,fun hc=>by first|rfl|(rw[hc];rfl)|simp_all⟩)) ?_
   refine qm_n (by kernel_rfl) (by kernel_rfl) (by kernel_rfl) (by kernel_rfl) (kp [0,3,4,47] rfl) ?_
   refine r_cond _ rfl (fun h13=>?_) (fun h13=>?_)
   ·skip
    have hov:d.over.contains m.shop=false:=by simpa using h13
    have hh:=hear_over hd hm h4
    rw[if_pos ⟨h0,hsn,hov⟩] at hh
    refine r_plan (_) ([sl t.tv 3 1 (d.over.map rI)]) mo (kp [0,3,4] rfl) (SelS.ent) ?_
    refine yp 0 [.k 4] rfl rfl (by kernel_rfl) (u_mv rfl rfl rfl) (yp 1 [.k 4] rfl rfl (by kernel_rfl) (u_mv rfl rfl rfl) (yp 2 [.o 1] rfl rfl (by kernel_rfl) (u_nil rfl rfl rfl) (yp 3 [.o 2] rfl rfl (by kernel_rfl) (pv_faat fa_148_3 (fun hg=>Rd.sh hrd (zip_get ht hd)) (.n rfl) rfl rfl fR) ?_)))
    refine yr 4 [.o 3] rfl rfl (by kernel_rfl) (fun He=>rv_ldat (j:=3) tc_65 (Rd.ent hrd (eJ (by repeat constructor))) (fun hg=>(zip_get ht hd)) (.n rfl) rfl rfl fR rfl fR) ?_
    refine yp 5 [.k 3] rfl rfl (by kernel_rfl) (u_fa fa_139_2 rfl rfl rfl) (yr 6 [.o 5] rfl rfl (by kernel_rfl) (fun He=>u_ldc tc_3 rfl rfl rfl (by rfl)) ?_)
    refine qm_bslice1 Tryz.underlying65 (.ofC tc_3) zr_3 rfl (i:=7) [.o 6] (by kernel_rfl) (by kernel_rfl) rfl rfl rfl rfl (by kernel_rfl) (by kernel_rfl) ⟨_,.n rfl,rfl⟩ rfl rfl rfl rfl rfl rfl fun b55=>?_
    refine qa_append Tryz.underlying65 el_3 rfl rfl (i:=8) [.o 4,.o 7] (by kernel_rfl) (by kernel_rfl) rfl rfl rfl rfl (by kernel_rfl) (by kernel_rfl) ⟨_,.n rfl,rfl⟩ rfl rfl rfl (Rd.blit rfl rfl) (by simp;omega) fun v56=>?_
    refine qm_rd v56 fun hr56=>?_
    refine yp 9 [.o 0] rfl rfl (by kernel_rfl) (u_nil rfl rfl rfl) (yp 10 [.o 9] rfl rfl (by kernel_rfl) (pv_faat fa_148_3 (fun hg=>Rd.sh hrd (zip_get ht hd)) (.n rfl) rfl rfl fR) ?_)
    refine qb_stel 3 (.ofC tc_65) (zip_get ht hd) rfl (i:=11) [.o 10,.o 8] (by kernel_rfl) (by kernel_rfl) rfl rfl rfl (by kernel_rfl) (by kernel_rfl) (by kernel_rfl) ⟨_,.n rfl,rfl⟩ rfl rfl rfl hr56.c1 rfl hr56.o1 (by repeat constructor) ?_
    refine qm_n (by kernel_rfl) (by kernel_rfl) (by kernel_rfl) (by kernel_rfl) (kp [0,3,4] rfl) ?_
    refine r_seq (r_seq ?_)
    refine r_plan _ [] mo (kp [0,3,4] rfl) Ent.rfl ?_
    refine yp 0 [.k 3] rfl rfl (by kernel_rfl) (u_fa fa_139_0 rfl rfl rfl) (yr 1 [.o 0] rfl rfl (by kernel_rfl) (fun He=>u_ldc tc_3 rfl rfl rfl (by rfl)) ?_)
    refine yp 2 [.o 1] rfl rfl (by kernel_rfl) (pv_to (pv_neq (.n rfl) rfl rfl rfl fS) (show _=Value.bool true from bool_eq (by simp[h4]))) (yp 3 [.o 2] rfl rfl (by kernel_rfl) (u_mv rfl rfl rfl) ?_)
    refine yq 4 [.k 4,.o 3] rfl rfl (by kernel_rfl) (fun He=>rq_no (v:=.bool false) (.s rfl rfl rfl) rfl) ?_
    refine yq 5 [.o 4,.o 3] rfl rfl (by kernel_rfl) (fun He=>rq_no (v:=.bool false) (.s rfl rfl rfl) rfl) ?_
    refine yq 6 [.o 5,.o 3] rfl rfl (by kernel_rfl) (fun He=>rq_no (v:=.bool false) (.s rfl rfl rfl) rfl) ?_
    refine yq 7 [.o 6,.o 3] rfl rfl (by kernel_rfl) (fun He=>rq_no (v:=.bool false) (.s rfl rfl rfl) rfl) ?_
    refine yq 8 [.o 7,.o 3] rfl rfl (by kernel_rfl) (fun He=>rq_no (v:=.bool false) (.s rfl rfl rfl) rfl) ?_
    refine yp 9 [.o 3,.o 8] rfl rfl (by kernel_rfl) (pv_ort (.n rfl) rfl rfl fR) (yp 10 [.o 9] rfl rfl (by kernel_rfl) (u_mv rfl rfl rfl) ?_)
    refine yq 11 [.k 3,.o 10] rfl rfl (by kernel_rfl) (fun He=>rq_no (v:=.bool false) (.s rfl rfl rfl) rfl) ?_
    refine yq 12 [.o 11,.o 10] rfl rfl (by kernel_rfl) (fun He=>rq_no (v:=.bool false) (.s rfl rfl rfl) rfl) ?_
    refine yq 13 [.o 12,.o 10] rfl rfl (by kernel_rfl) (fun He=>rq_no (v:=.bool false) (.s rfl rfl rfl) rfl) ?_
    refine yq 14 [.o 13,.o 10] rfl rfl (by kernel_rfl) (fun He=>rq_no (v:=.bool false) (.s rfl rfl rfl) rfl) ?_
    refine yq 15 [.k 3,.o 10] rfl rfl (by kernel_rfl) (fun He=>rq_no (v:=.bool false) (.s rfl rfl rfl) rfl) ?_
    refine yq 16 [.o 15,.o 10] rfl rfl (by kernel_rfl) (fun He=>rq_no (v:=.bool false) (.s rfl rfl rfl) rfl) ?_
    refine yq 17 [.o 14,.o 16,.o 10] rfl rfl (by kernel_rfl) (fun He=>rq_no (v:=.bool false) (.s rfl rfl rfl) rfl) ?_
    refine yp 18 [.o 10,.o 17] rfl rfl (by kernel_rfl) (pv_ort (.n rfl) rfl rfl fR) ?_
    refine qm_n (by kernel_rfl) (by kernel_rfl) (by kernel_rfl) (by kernel_rfl) (kp [0,3,4,77] rfl) ?_
    refine r_cond _ rfl (fun h14=>?_) (fun h14=>?_)
    ·skip
     refine r_retv hF rfl .n ?_ ?_
     ·refine Ent.catI ?_;rw[hh];refine Ent.tr (bdealP_close (d:={d with over:=d.over++[m.shop]}) ⟨t.wv,t.yv,v56,t.ys⟩ ⟨hy.nd,hy.rng,hy.is⟩ rfl rfl (by simp[rI])) ?_;refine Ent.tr (Ent.mono (SelX.ent (X:=restP bdealP ts s.l i))) ?_;refine Ent.tr (many_in2 (b':=⟨t.wv,t.yv,v56,t.ys⟩) (d':={d with over:=d.over++[m.shop]}) ht hd) ?_;refine Ent.c (bookP_close (s:=⟨s.l.set i {d with over:=d.over++[m.shop]},s.order⟩) (.slice (some ⟨bl,of,Option.none⟩) ll cl) ov (ts.set i ⟨t.wv,t.yv,v56,t.ys⟩) (by simpa using hts) rfl (zip_set (f:=rowD) (b':=⟨t.wv,t.yv,v56,t.ys⟩) (d':={d with over:=d.over++[m.shop]})) rfl) ?_;apply eI;repeat constructor
     ·rfl
    ·simp at h14
   ·skip
    have hov:d.over.contains m.shop=true:=by simpa using h13
    have hh:hearB s m=s:=by rw[hear_over hd hm h4,if_neg (fun q=>by rw[hov] at q;cases q.2.2)]
    refine r_skip (r_seq (r_seq ?_))
    refine r_plan _ [] mo (kp [0,3,4] rfl) Ent.rfl ?_
    refine yp 0 [.k 3] rfl rfl (by kernel_rfl) (u_fa fa_139_0 rfl rfl rfl) (yr 1 [.o 0] rfl rfl (by kernel_rfl) (fun He=>u_ldc tc_3 rfl rfl rfl (by rfl)) ?_)
    refine yp 2 [.o 1] rfl rfl (by kernel_rfl) (pv_to (pv_neq (.n rfl) rfl rfl rfl fS) (show _=Value.bool true from bool_eq (by simp[h4]))) (yp 3 [.o 2] rfl rfl (by kernel_rfl) (u_mv rfl rfl rfl) ?_)
    refine yq 4 [.k 4,.o 3] rfl rfl (by kernel_rfl) (fun He=>rq_no (v:=.bool false) (.s rfl rfl rfl) rfl) ?_
    refine yq 5 [.o 4,.o 3] rfl rfl (by kernel_rfl) (fun He=>rq_no (v:=.bool false) (.s rfl rfl rfl) rfl) ?_
    refine yq 6 [.o 5,.o 3] rfl rfl (by kernel_rfl) (fun He=>rq_no (v:=.bool false) (.s rfl rfl rfl) rfl) ?_
    refine yq 7 [.o 6,.o 3] rfl rfl (by kernel_rfl) (fun He=>rq_no (v:=.bool false) (.s rfl rfl rfl) rfl) ?_
    refine yq 8 [.o 7,.o 3] rfl rfl (by kernel_rfl) (fun He=>rq_no (v:=.bool false) (.s rfl rfl rfl) rfl) ?_
    refine yp 9 [.o 3,.o 8] rfl rfl (by kernel_rfl) (pv_ort (.n rfl) rfl rfl fR) (yp 10 [.o 9] rfl rfl (by kernel_rfl) (u_mv rfl rfl rfl) ?_)
    refine yq 11 [.k 3,.o 10] rfl rfl (by kernel_rfl) (fun He=>rq_no (v:=.bool false) (.s rfl rfl rfl) rfl) ?_
    refine yq 12 [.o 11,.o 10] rfl rfl (by kernel_rfl) (fun He=>rq_no (v:=.bool false) (.s rfl rfl rfl) rfl) ?_
    refine yq 13 [.o 12,.o 10] rfl rfl (by kernel_rfl) (fun He=>rq_no (v:=.bool false) (.s rfl rfl rfl) rfl) ?_
    refine yq 14 [.o 13,.o 10] rfl rfl (by kernel_rfl) (fun He=>rq_no (v:=.bool false) (.s rfl rfl rfl) rfl) ?_
    refine yq 15 [.k 3,.o 10] rfl rfl (by kernel_rfl) (fun He=>rq_no (v:=.bool false) (.s rfl rfl rfl) rfl) ?_
    refine yq 16 [.o 15,.o 10] rfl rfl (by kernel_rfl) (fun He=>rq_no (v:=.bool false) (.s rfl rfl rfl) rfl) ?_
    refine yq 17 [.o 14,.o 16,.o 10] rfl rfl (by kernel_rfl) (fun He=>rq_no (v:=.bool false) (.s rfl rfl rfl) rfl) ?_
    refine yp 18 [.o 10,.o 17] rfl rfl (by kernel_rfl) (pv_ort (.n rfl) rfl rfl fR) ?_
    refine qm_n (by kernel_rfl) (by kernel_rfl) (by kernel_rfl) (by kernel_rfl) (kp [0,3,4,77] rfl) ?_
    refine r_cond _ rfl (fun h15=>?_) (fun h15=>?_)
    ·skip
     refine r_retv hF rfl .n ?_ ?_
     ·refine Ent.catI ?_;rw[hh];refine Ent.tr (bdealP_close (d:=d) t hy rfl rfl rfl) ?_;refine Ent.tr (Ent.mono (SelX.ent (X:=restP bdealP ts s.l i))) ?_;refine Ent.tr (many_back ht hd) ?_;refine Ent.c (bookP_close (s:=s) (.slice (some ⟨bl,of,Option.none⟩) ll cl) ov ts hts rfl rfl rfl) ?_;apply eI;repeat constructor
     ·rfl
    ·simp at h15
end Go.Proofs.YtmakdilmibjpbaaGreatDoor
namespace Go.Proofs.YtmakdilmibjpbaaGreatDoor
open Go Go.RowKit
set_option linter.unusedVariables false
set_option linter.unusedSimpArgs false
set_option maxRecDepth 20000
theorem rd_one{M:Amb}{H:List HP}{v:Value}{sz i:Nat}{rows:List (List Value)}{r:List Value}(h:Rd M H v sz rows)(hr:rows[i]?=some r):r.all (·.oneCell')=true:=List.all_eq_true.2 (h.ok r (List.mem_of_getElem? hr)).2
theorem yes_at{ys:List Int}{d:Deal}{j:Nat}{y:Bool}(h:YesR ys d)(hy:d.yes[j]?=some y)(hj:j<d.wants.length):y=decide ((j:Int)∈ys):=by
  have:=h.is j hj
  rw[hy] at this
  cases y with
  | true=>exact (decide_eq_true (this.2 rfl)).symm
  | false=>exact (decide_eq_false (fun q=>by have:=this.1 q;cases this)).symm
theorem book_Due_o (M:Amb)(T:TypeId)(rest:List Value)(b:Nat)(s:BrokS)(hI:BInv s)(lv ov:Value)(ts:List DT)(hts:ts.length=s.l.length):FnE (α:=Value) Tryz.prog M 43 [ptr b] [blk b (lv::ov::rest) T,sl lv 148 4 (List.zipWith rowD ts s.l),sl ov 3 1 (s.order.map rI),manyP bdealP ts s.l] (fun x=>x) (fun x=>[sl x 139 6 ((dueB s).map rM),blk b (lv::ov::rest) T,sl lv 148 4 (List.zipWith rowD ts s.l),sl ov 3 1 (s.order.map rI),manyP bdealP ts s.l]):=by
 have hB:=hI
 have hl8:=hI.len
 refine fne_intro Tryz.func43 rfl Tryz.ntmps43 rfl fun R F hF=>?_
 refine r_cat ?_
 refine r_rd lv fun hrd=>?_
 refine r_rd ov fun hro=>?_
 refine r_sr (p_as rfl rfl (o_keep (kp [0,2] rfl) (r_sr (p_as rfl rfl (o_keep (kp [0,2,3] rfl) (r_seq (r_sr ?_)))))))
 refine p_as rfl rfl (o_keep (kp [0,2,3,4] rfl) (r_block ?_))
 refine r_loop_2 (fun (i:Nat) (ov1:Value)=>[(4,true,.int .i64 (i:Int)),(3,true,ov1)]) (kp [0,2] rfl) (fun (i:Nat) (ov1:Value)=>sl ov1 139 6 ((dueL 0 (s.l.take i)).map rM)::blk b (lv::ov::rest) T::sl lv 148 4 (List.zipWith rowD ts s.l)::sl ov 3 1 (s.order.map rI)::manyP bdealP ts s.l::R) (fun (i:Nat) (ov1:Value)=>i≤s.l.length) (fun (i:Nat) (ov1:Value)=>s.l.length - i) (0) (.slice Option.none 0 0) ?_ (kp [4,3] rfl) ?_ (fun i ov1 hI=>?_)
 ·exact Nat.zero_le _
 ·show Ent _ (sl _ _ _ []::_);refine Ent.cN ?_;apply eI;repeat constructor
 ·skip
  refine r_seq (r_sr (p_mv rfl rfl (p_mv rfl rfl (p_nil rfl rfl (p_fa fa_67_0 rfl rfl (p_ldc tc_64 rfl (by rfl) rfl ?_))))))
  refine l_op (x_p (pv_lens (Rd.lenz hrd hts) ⟨_,Tryz.underlying64⟩ (.n rfl) rfl rfl rfl rfl fR) rfl rfl (p_lss rfl rfl rfl (o_keep (kp [0,2,3,4,15] rfl) (r_cond _ rfl (fun h1=>?_) (fun h1=>?_)))))
  ·skip
   have hilt:i<s.l.length:=by have:=of_decide_eq_true h1;omega
   obtain⟨d,hd⟩:=getlt hilt
   obtain⟨t,ht⟩:=getlt (l:=ts) (i:=i) (by omega)
   have hdk:=hB.d d (List.mem_of_getElem? hd)
   have hle:=hdk.le
   have hyl:=hdk.y
   have hdl:=dueL_le (l:=s.l.take i) (n:=0) fun x hx=>hB.d x (List.mem_of_mem_take hx)
   have htl:(s.l.take i).length≤8:=by simp;omega
   refine r_skip (r_seq (r_block (r_sr (p_mv rfl rfl (p_nil rfl rfl (p_fa fa_67_0 rfl rfl (p_ldc tc_64 rfl (by rfl) rfl ?_)))))))
   refine p_mv rfl rfl (p_idx Tryz.underlying64 (.ofA ta_148) hrd rfl (zip_get ht hd) rfl rfl rfl ?_)
   refine p_ldats 0 ta_148 (Rd.ent hrd (eJ (by repeat constructor))) (zip_get ht hd) rfl rfl (.s (.s (.s (.s .z)))) rfl ?_
   refine p_alloc zr_148 rfl fun b5=>?_
   refine p_store (.ofA ta_148) rfl rfl rfl (by first|rfl|exact rfl) (by first|rfl|exact (rd_one hrd (zip_get ht hd))) (Ins.whole (by simp[*])) ?_
   refine o_keep (.c 0 rfl (.c 2 rfl (.c 3 rfl (.c 4 rfl (.c 5 rfl .n))))) (r_seq (r_seq ?_))
   refine r_bdeal i ht hd fun hy=>?_
   refine r_cat ?_
   refine r_rd t.wv fun hrw=>?_
   refine r_rd t.yv fun hry=>?_
   refine r_rd t.tv fun hrt=>?_
   have hysl:=hy.len
   refine r_region (p_fa fa_148_1 rfl rfl (p_ldc tc_3 rfl (by rfl) rfl ?_))
   refine p_eql rfl rfl rfl (o_keep (kp [0,2,3,4,5,27] rfl) (r_cond _ rfl (fun h2=>?_) (fun h2=>?_)))
   ·skip
    have h0:d.state=0:=of_decide_eq_true h2
    refine r_seq (r_sr (p_as rfl rfl (o_keep (kp [0,2,3,4,5,6] rfl) (r_block ?_))))
    refine r_loop_2 (fun (j:Nat) (ov2:Value)=>[(6,true,.int .i64 (j:Int)),(3,true,ov2)]) (kp [0,2,4,5] rfl) (fun (j:Nat) (ov2:Value)=>sl ov2 139 6 ((dueL 0 (s.l.take i)++dueW i (d.wants.take j) (d.yes.take j)).map rM)::blk b5 (rowD t d) 148::sl t.wv 93 2 (d.wants.map rW)::sl t.yv 3 1 (t.ys.map rI)::sl t.tv 3 1 (d.over.map rI)::restP bdealP ts s.l i::blk b (lv::ov::rest) T::sl lv 148 4 (List.zipWith rowD ts s.l)::sl ov 3 1 (s.order.map rI)::R) (fun (j:Nat) (ov2:Value)=>j≤d.wants.length) (fun (j:Nat) (ov2:Value)=>d.wants.length - j) (0) (ov1) ?_ (kp [6,3] rfl) ?_ (fun j ov2 hI=>?_)
    ·exact Nat.zero_le _
    ·rw[List.take_zero,show dueW (i:Int) [] (d.yes.take 0)=[] from rfl,List.append_nil];apply eI;repeat constructor
    ·skip
     refine r_seq (r_sr (p_mv rfl rfl (p_fa fa_148_0 rfl rfl (p_ldc tc_89 rfl (by rfl) rfl ?_))))
     refine l_op (x_p (pv_lens (Rd.len hrw) ⟨_,Tryz.underlying89⟩ (.n rfl) rfl rfl rfl rfl fR) rfl rfl (p_lss rfl rfl rfl (o_keep (kp [0,2,3,4,5,6,32] rfl) (r_cond _ rfl (fun h3=>?_) (fun h3=>?_)))))
     ·skip
      obtain⟨w,hw⟩:=getlt (l:=d.wants) (i:=j) (by have:=of_decide_eq_true h3;omega)
      have hjl:=(List.getElem?_eq_some_iff.1 hw).1
      obtain⟨y,hyj⟩:=getlt (l:=d.yes) (i:=j) (by omega)
      have hye:=yes_at hy hyj hjl
      have hds:=dueW_len (n:=(i:Int)) (d.wants.take j) (d.yes.take j)
      have htk:(d.wants.take j).length≤4:=by simp;omega
      refine r_skip (r_seq (r_block (r_sr (p_fa fa_148_2 rfl rfl (p_ldc tc_65 rfl (by rfl) rfl ?_)))))
      refine p_mv rfl rfl ?_
      refine p_callv cf_78 (.c rfl (.c rfl .n)) rfl (ref_In _ _ t.yv t.ys (j:Int) (Rd.ent hry (eJ (by repeat constructor))) (by omega)) ?_
      refine p_not rfl rfl (o_keep (kp [0,2,3,4,5,6,39] rfl) (r_cond _ rfl (fun h4=>?_) (fun h4=>?_)))
      ·skip
       have hc:y=false:=by rw[hye];simpa using h4
       refine r_plan (_) ([sl ov2 139 6 ((dueL 0 (s.l.take i)++dueW i (d.wants.take j) (d.yes.take j)).map rM)]) mo (kp [0,2,3,4,5,6] rfl) (SelS.ent) ?_
       refine yp 0 [.k 3] rfl rfl (by kernel_rfl) (u_mv rfl rfl rfl) (yp 1 [.k 4] rfl rfl (by kernel_rfl) (u_mv rfl rfl rfl) (yp 2 [.k 5] rfl rfl (by kernel_rfl) (u_fa fa_148_0 rfl rfl rfl) (yr 3 [.o 2] rfl rfl (by kernel_rfl) (fun He=>u_ldc tc_89 rfl rfl rfl (by rfl)) ?_)))
       refine yp 4 [.k 6] rfl rfl (by kernel_rfl) (u_mv rfl rfl rfl) (yp 5 [.o 3,.o 4] rfl rfl (by kernel_rfl) (pv_idx Tryz.underlying89 (.ofA ta_93) hrw (fun hg=>⟨rfl,(mapget hw)⟩) (.n rfl) rfl rfl rfl fS) (yp 6 [.o 5] rfl rfl (by kernel_rfl) (pv_faat fa_93_0 (fun hg=>Rd.sh hrw (mapget hw)) (.n rfl) rfl rfl fR) ?_))
       refine yr 7 [.o 6] rfl rfl (by kernel_rfl) (fun He=>rv_ldat (j:=0) tc_3 (Rd.ent hrw (eJ (by repeat constructor))) (fun hg=>(mapget hw)) (.n rfl) rfl rfl fR rfl fR) ?_
       refine yq 8 [.o 7] rfl rfl (by kernel_rfl) (fun He=>rq_call cf_79 (.n rfl) rfl (.c rfl fR .n) (fun hg=>ref_ShopOf _ _ _)) ?_
       refine yp 9 [.k 5] rfl rfl (by kernel_rfl) (u_fa fa_148_0 rfl rfl rfl) (yr 10 [.o 9] rfl rfl (by kernel_rfl) (fun He=>u_ldc tc_89 rfl rfl rfl (by rfl)) ?_)
       refine yp 11 [.k 6] rfl rfl (by kernel_rfl) (u_mv rfl rfl rfl) (yp 12 [.o 10,.o 11] rfl rfl (by kernel_rfl) (pv_idx Tryz.underlying89 (.ofA ta_93) hrw (fun hg=>⟨rfl,(mapget hw)⟩) (.n rfl) rfl rfl rfl fS) ?_)
       refine yr 13 [.o 12] rfl rfl (by kernel_rfl) (fun He=>rv_ldats (j:=0) ta_93 (Rd.ent hrw (eJ (by repeat constructor))) (fun hg=>(mapget hw)) (.n rfl) rfl rfl fR rfl (.s (.s .z))) ?_
       refine yp 14 [.o 1,.o 8,.o 13] rfl rfl (by kernel_rfl) (pv_build zr_139 pl_139 (.n rfl) rfl (.c rfl fR rfl rfl rfl (by repeat constructor) (.c rfl fR rfl rfl rfl (by repeat constructor) (.c rfl fR rfl rfl rfl (by repeat constructor) (.c rfl fR rfl rfl rfl (by repeat constructor) .n))))) ?_
       refine qm_bslice1 Tryz.underlying70 (.ofA ta_139) zr_139 rfl (i:=15) [.o 14] (by kernel_rfl) (by kernel_rfl) rfl rfl rfl rfl (by kernel_rfl) (by kernel_rfl) ⟨_,.n rfl,rfl⟩ rfl rfl rfl rfl rfl rfl fun b55=>?_
       refine qa_append Tryz.underlying70 el_139 rfl rfl (i:=16) [.o 0,.o 15] (by kernel_rfl) (by kernel_rfl) rfl rfl rfl rfl (by kernel_rfl) (by kernel_rfl) ⟨_,.n rfl,rfl⟩ rfl rfl rfl (Rd.blit rfl rfl) (by simp only[List.length_map,List.length_append,List.length_cons,List.length_nil];omega) fun v56=>?_
       refine qm_rd v56 fun hr56=>?_
       refine yp 17 [.o 16] rfl rfl (by kernel_rfl) (u_as rfl rfl rfl) ?_
       refine qm_n (by kernel_rfl) (by kernel_rfl) (by kernel_rfl) (by kernel_rfl) (kp [0,2,3,4,5,6] rfl) ?_
       refine r_end (r_region (p_mv rfl rfl (p_add rfl rfl (by omega) rfl (p_as rfl rfl (o_keep (kp [0,2,3,4,5,6] rfl) ?_)))))
       refine r_back_2 (j+1) (_) ?_ ?_ (Keep.app (kp [6,3] rfl) (kp [0,2,4,5] rfl)) ?_
       ·omega
       ·omega
       ·rw[dueW_take hw hyj,if_neg (by rw[hc];simp),← List.append_assoc,snocM];apply eI;repeat constructor
      ·skip
       have hc:y=true:=by rw[hye];simpa using h4
       refine r_skip (r_end (r_region (p_mv rfl rfl (p_add rfl rfl (by omega) rfl (p_as rfl rfl (o_keep (kp [0,2,3,4,5,6] rfl) ?_))))))
       refine r_back_2 (j+1) (ov2) ?_ ?_ (Keep.app (kp [6,3] rfl) (kp [0,2,4,5] rfl)) ?_
       ·omega
       ·omega
       ·rw[dueW_take hw hyj,if_pos hc,List.append_nil];apply eI;repeat constructor
     ·skip
      have hj:d.wants.length≤j:=by have:=of_decide_eq_false h3;omega
      refine r_exit rfl (r_exit rfl (r_region (p_mv rfl rfl (p_add rfl rfl (by omega) rfl (p_as rfl rfl (o_keep (kp [0,2,3,4] rfl) ?_))))))
      refine r_back_2 (i+1) (ov2) ?_ ?_ (Keep.app (kp [4,3] rfl) (kp [0,2] rfl)) ?_
      ·omega
      ·omega
      ·rw[dueL_take hd,Int.zero_add,dueD_ask h0];rw[List.take_of_length_le hj,List.take_of_length_le (show d.yes.length≤j by omega)];refine Ent.tr (bdealP_close (d:=d) t hy rfl rfl rfl) ?_;refine Ent.tr (Ent.mono (SelX.ent (X:=restP bdealP ts s.l i))) ?_;refine Ent.tr (many_back ht hd) ?_;apply eI;repeat constructor
   ·skip
    have h0:d.state≠0:=of_decide_eq_false h2
    have hsl:(shopsL d.wants).length≤3:=List.length_filter_le _ _
    refine r_skip (r_sr (p_fa fa_148_0 rfl rfl (p_ldc tc_89 rfl (by rfl) rfl ?_)))
    refine p_calle cf_80 (.c rfl .n) rfl (ref_ShopsOf _ [sl t.wv 93 2 (d.wants.map rW)] t.wv d.wants hrw (by omega)) fun sv=>?_
    refine o_cat ?_
    refine o_rd sv fun hrs=>?_
    refine p_as rfl rfl (o_keep (kp [0,2,3,4,5,7] rfl) (r_sr (p_as rfl rfl (o_keep (kp [0,2,3,4,5,7,8] rfl) (r_block ?_)))))
    refine r_loop_2 (fun (j:Nat) (ov2:Value)=>[(8,true,.int .i64 (j:Int)),(3,true,ov2)]) (kp [0,2,4,5,7] rfl) (fun (j:Nat) (ov2:Value)=>sl ov2 139 6 ((dueL 0 (s.l.take i)++dueS i d ((shopsL d.wants).take j)).map rM)::sl sv 3 1 ((shopsL d.wants).map rI)::blk b5 (rowD t d) 148::sl t.wv 93 2 (d.wants.map rW)::sl t.yv 3 1 (t.ys.map rI)::sl t.tv 3 1 (d.over.map rI)::restP bdealP ts s.l i::blk b (lv::ov::rest) T::sl lv 148 4 (List.zipWith rowD ts s.l)::sl ov 3 1 (s.order.map rI)::R) (fun (j:Nat) (ov2:Value)=>j≤(shopsL d.wants).length) (fun (j:Nat) (ov2:Value)=>(shopsL d.wants).length - j) (0) (ov1) ?_ (kp [8,3] rfl) ?_ (fun j ov2 hI=>?_)
    ·exact Nat.zero_le _
    ·rw[List.take_zero,show dueS (i:Int) d []=[] from rfl,List.append_nil];apply eI;repeat constructor
    ·skip
     refine r_seq (r_sr (p_mv rfl rfl (p_mv rfl rfl (l_op (x_p (pv_lens (Rd.len hrs) ⟨_,Tryz.underlying65⟩ (.n rfl) rfl rfl rfl rfl fR) rfl rfl (p_lss rfl rfl rfl (o_keep (kp [0,2,3,4,5,7,8,63] rfl) (r_cond _ rfl (fun h5=>?_) (fun h5=>?_)))))))))
     ·skip
      obtain⟨z,hz⟩:=getlt (l:=shopsL d.wants) (i:=j) (by have:=of_decide_eq_true h5;omega)
      have hzl:=(List.getElem?_eq_some_iff.1 hz).1
      have hds:=dueS_len (n:=(i:Int)) (d:=d) ((shopsL d.wants).take j)
      have htk:((shopsL d.wants).take j).length≤3:=by simp;omega
      refine r_skip (r_seq (r_block (r_seq ?_)))
      refine r_plan _ [] mo (kp [0,2,3,4,5,7,8] rfl) Ent.rfl ?_
      refine yp 0 [.k 5] rfl rfl (by kernel_rfl) (u_fa fa_148_3 rfl rfl rfl) (yr 1 [.o 0] rfl rfl (by kernel_rfl) (fun He=>u_ldc tc_65 rfl rfl rfl (by rfl)) ?_)
      refine yp 2 [.k 7] rfl rfl (by kernel_rfl) (u_mv rfl rfl rfl) (yp 3 [.k 8] rfl rfl (by kernel_rfl) (u_mv rfl rfl rfl) (yp 4 [.o 2,.o 3] rfl rfl (by kernel_rfl) (pv_idx Tryz.underlying65 (.ofC tc_3) hrs (fun hg=>⟨rfl,(mapget hz)⟩) (.n rfl) rfl rfl rfl fS) ?_))
      refine yr 5 [.o 4] rfl rfl (by kernel_rfl) (fun He=>rv_ldat (j:=0) tc_3 (Rd.ent hrs (eJ (by repeat constructor))) (fun hg=>(mapget hz)) (.n rfl) rfl rfl fR rfl fR) ?_
      refine yq 6 [.o 1,.o 5] rfl rfl (by kernel_rfl) (fun He=>rq_call cf_78 (.n rfl) rfl (.c rfl fR (.c rfl fR .n)) (fun hg=>ref_In _ _ t.tv d.over z (Rd.ent hrt (eJ (by repeat constructor))) (by omega))) ?_
      refine yp 7 [.o 6] rfl rfl (by kernel_rfl) (pv_not (.n rfl) rfl rfl fR) ?_
      refine qm_n (by kernel_rfl) (by kernel_rfl) (by kernel_rfl) (by kernel_rfl) (kp [0,2,3,4,5,7,8,73] rfl) ?_
      refine r_cond _ rfl (fun h6=>?_) (fun h6=>?_)
      ·skip
       have hc:d.over.contains z=false:=by simpa using h6
       refine r_plan (_) ([sl ov2 139 6 ((dueL 0 (s.l.take i)++dueS i d ((shopsL d.wants).take j)).map rM)]) mo (kp [0,2,3,4,5,7,8] rfl) (SelS.ent) ?_
       refine yp 0 [.k 3] rfl rfl (by kernel_rfl) (u_mv rfl rfl rfl) (yp 1 [.k 4] rfl rfl (by kernel_rfl) (u_mv rfl rfl rfl) (yp 2 [.k 7] rfl rfl (by kernel_rfl) (u_mv rfl rfl rfl) (yp 3 [.k 8] rfl rfl (by kernel_rfl) (u_mv rfl rfl rfl) ?_)))
       refine yp 4 [.o 2,.o 3] rfl rfl (by kernel_rfl) (pv_idx Tryz.underlying65 (.ofC tc_3) hrs (fun hg=>⟨rfl,(mapget hz)⟩) (.n rfl) rfl rfl rfl fS) ?_
       refine yr 5 [.o 4] rfl rfl (by kernel_rfl) (fun He=>rv_ldat (j:=0) tc_3 (Rd.ent hrs (eJ (by repeat constructor))) (fun hg=>(mapget hz)) (.n rfl) rfl rfl fR rfl fR) ?_
       refine yp 6 [.k 5] rfl rfl (by kernel_rfl) (u_fa fa_148_1 rfl rfl rfl) (yr 7 [.o 6] rfl rfl (by kernel_rfl) (fun He=>u_ldc tc_3 rfl rfl rfl (by rfl)) ?_)
       refine yp 8 [.o 7] rfl rfl (by kernel_rfl) (pv_eql (.n rfl) rfl rfl rfl fS) ?_
       refine yp 9 [.o 1,.o 5,.o 8] rfl rfl (by kernel_rfl) (pv_build zr_139 pl_139 (.n rfl) rfl (.c rfl fR rfl rfl rfl (by repeat constructor) (.c rfl fR rfl rfl rfl (by repeat constructor) (.c rfl fR rfl rfl rfl (by repeat constructor) (.c rfl fR rfl rfl rfl (by repeat constructor) .n))))) ?_
       refine qm_bslice1 Tryz.underlying70 (.ofA ta_139) zr_139 rfl (i:=10) [.o 9] (by kernel_rfl) (by kernel_rfl) rfl rfl rfl rfl (by kernel_rfl) (by kernel_rfl) ⟨_,.n rfl,rfl⟩ rfl rfl rfl rfl rfl rfl fun b84=>?_
       refine qa_append Tryz.underlying70 el_139 rfl rfl (i:=11) [.o 0,.o 10] (by kernel_rfl) (by kernel_rfl) rfl rfl rfl rfl (by kernel_rfl) (by kernel_rfl) ⟨_,.n rfl,rfl⟩ rfl rfl rfl (Rd.blit rfl rfl) (by simp only[List.length_map,List.length_append,List.length_cons,List.length_nil];omega) fun v85=>?_
       refine qm_rd v85 fun hr85=>?_
       refine yp 12 [.o 11] rfl rfl (by kernel_rfl) (u_as rfl rfl rfl) ?_
       refine qm_n (by kernel_rfl) (by kernel_rfl) (by kernel_rfl) (by kernel_rfl) (kp [0,2,3,4,5,7,8] rfl) ?_
       refine r_end (r_region (p_mv rfl rfl (p_add rfl rfl (by omega) rfl (p_as rfl rfl (o_keep (kp [0,2,3,4,5,7,8] rfl) ?_)))))
       refine r_back_2 (j+1) (_) ?_ ?_ (Keep.app (kp [8,3] rfl) (kp [0,2,4,5,7] rfl)) ?_
       ·omega
       ·omega
       ·rw[dueS_take hz,if_neg (by rw[hc];simp),← List.append_assoc,snocM];apply eI;repeat constructor
      ·skip
       have hc:d.over.contains z=true:=by simpa using h6
       refine r_skip (r_end (r_region (p_mv rfl rfl (p_add rfl rfl (by omega) rfl (p_as rfl rfl (o_keep (kp [0,2,3,4,5,7,8] rfl) ?_))))))
       refine r_back_2 (j+1) (ov2) ?_ ?_ (Keep.app (kp [8,3] rfl) (kp [0,2,4,5,7] rfl)) ?_
       ·omega
       ·omega
       ·rw[dueS_take hz,if_pos hc,List.append_nil];apply eI;repeat constructor
     ·skip
      have hj:(shopsL d.wants).length≤j:=by have:=of_decide_eq_false h5;omega
      refine r_exit rfl (r_end (r_region (p_mv rfl rfl (p_add rfl rfl (by omega) rfl (p_as rfl rfl (o_keep (kp [0,2,3,4] rfl) ?_))))))
      refine r_back_2 (i+1) (ov2) ?_ ?_ (Keep.app (kp [4,3] rfl) (kp [0,2] rfl)) ?_
      ·omega
      ·omega
      ·rw[dueL_take hd,Int.zero_add,dueD_end h0];rw[List.take_of_length_le hj];refine Ent.tr (bdealP_close (d:=d) t hy rfl rfl rfl) ?_;refine Ent.tr (Ent.mono (SelX.ent (X:=restP bdealP ts s.l i))) ?_;refine Ent.tr (many_back ht hd) ?_;apply eI;repeat constructor
  ·skip
   have hilt:s.l.length≤i:=by have:=of_decide_eq_false h1;omega
   refine r_exit rfl (r_sr (p_mv rfl rfl (p_as rfl rfl (o_keep (kp [2] rfl) ?_))))
   refine r_rete (ov1) hF rfl (.c (.t rfl) .n) ?_ ?_
   ·refine Ent.catI ?_;rw[show dueB s=dueL 0 (s.l.take i) by rw[List.take_of_length_le hilt];rfl];refine Ent.c (SelS.ent) ?_;apply eI;repeat constructor
   ·rfl
theorem book_Due (M:Amb)(T:TypeId)(rest:List Value)(b:Nat)(s:BrokS)(hI:BInv s):FnE (α:=Value) Tryz.prog M 43 [ptr b] [bookP b T rest s] (fun x=>x) (fun x=>[sl x 139 6 ((dueB s).map rM),bookP b T rest s]):=FnE.book fun lv ov ts hts=>book_Due_o M T rest b s hI lv ov ts hts
theorem broker_WantsN (M:Amb)(b:Nat)(s:BrokS)(hI:BInv s)(n:Int)(hw:∀ d∈s.l,d.wants.length≤100000):FnN (α:=Value) Tryz.prog M 107 [ptr b,.int .i64 n] [brokP b s] (fun x=>x) (fun x=>[sl x 93 2 ((wantsB s n).map rW)]):=broker_Wants M b s hI n hw
section opening3
variable{P:Program}{F:Exit→Act→World→Prop}{N:Nat}{M:Amb}{K:List KI}{env:Env}{ops:Array Oper}{rest:List Oper}{b:Nat}{s:BrokS}{R:List HP}{T:TypeId}{rs:List Value}
variable{E0:Env}{Hq He:List HP}{p:Plan}{eff:List Nat}
end opening3
end Go.Proofs.YtmakdilmibjpbaaGreatDoor
