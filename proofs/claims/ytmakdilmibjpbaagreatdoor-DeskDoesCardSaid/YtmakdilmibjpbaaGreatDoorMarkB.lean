/- Markets, which are towns by the document: how they lie. The walks of MarkB: written by a program of ours (gen.py) over the engine. -/
import Derived.Test.YtmakdilmibjpbaaGreatDoorTinv
import Derived.Test.YtmakdilmibjpbaaGreatDoorBookW3
import Derived.Test.YtmakdilmibjpbaaGreatDoorBoothW
import Derived.Test.YtmakdilmibjpbaaGreatDoorDeskP
import Derived.Test.YtmakdilmibjpbaaGreatDoorWants
import Derived.Test.YtmakdilmibjpbaaGreatDoorFacts
import Derived.Test.YtmakdilmibjpbaaGreatDoorPostW
namespace Go.Proofs.YtmakdilmibjpbaaGreatDoor
open Go Go.RowKit
set_option linter.unusedVariables false
set_option maxRecDepth 20000
abbrev mkR (ws:List Int)(p0 p1 p2:Nat)(bv:Value):List Value:=[.int .i64 (ws.getD 0 0),.int .i64 (ws.getD 1 0),.int .i64 (ws.getD 2 0),.int .i64 (ws.getD 3 0),.int .i64 (ws.getD 4 0),.int .i64 (ws.getD 5 0),ptr p0,ptr p1,ptr p2,bv]
abbrev mkL (b:Nat)(t:TownS)(lv ov:Value)(ts:List DT)(p0 p1 p2:Nat)(bv:Value):List HP:=[blk b (lv::ov::mkR t.ws p0 p1 p2 bv) 73,sl lv 148 4 (List.zipWith rowD ts t.b.l),sl ov 3 1 (t.b.order.map rI),manyP bdealP ts t.b.l,manyP penP [p0,p1,p2] t.ks,sl bv 139 6 (t.post.map rM)]
def marketP (b:Nat)(t:TownS):HP:=fun h=>∃ lv ov ts p0 p1 p2 bv,ts.length=t.b.l.length∧sep (mkL b t lv ov ts p0 p1 p2 bv) h
theorem marketP_open{M:Amb}{R:List HP}{b:Nat}{t:TownS}{w:World}(ho:Own M (marketP b t::R) w):∃ lv ov ts p0 p1 p2 bv,ts.length=t.b.l.length∧Own M (mkL b t lv ov ts p0 p1 p2 bv++R) w:=by
  obtain⟨hb,hs,g,⟨x,y,⟨lv,ov,ts,p0,p1,p2,bv,hl,hx⟩,hr,hd,e⟩,hh⟩:=ho
  subst e
  exact⟨lv,ov,ts,p0,p1,p2,bv,hl,hb,hs,_,sep_app' hx hr hd,hh⟩
theorem marketP_in{R:List HP}{b:Nat}{t:TownS}(lv ov:Value)(ts:List DT)(p0 p1 p2:Nat)(bv:Value)(hl:ts.length=t.b.l.length):Ent (mkL b t lv ov ts p0 p1 p2 bv++R) (marketP b t::R):=fun h hx=>by
  obtain⟨p,q,hp,hq,hd,e⟩:=sep_app (A:=mkL b t lv ov ts p0 p1 p2 bv) hx
  exact⟨h,⟨p,q,⟨lv,ov,ts,p0,p1,p2,bv,hl,hp⟩,hq,hd,e⟩,Hp.sub_refl h⟩
section opening
variable{P:Program}{F:Exit→Act→World→Prop}{N:Nat}{M:Amb}{K:List KI}{env:Env}{b:Nat}{t:TownS}{R:List HP}
theorem r_market (h:∀ lv ov ts p0 p1 p2 bv,ts.length=t.b.l.length→Run P F N M K env (mkL b t lv ov ts p0 p1 p2 bv++R)):Run P F N M K env (marketP b t::R):=fun a w hf ho=>by
  obtain⟨lv,ov,ts,p0,p1,p2,bv,hl,ho'⟩:=marketP_open ho
  exact h lv ov ts p0 p1 p2 bv hl a w hf ho'
end opening
abbrev mbxL (b:Nat)(ws:List Int)(lv ov:Value)(p0 p1 p2:Nat)(l:List Mail)(bv:Value):List HP:=[blk b (lv::ov::mkR ws p0 p1 p2 bv) 73,sl bv 139 6 (l.map rM)]
def mboxP (b:Nat)(ws:List Int)(lv ov:Value)(p0 p1 p2:Nat)(l:List Mail):HP:=exS fun bv=>mbxL b ws lv ov p0 p1 p2 l bv
section closing
variable{H R R0 R1 R2 R3 R4 R5:List HP}{b:Nat}{t:TownS}{ws:List Int}{l:List Mail}
theorem mbox_close{lv ov:Value}{p0 p1 p2:Nat}(bv:Value){cs:List Value}{r:List (List Value)}[a:SelB H b cs 73 R][u:SelS R bv 139 6 r R1](e:cs=lv::ov::mkR ws p0 p1 p2 bv)(e1:r=l.map rM):Ent H (mboxP b ws lv ov p0 p1 p2 l::R1):=by
  subst e;subst e1
  exact Ent.tr (Ent.tr a.ent (Ent.mono u.ent)) (Ent.ex (L:=mbxL b ws lv ov p0 p1 p2 l) bv)
theorem marketP_close (lv ov : Value) (ts : List DT) (p0 p1 p2 : Nat) (bv : Value) (hl : ts.length = t.b.l.length) {cs : List Value} {r1 r2 r3 : List (List Value)} [a : SelB H b cs 73 R0] [u : SelS R0 lv 148 4 r1 R1] [v : SelS R1 ov 3 1 r2 R2] [w : SelX R2 (manyP bdealP ts t.b.l) R3] [x : SelX R3 (manyP penP [p0, p1, p2] t.ks) R4] [y : SelS R4 bv 139 6 r3 R5]
    (e : cs = lv :: ov :: mkR t.ws p0 p1 p2 bv) (e1 : r1 = List.zipWith rowD ts t.b.l) (e2 : r2 = t.b.order.map rI) (e3 : r3 = t.post.map rM) : Ent H (marketP b t :: R5) := by
  subst e;subst e1;subst e2;subst e3
  exact Ent.tr (Ent.tr a.ent (Ent.mono (Ent.tr u.ent (Ent.mono (Ent.tr v.ent (Ent.mono (Ent.tr w.ent (Ent.mono (Ent.tr x.ent (Ent.mono y.ent)))))))))) (marketP_in lv ov ts p0 p1 p2 bv hl)
theorem marketP_xclose (lv ov : Value) (ts : List DT) (p0 p1 p2 : Nat) (hl : ts.length = t.b.l.length) {r1 r2 : List (List Value)} [a : SelX H (mboxP b t.ws lv ov p0 p1 p2 t.post) R0] [u : SelS R0 lv 148 4 r1 R1] [v : SelS R1 ov 3 1 r2 R2] [w : SelX R2 (manyP bdealP ts t.b.l) R3] [x : SelX R3 (manyP penP [p0, p1, p2] t.ks) R4]
    (e1 : r1 = List.zipWith rowD ts t.b.l) (e2 : r2 = t.b.order.map rI) : Ent H (marketP b t :: R4) := by
  subst e1;subst e2
  refine Ent.tr (Ent.tr a.ent (Ent.mono (Ent.tr u.ent (Ent.mono (Ent.tr v.ent (Ent.mono (Ent.tr w.ent (Ent.mono x.ent)))))))) fun h hx=>?_
  obtain⟨c,d,⟨bv,hc⟩,hd,hj,e⟩:=hx
  subst e
  have h1:sep (blk b (lv::ov::mkR t.ws p0 p1 p2 bv) 73::sl bv 139 6 (t.post.map rM)::sl lv 148 4 (List.zipWith rowD ts t.b.l)::sl ov 3 1 (t.b.order.map rI)::manyP bdealP ts t.b.l::manyP penP [p0,p1,p2] t.ks::R4) _:=sep_app' (A:=mbxL b t.ws lv ov p0 p1 p2 t.post bv) hc hd hj
  exact marketP_close (t:=t) lv ov ts p0 p1 p2 bv hl rfl rfl rfl rfl _ h1
theorem marketP_bclose (p0 p1 p2:Nat)(bv:Value){r:List (List Value)}[a:SelX H (bookP b 73 (mkR t.ws p0 p1 p2 bv) t.b) R0][x:SelX R0 (manyP penP [p0,p1,p2] t.ks) R1][y:SelS R1 bv 139 6 r R2](e:r=t.post.map rM):Ent H (marketP b t::R2):=by
  subst e
  refine Ent.tr (Ent.tr a.ent (Ent.mono (Ent.tr x.ent (Ent.mono y.ent)))) fun h hx=>?_
  obtain⟨c,d,⟨lv,ov,ts,hl,hc⟩,hd,hj,e⟩:=hx
  subst e
  exact marketP_in (b:=b) (t:=t) (R:=R2) lv ov ts p0 p1 p2 bv hl _ (sep_app' (A:=bookL b 73 (mkR t.ws p0 p1 p2 bv) t.b lv ov ts) hc hd hj)
end closing
section opening2
variable{P:Program}{F:Exit→Act→World→Prop}{N:Nat}{M:Amb}{K:List KI}{env:Env}{b:Nat}{t:TownS}{R:List HP}
theorem r_marketX (h:∀ lv ov ts p0 p1 p2,ts.length=t.b.l.length→Run P F N M K env (mboxP b t.ws lv ov p0 p1 p2 t.post::sl lv 148 4 (List.zipWith rowD ts t.b.l)::sl ov 3 1 (t.b.order.map rI)::manyP bdealP ts t.b.l::manyP penP [p0,p1,p2] t.ks::R)):Run P F N M K env (marketP b t::R):=
  r_market fun lv ov ts p0 p1 p2 bv hl=>r_ent (mbox_close bv rfl rfl) (h lv ov ts p0 p1 p2 hl)
theorem r_marketB (h:∀ p0 p1 p2 bv,Run P F N M K env (bookP b 73 (mkR t.ws p0 p1 p2 bv) t.b::manyP penP [p0,p1,p2] t.ks::sl bv 139 6 (t.post.map rM)::R)):Run P F N M K env (marketP b t::R):=
  r_market fun lv ov ts p0 p1 p2 bv hl=>r_ent (bookP_close lv ov ts hl rfl rfl rfl) (h p0 p1 p2 bv)
end opening2
theorem mk_cell{lv ov bv:Value}{p0 p1 p2 s:Nat}{ws:List Int}(h:s<3):(lv::ov::mkR ws p0 p1 p2 bv)[8+s]?=some (ptr (cAt p0 p1 p2 s)):=by
  rcases lt3 h with rfl|rfl|rfl<;>rfl
end Go.Proofs.YtmakdilmibjpbaaGreatDoor
namespace Go.Proofs.YtmakdilmibjpbaaGreatDoor
open Go Go.RowKit
set_option linter.unusedVariables false
set_option linter.unusedSimpArgs false
set_option maxRecDepth 20000
theorem sl_eqR{H R:List HP}{v:Value}{E:TypeId}{sz:Nat}{rows rows':List (List Value)}[s:SelS H v E sz rows R](e:rows=rows'):Ent H (sl v E sz rows'::R):=e▸s.ent
theorem mbag_at (M:Amb)(b:Nat)(T:TypeId)(c0 c1 c2 c3 c4 c5 c6 c7 c8 c9 c10 pv:Value)(l:List Mail)(hb:l.length≤100000)(n:Int)(h0:0<l.length):FnC Tryz.prog M 119 [.pointer (some ⟨b,11,Option.none⟩),.int .i64 n] (.int .i64 (rnd n l.length:Int)) [blk b [c0,c1,c2,c3,c4,c5,c6,c7,c8,c9,c10,pv] T,sl pv 139 6 (l.map rM)] [blk b [c0,c1,c2,c3,c4,c5,c6,c7,c8,c9,c10,pv] T,sl pv 139 6 (l.map rM)]:=by
 refine fnc_intro Tryz.func119 rfl Tryz.ntmps119 rfl fun R F hF=>?_
 refine r_cat ?_
 refine r_rd pv fun hr=>?_
 refine r_sr (p_as rfl rfl (o_keep (kp [0,1,4] rfl) (r_sr (p_mv rfl rfl (l_op (x_p (pv_conv Tryz.underlying3 Tryz.underlying157 (.n rfl) rfl rfl fR) rfl rfl (p_mv rfl rfl (p_nil rfl rfl ?_))))))))
 refine p_ldc tc_71 rfl (by rfl) rfl ?_
 refine l_op (x_p (pv_lens (Rd.len hr) ⟨_,Tryz.underlying71⟩ (.n rfl) rfl rfl rfl rfl fR) rfl rfl (l_op (x_p (pv_conv Tryz.underlying3 Tryz.underlying157 (.n rfl) rfl rfl fR) rfl rfl (l_op (x_p (pv_rem (fun _=>by first|omega|exact u64_ne (by omega) (by omega)) (.n rfl) rfl rfl rfl fS) rfl rfl ?_)))))
 refine l_op (x_p (pv_conv Tryz.underlying157 Tryz.underlying3 (.n rfl) rfl rfl fR) rfl rfl (p_as rfl rfl (o_keep (kp [4] rfl) ?_)))
 refine r_retv hF rfl (.c (.t rfl) .n) ?_ ?_
 ·refine Ent.catI ?_;apply eI;repeat constructor
 ·exact int_eq (rnd_eq (by omega) (by omega))
theorem mbag_Send (M:Amb)(b:Nat)(T:TypeId)(c0 c1 c2 c3 c4 c5 c6 c7 c8 c9 c10 pv:Value)(l:List Mail)(hb:l.length≤100000)(m:Mail):FnE (α:=Value) Tryz.prog M 116 [.pointer (some ⟨b,11,Option.none⟩),vM m] [blk b [c0,c1,c2,c3,c4,c5,c6,c7,c8,c9,c10,pv] T,sl pv 139 6 (l.map rM)] (fun _=>.bool (decide (l.length<40))) (fun x=>[blk b [c0,c1,c2,c3,c4,c5,c6,c7,c8,c9,c10,x] T,sl x 139 6 ((sendL l m).map rM)]):=by
 refine fne_intro Tryz.func116 rfl Tryz.ntmps116 rfl fun R F hF=>?_
 refine r_cat ?_
 refine r_rd pv fun hr=>?_
 refine r_sr (p_box rfl rfl rfl fun b3=>?_)
 refine p_as rfl rfl (o_keep (kp [0,3,4] rfl) (r_seq (r_sr (p_mv rfl rfl (p_nil rfl rfl (p_ldc tc_71 rfl (by rfl) rfl ?_))))))
 refine l_op (x_p (pv_lens (Rd.len hr) ⟨_,Tryz.underlying71⟩ (.n rfl) rfl rfl rfl rfl fR) rfl rfl (p_geq rfl rfl rfl (o_keep (kp [0,3,4,9] rfl) (r_cond _ rfl (fun h1=>?_) (fun h1=>?_)))))
 ·try simp only[bq1,bq2,bq3,bq4,bq5,bq6,bq7,bq8] at h1
  have hs:sendL l m=l:=by unfold sendL;rw[if_neg (by omega)]
  refine r_sr (p_as rfl rfl (o_keep (kp [0,3,4] rfl) ?_))
  refine r_rete (pv) hF rfl (.c (.t rfl) .n) ?_ ?_
  ·refine Ent.catI ?_;rw[hs];apply eI;repeat constructor
  ·exact bool_eq (by simp;omega)
 ·try simp only[bq1,bq2,bq3,bq4,bq5,bq6,bq7,bq8] at h1
  have hs:sendL l m=l++[m]:=by unfold sendL;rw[if_pos (by omega)]
  refine r_skip (r_seq ?_)
  refine r_plan (_) ([sl pv 139 6 (l.map rM)]) mo (kp [0,3,4] rfl) (SelS.ent) ?_
  refine yp 0 [.k 0] rfl rfl (by kernel_rfl) (u_mv rfl rfl rfl) (yp 1 [.k 0] rfl rfl (by kernel_rfl) (u_mv rfl rfl rfl) (yp 2 [.o 1] rfl rfl (by kernel_rfl) (u_nil rfl rfl rfl) (yr 3 [.o 2] rfl rfl (by kernel_rfl) (fun He=>u_ldc tc_71 rfl rfl rfl (by rfl)) ?_)))
  refine yr 4 [.k 3] rfl rfl (by kernel_rfl) (fun He=>q_lda ta_139 (.n rfl) rfl rfl fR (by exact (.s (.s (.s (.s (.s (.s .z)))))))) ?_
  refine qm_bslice1 Tryz.underlying71 (.ofA ta_139) zr_139 rfl (i:=5) [.o 4] (by kernel_rfl) (by kernel_rfl) rfl rfl rfl rfl (by kernel_rfl) (by kernel_rfl) ⟨_,.n rfl,rfl⟩ rfl rfl rfl rfl rfl rfl fun b15=>?_
  refine qa_append Tryz.underlying71 el_139 rfl rfl (i:=6) [.o 3,.o 5] (by kernel_rfl) (by kernel_rfl) rfl rfl rfl rfl (by kernel_rfl) (by kernel_rfl) ⟨_,.n rfl,rfl⟩ rfl rfl rfl (Rd.blit rfl rfl) (by simp;omega) fun v16=>?_
  refine qm_rd v16 fun hr16=>?_
  refine yp 7 [.o 0] rfl rfl (by kernel_rfl) (u_nil rfl rfl rfl) ?_
  refine qb_store (.ofC tc_71) (i:=8) [.o 7,.o 6] (by kernel_rfl) (by kernel_rfl) rfl rfl rfl (by kernel_rfl) (by kernel_rfl) (by kernel_rfl) ⟨_,.n rfl,rfl⟩ rfl rfl rfl hr16.c1 rfl hr16.o1 (by repeat constructor) ?_
  refine qm_n (by kernel_rfl) (by kernel_rfl) (by kernel_rfl) (by kernel_rfl) (kp [4] rfl) ?_
  refine r_sr (p_as rfl rfl (o_keep (kp [4] rfl) ?_))
  refine r_rete (v16) hF rfl (.c (.t rfl) .n) ?_ ?_
  ·refine Ent.catI ?_;rw[hs,List.map_append];apply eI;repeat constructor
  ·exact bool_eq (by simp;omega)
theorem mbag_Take (M:Amb)(b:Nat)(T:TypeId)(c0 c1 c2 c3 c4 c5 c6 c7 c8 c9 c10 pv:Value)(l:List Mail)(hb:l.length≤100000)(n:Int):FnE (α:=Value) Tryz.prog M 72 [.pointer (some ⟨b,11,Option.none⟩),.int .i64 n] [blk b [c0,c1,c2,c3,c4,c5,c6,c7,c8,c9,c10,pv] T,sl pv 139 6 (l.map rM)] (fun _=>.tuple #[vM ((takeM l n).getD .z),.bool (takeM l n).isSome]) (fun x=>[blk b [c0,c1,c2,c3,c4,c5,c6,c7,c8,c9,c10,x] T,sl x 139 6 ((takeL l n).map rM)]):=by
 refine fne_intro Tryz.func72 rfl Tryz.ntmps72 rfl fun R F hF=>?_
 refine r_cat ?_
 refine r_rd pv fun hr=>?_
 refine r_sr (p_alloc zr_139 rfl fun b4=>?_)
 refine p_as rfl rfl (o_keep (kp [0,1,4,5] rfl) (r_seq (r_sr (p_mv rfl rfl (p_nil rfl rfl (p_ldc tc_71 rfl (by rfl) rfl ?_))))))
 refine l_op (x_p (pv_lens (Rd.len hr) ⟨_,Tryz.underlying71⟩ (.n rfl) rfl rfl rfl rfl fR) rfl rfl (p_eql rfl rfl rfl (o_keep (kp [0,1,4,5,13] rfl) (r_cond _ rfl (fun h1=>?_) (fun h1=>?_)))))
 ·skip
  have h0:l.length=0:=by have:=of_decide_eq_true h1;omega
  obtain⟨e1,e2⟩:=take_none (n:=n) h0
  refine r_sr ?_
  refine p_build zr_139 pl_139 (.n) rfl ?_
  refine p_store (.ofA ta_139) rfl rfl rfl rfl rfl (by repeat constructor) ?_
  refine p_as rfl rfl (o_keep (kp [0,1,4,5] rfl) ?_)
  refine r_rete (pv) hF rfl (.c (.a rfl ta_139 (.blk (SelB.ent) (.s (.s (.s (.s (.s (.s .z))))))) rfl) (.c (.t rfl) .n)) ?_ ?_
  ·refine Ent.catI ?_;rw[e2];apply eI;repeat constructor
  ·rw[e1];rfl
 ·skip
  have h0:0<l.length:=by have:=of_decide_eq_false h1;omega
  have hi:=rnd_lt (n:=n) h0
  obtain⟨m,hm⟩:=takeM_some (l:=l) n h0
  refine r_skip (r_sr (p_mv rfl rfl (p_mv rfl rfl ?_)))
  refine p_callv cf_119 (.c rfl (.c rfl .n)) rfl ((mbag_at _ b T c0 c1 c2 c3 c4 c5 c6 c7 c8 c9 c10 pv l hb _ (by omega)).q) ?_
  refine p_as rfl rfl (o_keep (kp [0,4,5,6] rfl) (r_sr (p_mv rfl rfl (p_nil rfl rfl (p_ldc tc_71 rfl (by rfl) rfl ?_)))))
  refine p_mv rfl rfl (p_idx Tryz.underlying71 (.ofA ta_139) hr rfl (mapget hm) rfl rfl rfl ?_)
  refine p_ldats 0 ta_139 (Rd.ent hr (eJ (by repeat constructor))) (mapget hm) rfl rfl (.s (.s (.s (.s (.s (.s .z)))))) rfl ?_
  refine p_alloc zr_139 rfl fun b7=>?_
  refine p_store (.ofA ta_139) rfl rfl rfl rfl rfl (by repeat constructor) ?_
  refine o_keep (kp [0,4,5,6,7] rfl) (r_sr (p_as rfl rfl (o_keep (kp [0,4,5,6,7,8] rfl) (r_seq ?_))))
  refine r_plan (_) ([sl (.slice Option.none 0 0) 139 6 []]) mo (kp [0,4,5,6,7,8] rfl) (Ent.slN) ?_
  refine yp 0 [.k 0] rfl rfl (by kernel_rfl) (u_mv rfl rfl rfl) (yp 1 [.k 8] rfl rfl (by kernel_rfl) (u_mv rfl rfl rfl) (yp 2 [.k 0] rfl rfl (by kernel_rfl) (u_mv rfl rfl rfl) (yp 3 [.o 2] rfl rfl (by kernel_rfl) (u_nil rfl rfl rfl) (yr 4 [.o 3] rfl rfl (by kernel_rfl) (fun He=>u_ldc tc_71 rfl rfl rfl (by rfl)) ?_))))
  refine yp 5 [.k 6] rfl rfl (by kernel_rfl) (u_mv rfl rfl rfl) ?_
  refine yp 6 [.o 4,.o 5] rfl rfl (by kernel_rfl) (pv_slc (l:=0) (h:=rnd n l.length) Tryz.underlying71 (.ofA ta_139) hr (Nat.zero_le _) (by rw[List.length_map];omega) rfl rfl rfl (.inl ⟨rfl,rfl,rfl⟩) (.inr ⟨_,_,rfl,rfl,rfl⟩)) ?_
  refine yp 8 [.k 0] rfl rfl (by kernel_rfl) (u_mv rfl rfl rfl) (yp 9 [.o 8] rfl rfl (by kernel_rfl) (u_nil rfl rfl rfl) (yr 10 [.o 9] rfl rfl (by kernel_rfl) (fun He=>u_ldc tc_71 rfl rfl rfl (by rfl)) ?_))
  refine yp 11 [.k 6] rfl rfl (by kernel_rfl) (u_mv rfl rfl rfl) (yp 12 [.o 11] rfl rfl (by kernel_rfl) (pv_add (fun _=>by omega) (.n rfl) rfl rfl rfl fS) ?_)
  refine yp 13 [.o 10,.o 12] rfl rfl (by kernel_rfl) (pv_slc (l:=rnd n l.length+1) (h:=(l.map rM).length) Tryz.underlying71 (.ofA ta_139) hr (by rw[List.length_map];omega) (Nat.le_refl _) rfl rfl rfl (.inr ⟨_,_,rfl,rfl,rfl⟩) (.inl ⟨rfl,rfl,rfl⟩)) ?_
  refine qa_append Tryz.underlying71 el_139 rfl rfl (i:=7) [.o 1,.o 6] (by kernel_rfl) (by kernel_rfl) rfl rfl rfl rfl (by kernel_rfl) (by kernel_rfl) ⟨_,.n rfl,rfl⟩ rfl rfl rfl (Rd.ent (hr.resl (Nat.zero_le _) (show rnd n l.length≤(l.map rM).length by rw[List.length_map];omega)) (Ent.one SelS.ent)) (by simp;omega) fun v31=>?_
  refine qm_rd v31 fun hr31=>?_
  refine qa_append Tryz.underlying71 el_139 rfl rfl (i:=14) [.o 7,.o 13] (by kernel_rfl) (by kernel_rfl) rfl rfl rfl rfl (by kernel_rfl) (by kernel_rfl) ⟨_,.n rfl,rfl⟩ rfl rfl rfl (Rd.ent (hr.resl (show rnd n l.length+1≤(l.map rM).length by rw[List.length_map];omega) (Nat.le_refl _)) (Ent.one SelS.ent)) (by simp;omega) fun v38=>?_
  refine qm_rd v38 fun hr38=>?_
  refine yp 15 [.o 0] rfl rfl (by kernel_rfl) (u_nil rfl rfl rfl) ?_
  refine qb_store (.ofC tc_71) (i:=16) [.o 15,.o 14] (by kernel_rfl) (by kernel_rfl) rfl rfl rfl (by kernel_rfl) (by kernel_rfl) (by kernel_rfl) ⟨_,.n rfl,rfl⟩ rfl rfl rfl hr38.c1 rfl hr38.o1 (by repeat constructor) ?_
  refine qm_n (by kernel_rfl) (by kernel_rfl) (by kernel_rfl) (by kernel_rfl) (kp [4,5,7] rfl) ?_
  refine r_sr ?_
  refine p_lda ta_139 rfl (by exact (.s (.s (.s (.s (.s (.s .z))))))) rfl ?_
  refine p_store (.ofA ta_139) rfl rfl rfl rfl rfl (by repeat constructor) ?_
  refine p_as rfl rfl (o_keep (kp [4,5] rfl) ?_)
  refine r_rete (v38) hF rfl (.c (.a rfl ta_139 (.blk (SelB.ent) (.s (.s (.s (.s (.s (.s .z))))))) rfl) (.c (.t rfl) .n)) ?_ ?_
  ·refine Ent.catI ?_;refine Ent.c (SelB.ent) ?_;refine Ent.c (sl_eqR (by rw[List.take_length];simp[takeL])) ?_;apply eI;repeat constructor
  ·rw[hm];rfl
theorem mbag_Double (M:Amb)(b:Nat)(T:TypeId)(c0 c1 c2 c3 c4 c5 c6 c7 c8 c9 c10 pv:Value)(l:List Mail)(hb:l.length≤100000)(n:Int):FnE (α:=Value) Tryz.prog M 73 [.pointer (some ⟨b,11,Option.none⟩),.int .i64 n] [blk b [c0,c1,c2,c3,c4,c5,c6,c7,c8,c9,c10,pv] T,sl pv 139 6 (l.map rM)] (fun _=>.bool (dblOk l)) (fun x=>[blk b [c0,c1,c2,c3,c4,c5,c6,c7,c8,c9,c10,x] T,sl x 139 6 ((dblL l n).map rM)]):=by
 refine fne_intro Tryz.func73 rfl Tryz.ntmps73 rfl fun R F hF=>?_
 refine r_cat ?_
 refine r_rd pv fun hr=>?_
 refine r_sr (p_as rfl rfl (o_keep (kp [0,1,4] rfl) (r_seq (r_sr (p_mv rfl rfl (p_nil rfl rfl (p_ldc tc_71 rfl (by rfl) rfl ?_)))))))
 refine l_op (x_p (pv_lens (Rd.len hr) ⟨_,Tryz.underlying71⟩ (.n rfl) rfl rfl rfl rfl fR) rfl rfl (p_eql rfl rfl rfl (o_keep (kp [0,1,4,9] rfl) (r_cond _ rfl (fun h1=>?_) (fun h1=>?_)))))
 ·skip
  have h0:l.length=0:=by have:=of_decide_eq_true h1;omega
  obtain⟨e1,e2⟩:=dbl_none (n:=n) h0
  refine r_sr (p_as rfl rfl (o_keep (kp [0,1,4] rfl) ?_))
  refine r_rete (pv) hF rfl (.c (.t rfl) .n) ?_ ?_
  ·refine Ent.catI ?_;rw[e1];apply eI;repeat constructor
  ·rw[e2];rfl
 ·skip
  have h0:0<l.length:=by have:=of_decide_eq_false h1;omega
  obtain⟨m,hm⟩:=takeM_some (l:=l) n h0
  obtain⟨e1,e2⟩:=dbl_some hm h0
  refine r_skip (r_seq ?_)
  refine r_plan _ [] mo (kp [0,1] rfl) Ent.rfl ?_
  refine yp 0 [.k 0] rfl rfl (by kernel_rfl) (u_mv rfl rfl rfl) (yp 1 [.k 0] rfl rfl (by kernel_rfl) (u_mv rfl rfl rfl) (yp 2 [.o 1] rfl rfl (by kernel_rfl) (u_nil rfl rfl rfl) (yr 3 [.o 2] rfl rfl (by kernel_rfl) (fun He=>u_ldc tc_71 rfl rfl rfl (by rfl)) ?_)))
  refine yp 4 [.k 0] rfl rfl (by kernel_rfl) (u_mv rfl rfl rfl) (yp 5 [.k 1] rfl rfl (by kernel_rfl) (u_mv rfl rfl rfl) ?_)
  refine yq 6 [.o 4,.o 5] rfl rfl (by kernel_rfl) (fun He=>rq_call cf_119 (.n rfl) rfl (.c rfl fR (.c rfl fR .n)) (fun hg=>(mbag_at _ b T c0 c1 c2 c3 c4 c5 c6 c7 c8 c9 c10 pv l hb _ h0).q)) ?_
  refine yp 7 [.o 3,.o 6] rfl rfl (by kernel_rfl) (pv_idx Tryz.underlying71 (.ofA ta_139) hr (fun hg=>⟨rfl,(mapget hm)⟩) (.n rfl) rfl rfl rfl fS) ?_
  refine yr 8 [.o 7] rfl rfl (by kernel_rfl) (fun He=>rv_ldats (j:=0) ta_139 (Rd.ent hr (eJ (by repeat constructor))) (fun hg=>(mapget hm)) (.n rfl) rfl rfl fR rfl (.s (.s (.s (.s (.s (.s .z))))))) ?_
  refine qb_calle (i:=9) [.o 0,.o 8] (by kernel_rfl) (by kernel_rfl) rfl rfl rfl rfl (by kernel_rfl) (by kernel_rfl) (by kernel_rfl) ⟨_,.n rfl,rfl⟩ cf_116 rfl (.c rfl (.c rfl .n)) (mbag_Send _ b T c0 c1 c2 c3 c4 c5 c6 c7 c8 c9 c10 pv l hb m) fun pv2=>?_
  refine qm_cat ?_
  refine yp 10 [.o 9] rfl rfl (by kernel_rfl) (u_as rfl rfl rfl) ?_
  refine qm_n (by kernel_rfl) (by kernel_rfl) (by kernel_rfl) (by kernel_rfl) (kp [4] rfl) ?_
  refine r_rete (pv2) hF rfl (.c (.t rfl) .n) ?_ ?_
  ·refine Ent.catI ?_;rw[e1];apply eI;repeat constructor
  ·rw[e2];rfl
end Go.Proofs.YtmakdilmibjpbaaGreatDoor
