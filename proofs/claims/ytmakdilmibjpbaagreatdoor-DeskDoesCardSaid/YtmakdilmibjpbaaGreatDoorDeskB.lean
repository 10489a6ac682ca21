/- The walks of DeskB: written by a program of ours (gen.py) over the engine. -/
import Derived.Test.YtmakdilmibjpbaaGreatDoorSh
import Derived.Test.YtmakdilmibjpbaaGreatDoorWants
import Derived.Test.YtmakdilmibjpbaaGreatDoorFacts
import Derived.Test.YtmakdilmibjpbaaGreatDoorDeskP
import Derived.Test.YtmakdilmibjpbaaGreatDoorDeskA
import Derived.Test.YtmakdilmibjpbaaGreatDoorTownW
namespace Go.Proofs.YtmakdilmibjpbaaGreatDoor
open Go Go.RowKit
set_option linter.unusedVariables false
set_option linter.unusedSimpArgs false
set_option maxRecDepth 20000
theorem bld_check (M:Amb)(b tb:Nat)(av bv:Value)(ha:av=.pointer Option.none∨av=ptr b):FnC Tryz.prog M 94 [ptr b] (resVal []) [blk b [av,bv,ptr tb] 46] [blk b [ptr b,bv,ptr tb] 46]:=by
 refine fnc_intro Tryz.func94 rfl Tryz.ntmps94 rfl fun R F hF=>?_
 refine r_cat ?_
 refine r_seq ?_
 rcases ha with rfl|rfl
 ·skip
  refine r_region (p_mv rfl rfl (p_nil rfl rfl (p_fa fa_44_0 rfl rfl (p_ldc tc_41 rfl Zt rfl ?_))))
  refine l_op (x_p (pv_peqn Tryz.underlying41 (.n rfl) rfl rfl rfl (fun _=>⟨rfl,rfl⟩)) rfl rfl (o_keep (.c 0 rfl (.c 6 rfl .n)) (r_cond _ rfl (fun h1=>?_) (fun h1=>?_))))
  ·skip
   refine r_region (p_mv rfl rfl (p_mv rfl rfl (l_op (x_r (rv_toU Tryz.underlying41 Tryz.underlying200 (show Tryz.prog.info? 44=some ((Tryz.prog.info? 44).getD default) by kernel_rfl) (of_decide_eq_true Zk) Zs (.n rfl) rfl rfl (fun _=>rfl)) rfl rfl ?_))))
   refine l_op (x_p (pv_noEsc Tryz.func131 Zk Zk Zk Zk (.n rfl) rfl rfl (fun _=>rfl)) rfl rfl (l_op (x_r (rv_fromU Tryz.underlying200 Tryz.underlying41 (show Tryz.prog.info? 44=some ((Tryz.prog.info? 44).getD default) by kernel_rfl) Zk (.n rfl) rfl rfl (fun _=>rfl)) rfl rfl ?_)))
   refine p_nil rfl rfl (p_fa fa_44_0 rfl rfl ?_)
   refine p_store (.ofC tc_41) rfl rfl rfl rfl rfl Zr ?_
   refine o_keep (.n) ?_
   refine r_fallc hF rfl ?_
   ·refine Ent.catI ?_;exact eA
  ·simp at h1
 ·skip
  refine r_region (p_mv rfl rfl (p_nil rfl rfl (p_fa fa_44_0 rfl rfl (p_ldc tc_41 rfl Zt rfl ?_))))
  refine l_op (x_p (pv_peqn Tryz.underlying41 (.n rfl) rfl rfl rfl (fun _=>⟨rfl,rfl⟩)) rfl rfl (o_keep (.c 0 rfl (.c 6 rfl .n)) (r_cond _ rfl (fun h2=>?_) (fun h2=>?_))))
  ·simp at h2
  ·skip
   refine r_sr (p_mv rfl rfl (p_nil rfl rfl (p_fa fa_44_0 rfl rfl (p_ldc tc_41 rfl Zt rfl ?_))))
   refine p_mv rfl rfl (l_op (x_p (pv_pnes Tryz.underlying41 (show Tryz.prog.info? 44=some ((Tryz.prog.info? 44).getD default) by kernel_rfl) (.n rfl) rfl rfl rfl (fun _=>⟨rfl,rfl⟩)) rfl rfl (o_keep (.c 19 rfl .n) (r_cond _ rfl (fun h3=>?_) (fun h3=>?_)))))
   ·simp at h3
   ·skip
    refine r_skip ?_
    refine r_fallc hF rfl ?_
    ·refine Ent.catI ?_;exact eA
theorem bld_Write (M:Amb)(b tb:Nat)(av bv:Value)(ha:av=.pointer Option.none∨av=ptr b)(u s:List UInt8)(h0:s≠[])(hb:u.length+s.length≤100000000000):FnE (α:=Value) Tryz.prog M 53 [ptr b,str s] [blk b [av,bv,ptr tb] 46,sl bv 5 1 (u.map rBy)] (fun x=>.tuple #[.int .i64 (s.length:Int),.nilIface]) (fun x=>[blk b [ptr b,x,ptr tb] 46,sl x 5 1 ((u++s).map rBy)]):=by
 refine fne_intro Tryz.func53 rfl Tryz.ntmps53 rfl fun R F hF=>?_
 refine r_cat ?_
 refine r_sr (p_as rfl rfl (p_as rfl rfl (o_keep (.c 0 rfl (.c 1 rfl (.c 4 rfl (.c 5 rfl .n)))) (r_sr (p_mv rfl rfl ?_)))))
 refine p_callc cf_94 (.c rfl .n) rfl (bld_check _ b tb av bv ha) ?_
 refine o_keep (.c 0 rfl (.c 1 rfl (.c 4 rfl (.c 5 rfl .n)))) (r_sr (p_mv rfl rfl (p_mv rfl rfl (p_nil rfl rfl (p_fa fa_44_1 rfl rfl (p_ldc tc_42 rfl Zt rfl ?_))))))
 refine p_mv rfl rfl ?_
 refine p_appstr Tryz.underlying42 Tryz.underlying9 el_5 h0 Zo rfl rfl rfl fun v14=>?_
 refine o_rd v14 fun hr14=>?_
 refine p_nil rfl rfl (p_fa fa_44_1 rfl rfl ?_)
 refine p_store (.ofC tc_42) rfl rfl hr14.c1 rfl hr14.o1 Zr ?_
 refine o_keep (.c 1 rfl (.c 4 rfl (.c 5 rfl .n))) (r_sr (p_mv rfl rfl (l_op (x_p (pv_slen Tryz.underlying9 (.n rfl) rfl rfl rfl rfl (fun _=>rfl)) rfl rfl (p_as rfl rfl (p_as rfl rfl (o_keep (.c 4 rfl (.c 5 rfl .n)) ?_)))))))
 refine r_rete (v14) hF rfl (.c (.t rfl) (.c (.t rfl) .n)) ?_ ?_
 ·refine Ent.catI ?_;exact eA
 ·rfl
theorem bld_Reset (M:Amb)(b tb:Nat)(av bv:Value):FnC Tryz.prog M 14 [ptr b] (resVal []) [blk b [av,bv,ptr tb] 46] [blk b [.pointer Option.none,.slice Option.none 0 0,ptr tb] 46]:=by
 refine fnc_intro Tryz.func14 rfl Tryz.ntmps14 rfl fun R F hF=>?_
 refine r_cat ?_
 refine r_sr (p_mv rfl rfl (p_nil rfl rfl (p_fa fa_44_0 rfl rfl ?_)))
 refine p_store (.ofC tc_41) rfl rfl rfl rfl rfl Zr ?_
 refine o_keep (.c 0 rfl .n) (r_region (p_mv rfl rfl (p_nil rfl rfl (p_fa fa_44_1 rfl rfl ?_))))
 refine p_store (.ofC tc_42) rfl rfl rfl rfl rfl Zr ?_
 refine o_keep (.n) ?_
 refine r_fallc hF rfl ?_
 ·refine Ent.catI ?_;exact eA
theorem bld_String0 (M:Amb)(b tb:Nat)(av:Value):FnC Tryz.prog M 16 [ptr b] (str []) [blk b [av,.slice Option.none 0 0,ptr tb] 46] [blk b [av,.slice Option.none 0 0,ptr tb] 46]:=by
 refine fnc_intro Tryz.func16 rfl Tryz.ntmps16 rfl fun R F hF=>?_
 refine r_cat ?_
 refine r_sr (p_as rfl rfl (o_keep (.c 0 rfl (.c 2 rfl .n)) (r_seq ?_)))
 refine r_plan _ [] mo (.c 0 rfl .n) Ent.rfl ?_
 refine qp 0 [.k 0] rfl rfl rfl rfl Zk rfl (u_mv rfl rfl rfl) (qp 1 [.o 0] rfl rfl rfl rfl Zk rfl (u_nil rfl rfl rfl) (qp 2 [.o 1] rfl rfl rfl rfl Zk rfl (u_fa fa_44_1 rfl rfl rfl) (qr 3 [.o 2] rfl rfl rfl rfl Zk rfl (fun He=>u_ldc tc_42 rfl rfl rfl Zt) ?_)))
 refine qp 4 [.o 3] rfl rfl rfl rfl Zk rfl (pv_sdata0 (.n rfl) rfl rfl (fun _=>rfl)) (qp 5 [.k 0] rfl rfl rfl rfl Zk rfl (u_mv rfl rfl rfl) (qp 6 [.o 5] rfl rfl rfl rfl Zk rfl (u_nil rfl rfl rfl) (qp 7 [.o 6] rfl rfl rfl rfl Zk rfl (u_fa fa_44_1 rfl rfl rfl) ?_)))
 refine qr 8 [.o 7] rfl rfl rfl rfl Zk rfl (fun He=>u_ldc tc_42 rfl rfl rfl Zt) ?_
 refine qp 9 [.o 8] rfl rfl rfl rfl Zk rfl (pv_len ⟨_,Tryz.underlying42⟩ (.n rfl) rfl rfl rfl rfl (fun _=>rfl)) (qp 10 [.o 4,.o 9] rfl rfl rfl rfl Zk rfl (pv_ustr0 (.n rfl) rfl rfl rfl (fun _=>⟨rfl,rfl⟩)) (qp 11 [.o 10] rfl rfl rfl rfl Zk rfl (u_as rfl rfl rfl) ?_))
 refine qm_n Zk Zk Zk Zk (.c 2 rfl .n) ?_
 refine r_retv hF rfl (.c (.t rfl) .n) ?_ ?_
 ·refine Ent.catI ?_;exact eA
 ·rfl
theorem bld_String1 (M:Amb)(b tb:Nat)(av:Value)(g cap:Nat)(u:List UInt8)(h0:u≠[])(hl:u.length≤100000000000)(hc:cap≠0):FnC Tryz.prog M 16 [ptr b] (str u) [blk b [av,.slice (some ⟨g,0,Option.none⟩) u.length cap,ptr tb] 46,arr g 5 1 (u.map rBy) cap] [blk b [av,.slice (some ⟨g,0,Option.none⟩) u.length cap,ptr tb] 46]:=by
 refine fnc_intro Tryz.func16 rfl Tryz.ntmps16 rfl fun R F hF=>?_
 refine r_cat ?_
 refine r_sr (p_as rfl rfl (o_keep (.c 0 rfl (.c 2 rfl .n)) (r_seq ?_)))
 refine r_plan (_) ([arr g 5 1 (u.map rBy) cap]) mo (.c 0 rfl .n) (SelR.ent) ?_
 refine qp 0 [.k 0] rfl rfl rfl rfl Zk rfl (u_mv rfl rfl rfl) (qp 1 [.o 0] rfl rfl rfl rfl Zk rfl (u_nil rfl rfl rfl) (qp 2 [.o 1] rfl rfl rfl rfl Zk rfl (u_fa fa_44_1 rfl rfl rfl) (qr 3 [.o 2] rfl rfl rfl rfl Zk rfl (fun He=>u_ldc tc_42 rfl rfl rfl Zt) ?_)))
 refine qp 4 [.o 3] rfl rfl rfl rfl Zk rfl (pv_sdata hc (.n rfl) rfl rfl (fun _=>rfl)) (qp 5 [.k 0] rfl rfl rfl rfl Zk rfl (u_mv rfl rfl rfl) (qp 6 [.o 5] rfl rfl rfl rfl Zk rfl (u_nil rfl rfl rfl) (qp 7 [.o 6] rfl rfl rfl rfl Zk rfl (u_fa fa_44_1 rfl rfl rfl) ?_)))
 refine qr 8 [.o 7] rfl rfl rfl rfl Zk rfl (fun He=>u_ldc tc_42 rfl rfl rfl Zt) ?_
 refine qp 9 [.o 8] rfl rfl rfl rfl Zk rfl (pv_len ⟨_,Tryz.underlying42⟩ (.n rfl) rfl rfl rfl rfl (fun _=>rfl)) ?_
 refine qm_ustr Tryz.underlying86 Zk h0 Zo (i:=10) [.o 4,.o 9] Zk Zk rfl rfl rfl rfl Zk Zk ⟨_,.n rfl,rfl⟩ rfl rfl rfl ?_
 refine qp 11 [.o 10] rfl rfl rfl rfl Zk rfl (u_as rfl rfl rfl) ?_
 refine qm_n Zk Zk Zk Zk (.c 2 rfl .n) ?_
 refine r_retv hF rfl (.c (.t rfl) .n) ?_ ?_
 ·refine Ent.catI ?_;exact eA
 ·rfl
theorem bld_WriteC (M:Amb)(b tb:Nat)(u s:List UInt8)(h0:s≠[])(hb:u.length+s.length≤100000000000):FnC Tryz.prog M 53 [ptr b,str s] (.tuple #[.int .i64 (s.length:Int),.nilIface]) [bdP b tb u] [bdP b tb (u++s)]:=fun R w ho=>by
  obtain⟨x,⟨ha,hn⟩,hx⟩:=(show Own M (bdP b tb u::R) w from ho).exP
  refine (bld_Write M b tb x.1 x.2 ha u s h0 hb R w hx).mono fun _ _ ⟨v,H',e,⟨y,h1,h2⟩,ho'⟩=>⟨v,_,e,⟨h1,rfl⟩,?_⟩
  subst h2
  have ho2:Own M (blk b [ptr b,y,ptr tb] 46::sl y 5 1 ((u++s).map rBy)::R) _:=ho'
  exact ho2.ent (bdP_close (ptr b) y rfl rfl (.inr rfl) (fun e=>absurd e (by simp[h0])))
theorem bld_ResetC (M:Amb)(b tb:Nat):FnC Tryz.prog M 14 [ptr b] (resVal []) [bdI b tb] [bdP b tb []]:=fun R w ho=>by
  obtain⟨hb,hs,h,⟨p,q,⟨av,bv,hx⟩,hr,hd,e⟩,hh⟩:=(show Own M (bdI b tb::R) w from ho)
  subst e
  have ho1:Own M ([blk b [av,bv,ptr tb] 46]++R) w:=⟨hb,hs,_,sep_app' hx hr hd,hh⟩
  refine (bld_Reset M b tb av bv R w ho1).mono fun _ _ ⟨v,H',e,⟨h1,h2⟩,ho'⟩=>⟨v,_,e,⟨h1,rfl⟩,?_⟩
  subst h2
  have ho2:Own M (blk b [.pointer Option.none,.slice Option.none 0 0,ptr tb] 46::R) _:=ho'
  have ho3:=ho2.ent (H':=sl (.slice Option.none 0 0) 5 1 []::blk b [.pointer Option.none,.slice Option.none 0 0,ptr tb] 46::R) Ent.slN
  exact ho3.ent (bdP_close (u:=[]) (.pointer Option.none) (.slice Option.none 0 0) rfl rfl (.inl rfl) (fun _=>rfl))
theorem bld_StringC (M:Amb)(b tb:Nat)(u:List UInt8)(hl:u.length≤100000000000):FnC Tryz.prog M 16 [ptr b] (str u) [bdP b tb u] [bdI b tb]:=fun R w ho=>by
  obtain⟨x,⟨ha,hn⟩,hx⟩:=(show Own M (bdP b tb u::R) w from ho).exP
  obtain⟨av,bv⟩:=x
  dsimp only at ha hn hx
  by_cases h0:u=[]
  · subst h0
    obtain rfl:=hn rfl
    have hx1:Own M (blk b [av,.slice Option.none 0 0,ptr tb] 46::sl (.slice Option.none 0 0) 5 1 []::R) w:=hx
    refine (bld_String0 M b tb av R w (hx1.ent (Ent.mono Ent.drop))).mono fun _ _ ⟨v,H',e,⟨h1,h2⟩,ho'⟩=>⟨v,_,e,⟨h1,rfl⟩,?_⟩
    subst h2
    have ho2:Own M (blk b [av,.slice Option.none 0 0,ptr tb] 46::R) _:=ho'
    exact ho2.ent (bdI_close av (.slice Option.none 0 0) rfl)
  · have hx1:Own M (blk b [av,bv,ptr tb] 46::sl bv 5 1 (u.map rBy)::R) w:=hx
    have hx2:=hx1.ent (H':=sl bv 5 1 (u.map rBy)::blk b [av,bv,ptr tb] 46::R) Ent.swap
    rcases hx2.slE with ⟨_,h,_⟩|⟨g,cap,rfl,ho2⟩
    · exact absurd (by simpa using h) h0
    · obtain⟨sp,_,q1,q2,q3,_⟩:=ho2.arrE
      rw[List.length_map] at q2 ho2
      have hp:0<u.length:=List.length_pos_iff.2 h0
      have ho3:=ho2.ent (H':=blk b [av,.slice (some ⟨g,0,Option.none⟩) u.length cap,ptr tb] 46::arr g 5 1 (u.map rBy) cap::R) Ent.swap
      refine (bld_String1 M b tb av g cap u h0 hl Zo R w ho3).mono fun _ _ ⟨v,H',e,⟨h1,h2⟩,ho'⟩=>⟨v,_,e,⟨h1,rfl⟩,?_⟩
      subst h2
      have ho4:Own M (blk b [av,.slice (some ⟨g,0,Option.none⟩) u.length cap,ptr tb] 46::R) _:=ho'
      exact ho4.ent (bdI_close av _ rfl)
theorem desk_say (M:Amb)(b tb:Nat)(u:List UInt8)(v:Value)(l:List (List UInt8))(s:List UInt8)(hs:Lib.join l [32]=s)(hl:l.length≤1000)(hu:u.length+s.length+1≤100000000000):FnC Tryz.prog M 29 [ptr b,v] (resVal []) [bdP b tb u,sl v 9 1 ((l).map rS)] [bdP b tb (u++(s++[10])),sl v 9 1 ((l).map rS)]:=by
 refine fnc_intro Tryz.func29 rfl Tryz.ntmps29 rfl fun R F hF=>?_
 refine r_cat ?_
 refine r_rd v fun hrv=>?_
 refine r_plan (_) ([bdP b tb u]) mo (.c 0 rfl (.c 1 rfl .n)) (SelX.ent) ?_
 refine qp 0 [.k 0] rfl rfl rfl rfl Zk rfl (u_mv rfl rfl rfl) (qp 1 [.o 0] rfl rfl rfl rfl Zk rfl (u_nil rfl rfl rfl) (qp 2 [.o 1] rfl rfl rfl rfl Zk rfl (u_fa fa_46_0 rfl rfl rfl) (qp 3 [.k 1] rfl rfl rfl rfl Zk rfl (u_mv rfl rfl rfl) ?_)))
 refine qm_q (i:=4) (l:=[.o 3]) rfl rfl rfl rfl Zk rfl (fun He=>rq_call cf_54 (.n rfl) rfl (.c rfl (fun _=>rfl) (.c rfl (fun _=>rfl) .n)) (fun hg=>fnv_to (lib_Join _ v l [32] (Rd.ent hrv Zb) (by rw[hs];omega) hl) (by rw[hs]))) ?_
 refine qp 5 [.o 4] rfl rfl rfl rfl Zk rfl (pv_sadd (fun _=>Zn) (.n rfl) rfl rfl rfl (fun _=>⟨rfl,rfl⟩)) ?_
 refine qb_callc (i:=6) [.o 2,.o 5] Zk Zk rfl rfl rfl rfl Zk Zk Zk ⟨_,.n rfl,rfl⟩ cf_53 rfl (.c rfl (.c rfl .n)) (bld_WriteC _ b tb u (s++[10]) Zs Zm) ?_
 refine qm_n Zk Zk Zk Zk (.n) ?_
 refine r_fallc hF rfl ?_
 ·refine Ent.catI ?_;exact eA
end Go.Proofs.YtmakdilmibjpbaaGreatDoor
