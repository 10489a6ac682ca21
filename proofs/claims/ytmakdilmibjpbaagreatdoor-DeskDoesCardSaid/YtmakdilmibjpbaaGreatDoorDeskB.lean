/- The walks of DeskB: written by a program of ours (gen.py) over the engine. -/
import Derived.Test.YtmakdilmibjpbaaGreatDoorWants
import Derived.Test.YtmakdilmibjpbaaGreatDoorFacts
import Derived.Test.YtmakdilmibjpbaaGreatDoorDeskP
import Derived.Test.YtmakdilmibjpbaaGreatDoorDeskA
import Derived.Test.YtmakdilmibjpbaaGreatDoorTownW
namespace Go.Proofs.YtmakdilmibjpbaaGreatDoor
open Go Go.RowKit
set_option linter.unusedVariables false
set_option linter.unusedSimpArgs false
set_option maxRecDepth 20000
theorem bld_check (M:Amb)(b tb:Nat)(av bv:Value)(ha:av=.pointer Option.none∨av=ptr b):FnC Tryz.prog M 94 [ptr b] (resVal []) [blk b [av,bv,ptr tb] 46] [blk b [ptr b,bv,ptr tb] 46]:=by
 refine fnc_intro Tryz.func94 rfl Tryz.ntmps94 rfl fun R F hF=>?_
 refine r_cat ?_
 refine r_seq ?_
 rcases ha with rfl|rfl
 ·skip
  refine r_region (p_mv rfl rfl (p_nil rfl rfl (p_fa fa_44_0 rfl rfl (p_ldc tc_41 rfl (by rfl) rfl ?_))))
  refine l_op (x_p (pv_peqn Tryz.underlying41 (.n rfl) rfl rfl rfl fS) rfl rfl (o_keep (kp [0,6] rfl) (r_cond _ rfl (fun h1=>?_) (fun h1=>?_))))
  ·skip
   refine r_region (p_mv rfl rfl (p_mv rfl rfl (l_op (x_r (rv_toU Tryz.underlying41 Tryz.underlying200 (show Tryz.prog.info? 44=some ((Tryz.prog.info? 44).getD default) by kernel_rfl) (of_decide_eq_true (by kernel_rfl)) (by simp) (.n rfl) rfl rfl fR) rfl rfl ?_))))
   refine l_op (x_p (pv_noEsc Tryz.func131 (by kernel_rfl) (by kernel_rfl) (by kernel_rfl) (by kernel_rfl) (.n rfl) rfl rfl fR) rfl rfl (l_op (x_r (rv_fromU Tryz.underlying200 Tryz.underlying41 (show Tryz.prog.info? 44=some ((Tryz.prog.info? 44).getD default) by kernel_rfl) (by kernel_rfl) (.n rfl) rfl rfl fR) rfl rfl ?_)))
   refine p_nil rfl rfl (p_fa fa_44_0 rfl rfl ?_)
   refine p_store (.ofC tc_41) rfl rfl rfl rfl rfl (by repeat constructor) ?_
   refine o_keep (.n) ?_
   refine r_fallc hF rfl ?_
   ·refine Ent.catI ?_;apply eI;repeat constructor
  ·simp at h1
 ·skip
  refine r_region (p_mv rfl rfl (p_nil rfl rfl (p_fa fa_44_0 rfl rfl (p_ldc tc_41 rfl (by rfl) rfl ?_))))
  refine l_op (x_p (pv_peqn Tryz.underlying41 (.n rfl) rfl rfl rfl fS) rfl rfl (o_keep (kp [0,6] rfl) (r_cond _ rfl (fun h2=>?_) (fun h2=>?_))))
  ·simp at h2
  ·skip
   refine r_sr (p_mv rfl rfl (p_nil rfl rfl (p_fa fa_44_0 rfl rfl (p_ldc tc_41 rfl (by rfl) rfl ?_))))
   refine p_mv rfl rfl (l_op (x_p (pv_pnes Tryz.underlying41 (show Tryz.prog.info? 44=some ((Tryz.prog.info? 44).getD default) by kernel_rfl) (.n rfl) rfl rfl rfl fS) rfl rfl (o_keep (kp [19] rfl) (r_cond _ rfl (fun h3=>?_) (fun h3=>?_)))))
   ·simp at h3
   ·skip
    refine r_skip ?_
    refine r_fallc hF rfl ?_
    ·refine Ent.catI ?_;apply eI;repeat constructor
theorem bld_Write (M:Amb)(b tb:Nat)(av bv:Value)(ha:av=.pointer Option.none∨av=ptr b)(u s:List UInt8)(h0:s≠[])(hb:u.length+s.length≤100000000000):FnE (α:=Value) Tryz.prog M 53 [ptr b,str s] [blk b [av,bv,ptr tb] 46,sl bv 5 1 (u.map rBy)] (fun x=>.tuple #[.int .i64 (s.length:Int),.nilIface]) (fun x=>[blk b [ptr b,x,ptr tb] 46,sl x 5 1 ((u++s).map rBy)]):=by
 refine fne_intro Tryz.func53 rfl Tryz.ntmps53 rfl fun R F hF=>?_
 refine r_cat ?_
 refine r_sr (p_as rfl rfl (p_as rfl rfl (o_keep (kp [0,1,4,5] rfl) (r_sr (p_mv rfl rfl ?_)))))
 refine p_callc cf_94 (.c rfl .n) rfl (bld_check _ b tb av bv ha) ?_
 refine o_keep (kp [0,1,4,5] rfl) (r_sr (p_mv rfl rfl (p_mv rfl rfl (p_nil rfl rfl (p_fa fa_44_1 rfl rfl (p_ldc tc_42 rfl (by rfl) rfl ?_))))))
 refine p_mv rfl rfl ?_
 refine p_appstr Tryz.underlying42 Tryz.underlying9 el_5 h0 (by omega) rfl rfl rfl fun v14=>?_
 refine o_rd v14 fun hr14=>?_
 refine p_nil rfl rfl (p_fa fa_44_1 rfl rfl ?_)
 refine p_store (.ofC tc_42) rfl rfl hr14.c1 rfl hr14.o1 (by repeat constructor) ?_
 refine o_keep (kp [1,4,5] rfl) (r_sr (p_mv rfl rfl (l_op (x_p (pv_slen Tryz.underlying9 (.n rfl) rfl rfl rfl rfl fR) rfl rfl (p_as rfl rfl (p_as rfl rfl (o_keep (kp [4,5] rfl) ?_)))))))
 refine r_rete (v14) hF rfl (.c (.t rfl) (.c (.t rfl) .n)) ?_ ?_
 ·refine Ent.catI ?_;apply eI;repeat constructor
 ·rfl
theorem bld_Reset (M:Amb)(b tb:Nat)(av bv:Value):FnC Tryz.prog M 14 [ptr b] (resVal []) [blk b [av,bv,ptr tb] 46] [blk b [.pointer Option.none,.slice Option.none 0 0,ptr tb] 46]:=by
 refine fnc_intro Tryz.func14 rfl Tryz.ntmps14 rfl fun R F hF=>?_
 refine r_cat ?_
 refine r_sr (p_mv rfl rfl (p_nil rfl rfl (p_fa fa_44_0 rfl rfl ?_)))
 refine p_store (.ofC tc_41) rfl rfl rfl rfl rfl (by repeat constructor) ?_
 refine o_keep (kp [0] rfl) (r_region (p_mv rfl rfl (p_nil rfl rfl (p_fa fa_44_1 rfl rfl ?_))))
 refine p_store (.ofC tc_42) rfl rfl rfl rfl rfl (by repeat constructor) ?_
 refine o_keep (.n) ?_
 refine r_fallc hF rfl ?_
 ·refine Ent.catI ?_;apply eI;repeat constructor
theorem bld_String0 (M:Amb)(b tb:Nat)(av:Value):FnC Tryz.prog M 16 [ptr b] (str []) [blk b [av,.slice Option.none 0 0,ptr tb] 46] [blk b [av,.slice Option.none 0 0,ptr tb] 46]:=by
 refine fnc_intro Tryz.func16 rfl Tryz.ntmps16 rfl fun R F hF=>?_
 refine r_cat ?_
 refine r_sr (p_as rfl rfl (o_keep (kp [0,2] rfl) (r_seq ?_)))
 refine r_plan _ [] mo (kp [0] rfl) Ent.rfl ?_
 refine yp 0 [.k 0] rfl rfl (by kernel_rfl) (u_mv rfl rfl rfl) (yp 1 [.o 0] rfl rfl (by kernel_rfl) (u_nil rfl rfl rfl) (yp 2 [.o 1] rfl rfl (by kernel_rfl) (u_fa fa_44_1 rfl rfl rfl) (yr 3 [.o 2] rfl rfl (by kernel_rfl) (fun He=>u_ldc tc_42 rfl rfl rfl (by rfl)) ?_)))
 refine yp 4 [.o 3] rfl rfl (by kernel_rfl) (pv_sdata0 (.n rfl) rfl rfl fR) (yp 5 [.k 0] rfl rfl (by kernel_rfl) (u_mv rfl rfl rfl) (yp 6 [.o 5] rfl rfl (by kernel_rfl) (u_nil rfl rfl rfl) (yp 7 [.o 6] rfl rfl (by kernel_rfl) (u_fa fa_44_1 rfl rfl rfl) ?_)))
 refine yr 8 [.o 7] rfl rfl (by kernel_rfl) (fun He=>u_ldc tc_42 rfl rfl rfl (by rfl)) ?_
 refine yp 9 [.o 8] rfl rfl (by kernel_rfl) (pv_len ⟨_,Tryz.underlying42⟩ (.n rfl) rfl rfl rfl rfl fR) (yp 10 [.o 4,.o 9] rfl rfl (by kernel_rfl) (pv_ustr0 (.n rfl) rfl rfl rfl fS) (yp 11 [.o 10] rfl rfl (by kernel_rfl) (u_as rfl rfl rfl) ?_))
 refine qm_n (by kernel_rfl) (by kernel_rfl) (by kernel_rfl) (by kernel_rfl) (kp [2] rfl) ?_
 refine r_retv hF rfl (.c (.t rfl) .n) ?_ ?_
 ·refine Ent.catI ?_;apply eI;repeat constructor
 ·rfl
theorem bld_String1 (M:Amb)(b tb:Nat)(av:Value)(g cap:Nat)(u:List UInt8)(h0:u≠[])(hl:u.length≤100000000000)(hc:cap≠0):FnC Tryz.prog M 16 [ptr b] (str u) [blk b [av,.slice (some ⟨g,0,Option.none⟩) u.length cap,ptr tb] 46,arr g 5 1 (u.map rBy) cap] [blk b [av,.slice (some ⟨g,0,Option.none⟩) u.length cap,ptr tb] 46]:=by
 refine fnc_intro Tryz.func16 rfl Tryz.ntmps16 rfl fun R F hF=>?_
 refine r_cat ?_
 refine r_sr (p_as rfl rfl (o_keep (kp [0,2] rfl) (r_seq ?_)))
 refine r_plan (_) ([arr g 5 1 (u.map rBy) cap]) mo (kp [0] rfl) (SelR.ent) ?_
 refine yp 0 [.k 0] rfl rfl (by kernel_rfl) (u_mv rfl rfl rfl) (yp 1 [.o 0] rfl rfl (by kernel_rfl) (u_nil rfl rfl rfl) (yp 2 [.o 1] rfl rfl (by kernel_rfl) (u_fa fa_44_1 rfl rfl rfl) (yr 3 [.o 2] rfl rfl (by kernel_rfl) (fun He=>u_ldc tc_42 rfl rfl rfl (by rfl)) ?_)))
 refine yp 4 [.o 3] rfl rfl (by kernel_rfl) (pv_sdata hc (.n rfl) rfl rfl fR) (yp 5 [.k 0] rfl rfl (by kernel_rfl) (u_mv rfl rfl rfl) (yp 6 [.o 5] rfl rfl (by kernel_rfl) (u_nil rfl rfl rfl) (yp 7 [.o 6] rfl rfl (by kernel_rfl) (u_fa fa_44_1 rfl rfl rfl) ?_)))
 refine yr 8 [.o 7] rfl rfl (by kernel_rfl) (fun He=>u_ldc tc_42 rfl rfl rfl (by rfl)) ?_
 refine yp 9 [.o 8] rfl rfl (by kernel_rfl) (pv_len ⟨_,Tryz.underlying42⟩ (.n rfl) rfl rfl rfl rfl fR) ?_
 refine qm_ustr Tryz.underlying86 (by kernel_rfl) h0 (by omega) (i:=10) [.o 4,.o 9] (by kernel_rfl) (by kernel_rfl) rfl rfl rfl rfl (by kernel_rfl) (by kernel_rfl) ⟨_,.n rfl,rfl⟩ rfl rfl rfl ?_
 refine yp 11 [.o 10] rfl rfl (by kernel_rfl) (u_as rfl rfl rfl) ?_
 refine qm_n (by kernel_rfl) (by kernel_rfl) (by kernel_rfl) (by kernel_rfl) (kp [2] rfl) ?_
 refine r_retv hF rfl (.c (.t rfl) .n) ?_ ?_
 ·refine Ent.catI ?_;apply eI;repeat constructor
 ·rfl
theorem bld_WriteC (M:Amb)(b tb:Nat)(u s:List UInt8)(h0:s≠[])(hb:u.length+s.length≤100000000000):FnC Tryz.prog M 53 [ptr b,str s] (.tuple #[.int .i64 (s.length:Int),.nilIface]) [bdP b tb u] [bdP b tb (u++s)]:=fun R w ho=>by
  obtain⟨x,⟨ha,hn⟩,hx⟩:=(show Own M (bdP b tb u::R) w from ho).exP
  refine (bld_Write M b tb x.1 x.2 ha u s h0 hb R w hx).mono fun _ _ ⟨v,H',e,⟨y,h1,h2⟩,ho'⟩=>⟨v,_,e,⟨h1,rfl⟩,?_⟩
  subst h2
  have ho2:Own M (blk b [ptr b,y,ptr tb] 46::sl y 5 1 ((u++s).map rBy)::R) _:=ho'
  exact ho2.ent (bdP_close (ptr b) y rfl rfl (.inr rfl) (fun e=>absurd e (by simp[h0])))
theorem bld_ResetC (M:Amb)(b tb:Nat):FnC Tryz.prog M 14 [ptr b] (resVal []) [bdI b tb] [bdP b tb []]:=fun R w ho=>by
  obtain⟨hb,hs,h,⟨p,q,⟨av,bv,hx⟩,hr,hd,e⟩,hh⟩:=(show Own M (bdI b tb::R) w from ho)
  subst e
  have ho1:Own M ([blk b [av,bv,ptr tb] 46]++R) w:=⟨hb,hs,_,sep_app' hx hr hd,hh⟩
  refine (bld_Reset M b tb av bv R w ho1).mono fun _ _ ⟨v,H',e,⟨h1,h2⟩,ho'⟩=>⟨v,_,e,⟨h1,rfl⟩,?_⟩
  subst h2
  have ho2:Own M (blk b [.pointer Option.none,.slice Option.none 0 0,ptr tb] 46::R) _:=ho'
  have ho3:=ho2.ent (H':=sl (.slice Option.none 0 0) 5 1 []::blk b [.pointer Option.none,.slice Option.none 0 0,ptr tb] 46::R) Ent.slN
  exact ho3.ent (bdP_close (u:=[]) (.pointer Option.none) (.slice Option.none 0 0) rfl rfl (.inl rfl) fR)
theorem bld_StringC (M:Amb)(b tb:Nat)(u:List UInt8)(hl:u.length≤100000000000):FnC Tryz.prog M 16 [ptr b] (str u) [bdP b tb u] [bdI b tb]:=fun R w ho=>by
  obtain⟨x,⟨ha,hn⟩,hx⟩:=(show Own M (bdP b tb u::R) w from ho).exP
  obtain⟨av,bv⟩:=x
  dsimp only at ha hn hx
  by_cases h0:u=[]
  · subst h0
    obtain rfl:=hn rfl
    have hx1:Own M (blk b [av,.slice Option.none 0 0,ptr tb] 46::sl (.slice Option.none 0 0) 5 1 []::R) w:=hx
    refine (bld_String0 M b tb av R w (hx1.ent (Ent.mono Ent.drop))).mono fun _ _ ⟨v,H',e,⟨h1,h2⟩,ho'⟩=>⟨v,_,e,⟨h1,rfl⟩,?_⟩
    subst h2
    have ho2:Own M (blk b [av,.slice Option.none 0 0,ptr tb] 46::R) _:=ho'
    exact ho2.ent (bdI_close av (.slice Option.none 0 0) rfl)
  · have hx1:Own M (blk b [av,bv,ptr tb] 46::sl bv 5 1 (u.map rBy)::R) w:=hx
    have hx2:=hx1.ent (H':=sl bv 5 1 (u.map rBy)::blk b [av,bv,ptr tb] 46::R) Ent.swap
    rcases hx2.slE with ⟨_,h,_⟩|⟨g,cap,rfl,ho2⟩
    · exact absurd (by simpa using h) h0
    · obtain⟨sp,_,q1,q2,q3,_⟩:=ho2.arrE
      rw[List.length_map] at q2 ho2
      have hp:0<u.length:=List.length_pos_iff.2 h0
      have ho3:=ho2.ent (H':=blk b [av,.slice (some ⟨g,0,Option.none⟩) u.length cap,ptr tb] 46::arr g 5 1 (u.map rBy) cap::R) Ent.swap
      refine (bld_String1 M b tb av g cap u h0 hl (by omega) R w ho3).mono fun _ _ ⟨v,H',e,⟨h1,h2⟩,ho'⟩=>⟨v,_,e,⟨h1,rfl⟩,?_⟩
      subst h2
      have ho4:Own M (blk b [av,.slice (some ⟨g,0,Option.none⟩) u.length cap,ptr tb] 46::R) _:=ho'
      exact ho4.ent (bdI_close av _ rfl)
theorem desk_say (M:Amb)(b tb:Nat)(u:List UInt8)(v:Value)(l:List (List UInt8))(s:List UInt8)(hs:Lib.join l [32]=s)(hl:l.length≤1000)(hu:u.length+s.length+1≤100000000000):FnC Tryz.prog M 29 [ptr b,v] (resVal []) [bdP b tb u,sl v 9 1 ((l).map rS)] [bdP b tb (u++(s++[10])),sl v 9 1 ((l).map rS)]:=by
 refine fnc_intro Tryz.func29 rfl Tryz.ntmps29 rfl fun R F hF=>?_
 refine r_cat ?_
 refine r_rd v fun hrv=>?_
 refine r_plan (_) ([bdP b tb u]) mo (kp [0,1] rfl) (SelX.ent) ?_
 refine yp 0 [.k 0] rfl rfl (by kernel_rfl) (u_mv rfl rfl rfl) (yp 1 [.o 0] rfl rfl (by kernel_rfl) (u_nil rfl rfl rfl) (yp 2 [.o 1] rfl rfl (by kernel_rfl) (u_fa fa_46_0 rfl rfl rfl) (yp 3 [.k 1] rfl rfl (by kernel_rfl) (u_mv rfl rfl rfl) ?_)))
 refine yq 4 [.o 3] rfl rfl (by kernel_rfl) (fun He=>rq_call cf_54 (.n rfl) rfl (.c rfl fR (.c rfl fR .n)) (fun hg=>fnv_to (lib_Join _ v l [32] (Rd.ent hrv (eJ (by repeat constructor))) (by rw[hs];omega) hl) (by rw[hs]))) ?_
 refine yp 5 [.o 4] rfl rfl (by kernel_rfl) (pv_sadd (fun _=>by simp only[List.length_append,List.length_cons,List.length_nil];omega) (.n rfl) rfl rfl rfl fS) ?_
 refine qb_callc (i:=6) [.o 2,.o 5] (by kernel_rfl) (by kernel_rfl) rfl rfl rfl rfl (by kernel_rfl) (by kernel_rfl) (by kernel_rfl) ⟨_,.n rfl,rfl⟩ cf_53 rfl (.c rfl (.c rfl .n)) (bld_WriteC _ b tb u (s++[10]) (by simp) (by simp;omega)) ?_
 refine qm_n (by kernel_rfl) (by kernel_rfl) (by kernel_rfl) (by kernel_rfl) (.n) ?_
 refine r_fallc hF rfl ?_
 ·refine Ent.catI ?_;apply eI;repeat constructor
end Go.Proofs.YtmakdilmibjpbaaGreatDoor
