/- The walks of Count: written by a program of ours (gen.py) over the engine. -/
import Derived.Test.YtmakdilmibjpbaaGreatDoorWants
import Derived.Test.YtmakdilmibjpbaaGreatDoorFacts
namespace Go.Proofs.YtmakdilmibjpbaaGreatDoor
open Go Go.RowKit
set_option linter.unusedVariables false
set_option linter.unusedSimpArgs false
set_option maxRecDepth 20000
theorem count_Check (M:Amb)(H:List HP)(v o i:Int):FnV Tryz.prog M H 121 [.agg #[.int .i64 v,.int .i64 o,.int .i64 i]] (.int .i64 (chk ⟨v,o,i⟩)):=by
 refine fn_intro Tryz.func121 rfl Tryz.ntmps121 rfl fun F hF=>?_
 refine r_sr (p_box rfl rfl rfl fun b1=>?_)
 refine p_as rfl rfl (o_keep (kp [1,2] rfl) (r_seq (r_block (r_sr (p_fa fa_104_0 rfl rfl (p_ldc tc_3 rfl (by rfl) rfl ?_))))))
 refine p_lss rfl rfl rfl (p_mv rfl rfl (l_op (x_p (pv_fa fa_104_0 (.s rfl rfl rfl) rfl rfl gA) rfl rfl (l_op (x_r (q_ldc tc_3 (.s rfl rfl rfl) rfl rfl gA (by rfl)) rfl rfl ?_)))))
 refine l_op (x_p (pv_gtr (.s rfl rfl rfl) rfl rfl rfl gB) rfl rfl ?_)
 refine l_op (x_p (pv_or (.n rfl) rfl rfl rfl (fun _=>⟨rfl,fun hc=>by first|rfl|(rw[hc];rfl)|simp_all⟩)) rfl rfl ?_)
 refine p_as rfl rfl (o_keep (kp [1,2,3] rfl) (r_cond _ rfl (fun h1=>?_) (fun h1=>?_)))
 ·try simp at h1
  refine r_sr (p_as rfl rfl (o_keep (kp [2] rfl) ?_))
  refine r_retv hF rfl (.c (.t rfl) .n) ?_ ?_
  ·apply eI;repeat constructor
  ·exact int_eq (by unfold chk;simp only;(repeat' split)<;>omega)
 ·try simp at h1
  refine r_sr (p_fa fa_104_1 rfl rfl (p_ldc tc_3 rfl (by rfl) rfl ?_))
  refine p_lss rfl rfl rfl (p_mv rfl rfl (l_op (x_p (pv_fa fa_104_1 (.s rfl rfl rfl) rfl rfl gA) rfl rfl (l_op (x_r (q_ldc tc_3 (.s rfl rfl rfl) rfl rfl gA (by rfl)) rfl rfl ?_)))))
  refine l_op (x_p (pv_fa fa_104_0 (.s rfl rfl rfl) rfl rfl gA) rfl rfl (l_op (x_r (q_ldc tc_3 (.s rfl rfl rfl) rfl rfl gA (by rfl)) rfl rfl ?_)))
  refine l_op (x_p (pv_gtr (.s rfl rfl rfl) rfl rfl rfl gB) rfl rfl ?_)
  refine l_op (x_p (pv_or (.n rfl) rfl rfl rfl (fun _=>⟨rfl,fun hc=>by first|rfl|(rw[hc];rfl)|simp_all⟩)) rfl rfl ?_)
  refine p_as rfl rfl (o_keep (kp [1,2,12] rfl) (r_cond _ rfl (fun h2=>?_) (fun h2=>?_)))
  ·try simp at h2
   refine r_sr (p_as rfl rfl (o_keep (kp [2] rfl) ?_))
   refine r_retv hF rfl (.c (.t rfl) .n) ?_ ?_
   ·apply eI;repeat constructor
   ·exact int_eq (by unfold chk;simp only;(repeat' split)<;>omega)
  ·try simp at h2
   refine r_sr (p_fa fa_104_2 rfl rfl (p_ldc tc_3 rfl (by rfl) rfl ?_))
   refine p_lss rfl rfl rfl (p_mv rfl rfl (l_op (x_p (pv_fa fa_104_2 (.s rfl rfl rfl) rfl rfl gA) rfl rfl (l_op (x_r (q_ldc tc_3 (.s rfl rfl rfl) rfl rfl gA (by rfl)) rfl rfl ?_)))))
   refine l_op (x_p (pv_fa fa_104_0 (.s rfl rfl rfl) rfl rfl gA) rfl rfl (l_op (x_r (q_ldc tc_3 (.s rfl rfl rfl) rfl rfl gA (by rfl)) rfl rfl ?_)))
   refine l_op (x_p (pv_sub (by intro hg;simp at hg;omega) (.s rfl rfl rfl) rfl rfl rfl gB) rfl rfl ?_)
   refine l_op (x_p (pv_gtr (.s rfl rfl rfl) rfl rfl rfl gB) rfl rfl ?_)
   refine l_op (x_p (pv_or (.n rfl) rfl rfl rfl (fun _=>⟨rfl,fun hc=>by first|rfl|(rw[hc];rfl)|simp_all⟩)) rfl rfl ?_)
   refine p_as rfl rfl (o_keep (kp [2,23] rfl) (r_cond _ rfl (fun h3=>?_) (fun h3=>?_)))
   ·try simp at h3
    refine r_sr (p_as rfl rfl (o_keep (kp [2] rfl) ?_))
    refine r_retv hF rfl (.c (.t rfl) .n) ?_ ?_
    ·apply eI;repeat constructor
    ·exact int_eq (by unfold chk;simp only;(repeat' split)<;>omega)
   ·try simp at h3
    refine r_skip (r_end (r_sr (p_as rfl rfl (o_keep (kp [2] rfl) ?_))))
    refine r_retv hF rfl (.c (.t rfl) .n) ?_ ?_
    ·apply eI;repeat constructor
    ·exact int_eq (by unfold chk;simp only;(repeat' split)<;>omega)
theorem count_Delta (M:Amb)(H:List HP)(n:Int):FnV Tryz.prog M H 173 [.int .i64 n] (.int .i64 (dlt n)):=by
 refine fn_intro Tryz.func173 rfl Tryz.ntmps173 rfl fun F hF=>?_
 refine r_sr (p_as rfl rfl (o_keep (kp [0,2] rfl) (r_seq (r_block (r_sr (p_mv rfl rfl (p_eql rfl rfl rfl ?_)))))))
 refine p_as rfl rfl (o_keep (kp [0,2,3] rfl) (r_cond _ rfl (fun h1=>?_) (fun h1=>?_)))
 ·try simp at h1
  refine r_sr (p_as rfl rfl (o_keep (kp [2] rfl) ?_))
  refine r_retv hF rfl (.c (.t rfl) .n) ?_ ?_
  ·apply eI;repeat constructor
  ·exact int_eq (by unfold dlt;(repeat' split)<;>omega)
 ·try simp at h1
  refine r_sr (p_mv rfl rfl (p_lss rfl rfl rfl (p_mv rfl rfl (l_op (x_p (pv_mv (.s rfl rfl rfl) rfl rfl gA) rfl rfl ?_)))))
  refine l_op (x_p (pv_gtr (.s rfl rfl rfl) rfl rfl rfl gB) rfl rfl ?_)
  refine l_op (x_p (pv_or (.n rfl) rfl rfl rfl (fun _=>⟨rfl,fun hc=>by first|rfl|(rw[hc];rfl)|simp_all⟩)) rfl rfl ?_)
  refine p_as rfl rfl (o_keep (kp [2,6] rfl) (r_cond _ rfl (fun h2=>?_) (fun h2=>?_)))
  ·try simp at h2
   refine r_sr (p_as rfl rfl (o_keep (kp [2] rfl) ?_))
   refine r_retv hF rfl (.c (.t rfl) .n) ?_ ?_
   ·apply eI;repeat constructor
   ·exact int_eq (by unfold dlt;(repeat' split)<;>omega)
  ·try simp at h2
   refine r_skip (r_end (r_sr (p_as rfl rfl (o_keep (kp [2] rfl) ?_))))
   refine r_retv hF rfl (.c (.t rfl) .n) ?_ ?_
   ·apply eI;repeat constructor
   ·exact int_eq (by unfold dlt;(repeat' split)<;>omega)
theorem count_Hold (M:Amb)(H:List HP)(v o i n:Int):FnV Tryz.prog M H 183 [.agg #[.int .i64 v,.int .i64 o,.int .i64 i],.int .i64 n] (.tuple #[cntV (hold ⟨v,o,i⟩ n).1,.int .i64 (hold ⟨v,o,i⟩ n).2]):=by
 refine fn_intro Tryz.func183 rfl Tryz.ntmps183 rfl fun F hF=>?_
 refine r_sr (p_box rfl rfl rfl fun b2=>?_)
 refine p_alloc zr_104 rfl fun b4=>?_
 refine p_as rfl rfl (o_keep (kp [1,2,4,5] rfl) (r_seq (r_sr ?_)))
 refine p_lda ta_104 rfl (by exact (.s (.s (.s .z)))) rfl ?_
 refine p_callv cf_121 (.c rfl .n) rfl (count_Check _ _ _ _ _) ?_
 refine p_as rfl rfl (o_keep (kp [1,2,4,5,6] rfl) (r_sr (p_mv rfl rfl (p_neq rfl rfl rfl (o_keep (kp [1,2,4,5,6,11] rfl) (r_cond _ rfl (fun h1=>?_) (fun h1=>?_)))))))
 ·try simp at h1
  refine r_sr ?_
  refine p_build zr_104 pl_104 (.n) rfl ?_
  refine p_mv rfl rfl ?_
  refine p_store (.ofA ta_104) rfl rfl rfl rfl rfl (by repeat constructor) ?_
  refine p_as rfl rfl (o_keep (kp [1,2,4,5] rfl) ?_)
  refine r_retv hF rfl (.c (.a rfl ta_104 (.blk (SelB.ent) (.s (.s (.s .z)))) rfl) (.c (.t rfl) .n)) ?_ ?_
  ·apply eI;repeat constructor
  ·unfold hold;dsimp only;(repeat' split)<;>first|rfl|omega|(exfalso;omega)|simp_all
 ·try simp at h1
  refine r_skip (r_seq (r_sr (p_mv rfl rfl ?_)))
  refine p_callv cf_173 (.c rfl .n) rfl (count_Delta _ _ _) ?_
  refine p_as rfl rfl (o_keep (kp [1,2,4,5,7] rfl) (r_sr (p_mv rfl rfl (p_neq rfl rfl rfl (o_keep (kp [1,2,4,5,7,17] rfl) (r_cond _ rfl (fun h2=>?_) (fun h2=>?_)))))))
  ·try simp at h2
   first|(have hd:=dlt_ok ‹_›;have hc:=chk_ok ‹_›;simp only at hc)|skip
   refine r_sr ?_
   refine p_build zr_104 pl_104 (.n) rfl ?_
   refine p_mv rfl rfl ?_
   refine p_store (.ofA ta_104) rfl rfl rfl rfl rfl (by repeat constructor) ?_
   refine p_as rfl rfl (o_keep (kp [1,2,4,5] rfl) ?_)
   refine r_retv hF rfl (.c (.a rfl ta_104 (.blk (SelB.ent) (.s (.s (.s .z)))) rfl) (.c (.t rfl) .n)) ?_ ?_
   ·apply eI;repeat constructor
   ·unfold hold;dsimp only;(repeat' split)<;>first|rfl|omega|(exfalso;omega)|simp_all
  ·try simp at h2
   first|(have hd:=dlt_ok ‹_›;have hc:=chk_ok ‹_›;simp only at hc)|skip
   refine r_skip (r_seq (r_block (r_sr (p_mv rfl rfl (p_lss rfl rfl rfl (p_mv rfl rfl (l_op (x_p (pv_fa fa_104_0 (.s rfl rfl rfl) rfl rfl gA) rfl rfl ?_))))))))
   refine l_op (x_r (q_ldc tc_3 (.s rfl rfl rfl) rfl rfl gA (by rfl)) rfl rfl ?_)
   refine l_op (x_p (pv_fa fa_104_1 (.s rfl rfl rfl) rfl rfl gA) rfl rfl (l_op (x_r (q_ldc tc_3 (.s rfl rfl rfl) rfl rfl gA (by rfl)) rfl rfl ?_)))
   refine l_op (x_p (pv_sub (by intro hg;simp at hg;omega) (.s rfl rfl rfl) rfl rfl rfl gB) rfl rfl ?_)
   refine l_op (x_p (pv_mv (.s rfl rfl rfl) rfl rfl gA) rfl rfl ?_)
   refine l_op (x_p (pv_neg (by intro hg;simp at hg;omega) (.s rfl rfl rfl) rfl rfl gA) rfl rfl ?_)
   refine l_op (x_p (pv_lss (.s rfl rfl rfl) rfl rfl rfl gB) rfl rfl ?_)
   refine l_op (x_p (pv_and (.n rfl) rfl rfl rfl (fun _=>⟨rfl,fun hc=>by first|rfl|(rw[hc];rfl)|simp_all⟩)) rfl rfl ?_)
   refine p_as rfl rfl (o_keep (kp [1,2,4,5,25] rfl) (r_cond _ rfl (fun h3=>?_) (fun h3=>?_)))
   ·try simp at h3
    refine r_sr ?_
    refine p_build zr_104 pl_104 (.n) rfl ?_
    refine p_store (.ofA ta_104) rfl rfl rfl rfl rfl (by repeat constructor) ?_
    refine p_as rfl rfl (o_keep (kp [2,4,5] rfl) ?_)
    refine r_retv hF rfl (.c (.a rfl ta_104 (.blk (SelB.ent) (.s (.s (.s .z)))) rfl) (.c (.t rfl) .n)) ?_ ?_
    ·apply eI;repeat constructor
    ·unfold hold;dsimp only;(repeat' split)<;>first|rfl|omega|(exfalso;omega)|simp_all
   ·try simp at h3
    refine r_sr (p_mv rfl rfl (p_lss rfl rfl rfl (p_as rfl rfl (o_keep (kp [1,2,4,5,39] rfl) (r_cond _ rfl (fun h4=>?_) (fun h4=>?_))))))
    ·try simp at h4
     refine r_region (p_fa fa_104_1 rfl rfl (p_ldc tc_3 rfl (by rfl) rfl ?_))
     refine p_mv rfl rfl (p_sub rfl rfl (by omega) rfl (p_fa fa_104_1 rfl rfl ?_))
     refine p_store (.ofC tc_3) rfl rfl rfl rfl rfl (by repeat constructor) ?_
     refine o_keep (kp [2,4,5] rfl) (r_end (r_sr ?_))
     refine p_lda ta_104 rfl (by exact (.s (.s (.s .z)))) rfl ?_
     refine p_store (.ofA ta_104) rfl rfl rfl rfl rfl (by repeat constructor) ?_
     refine p_as rfl rfl (o_keep (kp [4,5] rfl) ?_)
     refine r_retv hF rfl (.c (.a rfl ta_104 (.blk (SelB.ent) (.s (.s (.s .z)))) rfl) (.c (.t rfl) .n)) ?_ ?_
     ·apply eI;repeat constructor
     ·unfold hold;dsimp only;(repeat' split)<;>first|rfl|omega|(exfalso;omega)|simp_all
    ·try simp at h4
     refine r_sr (p_fa fa_104_0 rfl rfl (p_ldc tc_3 rfl (by rfl) rfl ?_))
     refine p_fa fa_104_2 rfl rfl (p_ldc tc_3 rfl (by rfl) rfl ?_)
     refine p_add rfl rfl (by omega) rfl (p_mv rfl rfl (p_add rfl rfl (by omega) rfl (p_gtr rfl rfl rfl (p_as rfl rfl (o_keep (kp [1,2,4,5,47] rfl) (r_cond _ rfl (fun h5=>?_) (fun h5=>?_)))))))
     ·try simp at h5
      refine r_sr ?_
      refine p_build zr_104 pl_104 (.n) rfl ?_
      refine p_store (.ofA ta_104) rfl rfl rfl rfl rfl (by repeat constructor) ?_
      refine p_as rfl rfl (o_keep (kp [2,4,5] rfl) ?_)
      refine r_retv hF rfl (.c (.a rfl ta_104 (.blk (SelB.ent) (.s (.s (.s .z)))) rfl) (.c (.t rfl) .n)) ?_ ?_
      ·apply eI;repeat constructor
      ·unfold hold;dsimp only;(repeat' split)<;>first|rfl|omega|(exfalso;omega)|simp_all
     ·try simp at h5
      refine r_region (p_fa fa_104_2 rfl rfl (p_ldc tc_3 rfl (by rfl) rfl ?_))
      refine p_mv rfl rfl (p_add rfl rfl (by omega) rfl (p_fa fa_104_2 rfl rfl ?_))
      refine p_store (.ofC tc_3) rfl rfl rfl rfl rfl (by repeat constructor) ?_
      refine o_keep (kp [2,4,5] rfl) (r_end (r_sr ?_))
      refine p_lda ta_104 rfl (by exact (.s (.s (.s .z)))) rfl ?_
      refine p_store (.ofA ta_104) rfl rfl rfl rfl rfl (by repeat constructor) ?_
      refine p_as rfl rfl (o_keep (kp [4,5] rfl) ?_)
      refine r_retv hF rfl (.c (.a rfl ta_104 (.blk (SelB.ent) (.s (.s (.s .z)))) rfl) (.c (.t rfl) .n)) ?_ ?_
      ·apply eI;repeat constructor
      ·unfold hold;dsimp only;(repeat' split)<;>first|rfl|omega|(exfalso;omega)|simp_all
theorem count_End (M:Amb)(H:List HP)(v o i n:Int)(d:Bool):FnV Tryz.prog M H 184 [.agg #[.int .i64 v,.int .i64 o,.int .i64 i],.int .i64 n,.bool d] (.tuple #[cntV (endc ⟨v,o,i⟩ n d).1,.int .i64 (endc ⟨v,o,i⟩ n d).2]):=by
 refine fn_intro Tryz.func184 rfl Tryz.ntmps184 rfl fun F hF=>?_
 refine r_sr (p_box rfl rfl rfl fun b3=>?_)
 refine p_alloc zr_104 rfl fun b6=>?_
 refine p_as rfl rfl (o_keep (kp [1,2,3,6,7] rfl) (r_seq (r_sr ?_)))
 refine p_lda ta_104 rfl (by exact (.s (.s (.s .z)))) rfl ?_
 refine p_callv cf_121 (.c rfl .n) rfl (count_Check _ _ _ _ _) ?_
 refine p_as rfl rfl (o_keep (kp [1,2,3,6,7,8] rfl) (r_sr (p_mv rfl rfl (p_neq rfl rfl rfl (o_keep (kp [1,2,3,6,7,8,13] rfl) (r_cond _ rfl (fun h1=>?_) (fun h1=>?_)))))))
 ·try simp at h1
  first|(have hd:=dlt_ok ‹_›;have hc:=chk_ok ‹_›;simp only at hc)|skip
  refine r_sr ?_
  refine p_build zr_104 pl_104 (.n) rfl ?_
  refine p_mv rfl rfl ?_
  refine p_store (.ofA ta_104) rfl rfl rfl rfl rfl (by repeat constructor) ?_
  refine p_as rfl rfl (o_keep (kp [1,2,3,6,7] rfl) ?_)
  refine r_retv hF rfl (.c (.a rfl ta_104 (.blk (SelB.ent) (.s (.s (.s .z)))) rfl) (.c (.t rfl) .n)) ?_ ?_
  ·apply eI;repeat constructor
  ·unfold endc;dsimp only;(repeat' split)<;>first|rfl|omega|(exfalso;omega)|simp_all
 ·try simp at h1
  first|(have hd:=dlt_ok ‹_›;have hc:=chk_ok ‹_›;simp only at hc)|skip
  refine r_skip (r_seq (r_sr (p_mv rfl rfl ?_)))
  refine p_callv cf_173 (.c rfl .n) rfl (count_Delta _ _ _) ?_
  refine p_as rfl rfl (o_keep (kp [1,2,3,6,7,9] rfl) (r_sr (p_mv rfl rfl (p_neq rfl rfl rfl (o_keep (kp [1,2,3,6,7,9,19] rfl) (r_cond _ rfl (fun h2=>?_) (fun h2=>?_)))))))
  ·try simp at h2
   first|(have hd:=dlt_ok ‹_›;have hc:=chk_ok ‹_›;simp only at hc)|skip
   refine r_sr ?_
   refine p_build zr_104 pl_104 (.n) rfl ?_
   refine p_mv rfl rfl ?_
   refine p_store (.ofA ta_104) rfl rfl rfl rfl rfl (by repeat constructor) ?_
   refine p_as rfl rfl (o_keep (kp [1,2,3,6,7] rfl) ?_)
   refine r_retv hF rfl (.c (.a rfl ta_104 (.blk (SelB.ent) (.s (.s (.s .z)))) rfl) (.c (.t rfl) .n)) ?_ ?_
   ·apply eI;repeat constructor
   ·unfold endc;dsimp only;(repeat' split)<;>first|rfl|omega|(exfalso;omega)|simp_all
  ·try simp at h2
   first|(have hd:=dlt_ok ‹_›;have hc:=chk_ok ‹_›;simp only at hc)|skip
   refine r_skip (r_seq (r_block (r_sr (p_mv rfl rfl (p_lss rfl rfl rfl (p_mv rfl rfl (l_op (x_p (pv_fa fa_104_1 (.s rfl rfl rfl) rfl rfl gA) rfl rfl ?_))))))))
   refine l_op (x_r (q_ldc tc_3 (.s rfl rfl rfl) rfl rfl gA (by rfl)) rfl rfl ?_)
   refine l_op (x_p (pv_mv (.s rfl rfl rfl) rfl rfl gA) rfl rfl ?_)
   refine l_op (x_p (pv_neg (by intro hg;simp at hg;omega) (.s rfl rfl rfl) rfl rfl gA) rfl rfl ?_)
   refine l_op (x_p (pv_lss (.s rfl rfl rfl) rfl rfl rfl gB) rfl rfl ?_)
   refine l_op (x_p (pv_and (.n rfl) rfl rfl rfl (fun _=>⟨rfl,fun hc=>by first|rfl|(rw[hc];rfl)|simp_all⟩)) rfl rfl ?_)
   refine p_mv rfl rfl (l_op (x_p (pv_mv (.s rfl rfl rfl) rfl rfl gA) rfl rfl ?_))
   refine l_op (x_p (pv_gtr (.s rfl rfl rfl) rfl rfl rfl gB) rfl rfl ?_)
   refine l_op (x_p (pv_mv (.s rfl rfl rfl) rfl rfl gA) rfl rfl (l_op (x_p (pv_fa fa_104_2 (.s rfl rfl rfl) rfl rfl gA) rfl rfl ?_)))
   refine l_op (x_r (q_ldc tc_3 (.s rfl rfl rfl) rfl rfl gA (by rfl)) rfl rfl ?_)
   refine l_op (x_p (pv_mv (.s rfl rfl rfl) rfl rfl gA) rfl rfl ?_)
   refine l_op (x_p (pv_lss (.s rfl rfl rfl) rfl rfl rfl gB) rfl rfl ?_)
   refine l_op (x_p (pv_and (.s rfl rfl rfl) rfl rfl rfl (by intro hg;refine⟨?_,fun hc=>?_⟩<;>first|rfl|(rw[hc];rfl)|simp_all)) rfl rfl ?_)
   refine l_op (x_p (pv_or (.n rfl) rfl rfl rfl (fun _=>⟨rfl,fun hc=>by first|rfl|(rw[hc];rfl)|simp_all⟩)) rfl rfl ?_)
   refine p_as rfl rfl (o_keep (kp [1,2,3,6,7,27] rfl) (r_cond _ rfl (fun h3=>?_) (fun h3=>?_)))
   ·try simp at h3
    first|(have hd:=dlt_ok ‹_›;have hc:=chk_ok ‹_›;simp only at hc)|skip
    refine r_sr ?_
    refine p_build zr_104 pl_104 (.n) rfl ?_
    refine p_store (.ofA ta_104) rfl rfl rfl rfl rfl (by repeat constructor) ?_
    refine p_as rfl rfl (o_keep (kp [1,2,3,6,7] rfl) ?_)
    refine r_retv hF rfl (.c (.a rfl ta_104 (.blk (SelB.ent) (.s (.s (.s .z)))) rfl) (.c (.t rfl) .n)) ?_ ?_
    ·apply eI;repeat constructor
    ·unfold endc;dsimp only;(repeat' split)<;>first|rfl|omega|(exfalso;omega)|simp_all
   ·try simp at h3
    first|(have hd:=dlt_ok ‹_›;have hc:=chk_ok ‹_›;simp only at hc)|skip
    refine r_sr (p_mv rfl rfl (p_lss rfl rfl rfl (p_as rfl rfl (o_keep (kp [1,2,3,6,7,48] rfl) (r_cond _ rfl (fun h4=>?_) (fun h4=>?_))))))
    ·try simp at h4
     first|(have hd:=dlt_ok ‹_›;have hc:=chk_ok ‹_›;simp only at hc)|skip
     refine r_region (p_fa fa_104_1 rfl rfl (p_ldc tc_3 rfl (by rfl) rfl ?_))
     refine p_mv rfl rfl (p_add rfl rfl (by omega) rfl (p_fa fa_104_1 rfl rfl ?_))
     refine p_store (.ofC tc_3) rfl rfl rfl rfl rfl (by repeat constructor) ?_
     refine o_keep (kp [1,2,3,6,7] rfl) (r_end (r_seq (r_sr (p_mv rfl rfl (o_keep (kp [1,3,6,7,56] rfl) (r_cond _ rfl (fun h5=>?_) (fun h5=>?_)))))))
     ·try simp at h5
      first|(have hd:=dlt_ok ‹_›;have hc:=chk_ok ‹_›;simp only at hc)|skip
      refine r_region (p_fa fa_104_0 rfl rfl (p_ldc tc_3 rfl (by rfl) rfl ?_))
      refine p_mv rfl rfl (p_add rfl rfl (by omega) rfl (p_fa fa_104_0 rfl rfl ?_))
      refine p_store (.ofC tc_3) rfl rfl rfl rfl rfl (by repeat constructor) ?_
      refine o_keep (kp [3,6,7] rfl) (r_sr ?_)
      refine p_lda ta_104 rfl (by exact (.s (.s (.s .z)))) rfl ?_
      refine p_store (.ofA ta_104) rfl rfl rfl rfl rfl (by repeat constructor) ?_
      refine p_as rfl rfl (o_keep (kp [6,7] rfl) ?_)
      refine r_retv hF rfl (.c (.a rfl ta_104 (.blk (SelB.ent) (.s (.s (.s .z)))) rfl) (.c (.t rfl) .n)) ?_ ?_
      ·apply eI;repeat constructor
      ·unfold endc;dsimp only;(repeat' split)<;>first|rfl|omega|(exfalso;omega)|simp_all
     ·try simp at h5
      first|(have hd:=dlt_ok ‹_›;have hc:=chk_ok ‹_›;simp only at hc)|skip
      refine r_skip (r_sr ?_)
      refine p_lda ta_104 rfl (by exact (.s (.s (.s .z)))) rfl ?_
      refine p_store (.ofA ta_104) rfl rfl rfl rfl rfl (by repeat constructor) ?_
      refine p_as rfl rfl (o_keep (kp [6,7] rfl) ?_)
      refine r_retv hF rfl (.c (.a rfl ta_104 (.blk (SelB.ent) (.s (.s (.s .z)))) rfl) (.c (.t rfl) .n)) ?_ ?_
      ·apply eI;repeat constructor
      ·unfold endc;dsimp only;(repeat' split)<;>first|rfl|omega|(exfalso;omega)|simp_all
    ·try simp at h4
     first|(have hd:=dlt_ok ‹_›;have hc:=chk_ok ‹_›;simp only at hc)|skip
     refine r_region (p_fa fa_104_2 rfl rfl (p_ldc tc_3 rfl (by rfl) rfl ?_))
     refine p_mv rfl rfl (p_sub rfl rfl (by omega) rfl (p_fa fa_104_2 rfl rfl ?_))
     refine p_store (.ofC tc_3) rfl rfl rfl rfl rfl (by repeat constructor) ?_
     refine o_keep (kp [1,2,3,6,7] rfl) (r_end (r_seq (r_sr (p_mv rfl rfl (o_keep (kp [1,3,6,7,56] rfl) (r_cond _ rfl (fun h6=>?_) (fun h6=>?_)))))))
     ·try simp at h6
      first|(have hd:=dlt_ok ‹_›;have hc:=chk_ok ‹_›;simp only at hc)|skip
      refine r_region (p_fa fa_104_0 rfl rfl (p_ldc tc_3 rfl (by rfl) rfl ?_))
      refine p_mv rfl rfl (p_add rfl rfl (by omega) rfl (p_fa fa_104_0 rfl rfl ?_))
      refine p_store (.ofC tc_3) rfl rfl rfl rfl rfl (by repeat constructor) ?_
      refine o_keep (kp [3,6,7] rfl) (r_sr ?_)
      refine p_lda ta_104 rfl (by exact (.s (.s (.s .z)))) rfl ?_
      refine p_store (.ofA ta_104) rfl rfl rfl rfl rfl (by repeat constructor) ?_
      refine p_as rfl rfl (o_keep (kp [6,7] rfl) ?_)
      refine r_retv hF rfl (.c (.a rfl ta_104 (.blk (SelB.ent) (.s (.s (.s .z)))) rfl) (.c (.t rfl) .n)) ?_ ?_
      ·apply eI;repeat constructor
      ·unfold endc;dsimp only;(repeat' split)<;>first|rfl|omega|(exfalso;omega)|simp_all
     ·try simp at h6
      first|(have hd:=dlt_ok ‹_›;have hc:=chk_ok ‹_›;simp only at hc)|skip
      refine r_skip (r_sr ?_)
      refine p_lda ta_104 rfl (by exact (.s (.s (.s .z)))) rfl ?_
      refine p_store (.ofA ta_104) rfl rfl rfl rfl rfl (by repeat constructor) ?_
      refine p_as rfl rfl (o_keep (kp [6,7] rfl) ?_)
      refine r_retv hF rfl (.c (.a rfl ta_104 (.blk (SelB.ent) (.s (.s (.s .z)))) rfl) (.c (.t rfl) .n)) ?_ ?_
      ·apply eI;repeat constructor
      ·unfold endc;dsimp only;(repeat' split)<;>first|rfl|omega|(exfalso;omega)|simp_all
theorem ref_CountFault (M:Amb)(H:List HP)(v o i:Int):FnV Tryz.prog M H 179 [.agg #[.int .i64 v,.int .i64 o,.int .i64 i]] (.int .i64 (chk ⟨v,o,i⟩)):=by
 refine fn_intro Tryz.func179 rfl Tryz.ntmps179 rfl fun F hF=>?_
 refine r_sr (p_box rfl rfl rfl fun b1=>?_)
 refine p_as rfl rfl (o_keep (kp [1,2] rfl) (r_seq (r_sr (p_fa fa_104_0 rfl rfl (p_ldc tc_3 rfl (by rfl) rfl ?_)))))
 refine p_lss rfl rfl rfl (p_mv rfl rfl (l_op (x_p (pv_fa fa_104_0 (.s rfl rfl rfl) rfl rfl gA) rfl rfl (l_op (x_r (q_ldc tc_3 (.s rfl rfl rfl) rfl rfl gA (by rfl)) rfl rfl ?_)))))
 refine l_op (x_p (pv_gtr (.s rfl rfl rfl) rfl rfl rfl gB) rfl rfl ?_)
 refine l_op (x_p (pv_or (.n rfl) rfl rfl rfl (fun _=>⟨rfl,fun hc=>by first|rfl|(rw[hc];rfl)|simp_all⟩)) rfl rfl ?_)
 refine o_keep (kp [1,2,10] rfl) (r_cond _ rfl (fun h1=>?_) (fun h1=>?_))
 ·try simp at h1
  refine r_sr (p_as rfl rfl (o_keep (kp [1,2] rfl) ?_))
  refine r_retv hF rfl (.c (.t rfl) .n) ?_ ?_
  ·apply eI;repeat constructor
  ·exact int_eq (by unfold chk;simp only;(repeat' split)<;>omega)
 ·try simp at h1
  refine r_skip (r_seq (r_sr (p_fa fa_104_1 rfl rfl (p_ldc tc_3 rfl (by rfl) rfl ?_))))
  refine p_lss rfl rfl rfl (p_mv rfl rfl (l_op (x_p (pv_fa fa_104_1 (.s rfl rfl rfl) rfl rfl gA) rfl rfl (l_op (x_r (q_ldc tc_3 (.s rfl rfl rfl) rfl rfl gA (by rfl)) rfl rfl ?_)))))
  refine l_op (x_p (pv_fa fa_104_0 (.s rfl rfl rfl) rfl rfl gA) rfl rfl (l_op (x_r (q_ldc tc_3 (.s rfl rfl rfl) rfl rfl gA (by rfl)) rfl rfl ?_)))
  refine l_op (x_p (pv_gtr (.s rfl rfl rfl) rfl rfl rfl gB) rfl rfl ?_)
  refine l_op (x_p (pv_or (.n rfl) rfl rfl rfl (fun _=>⟨rfl,fun hc=>by first|rfl|(rw[hc];rfl)|simp_all⟩)) rfl rfl ?_)
  refine o_keep (kp [1,2,20] rfl) (r_cond _ rfl (fun h2=>?_) (fun h2=>?_))
  ·try simp at h2
   refine r_sr (p_as rfl rfl (o_keep (kp [1,2] rfl) ?_))
   refine r_retv hF rfl (.c (.t rfl) .n) ?_ ?_
   ·apply eI;repeat constructor
   ·exact int_eq (by unfold chk;simp only;(repeat' split)<;>omega)
  ·try simp at h2
   refine r_skip (r_seq (r_sr (p_fa fa_104_2 rfl rfl (p_ldc tc_3 rfl (by rfl) rfl ?_))))
   refine p_lss rfl rfl rfl (p_mv rfl rfl (l_op (x_p (pv_fa fa_104_2 (.s rfl rfl rfl) rfl rfl gA) rfl rfl (l_op (x_r (q_ldc tc_3 (.s rfl rfl rfl) rfl rfl gA (by rfl)) rfl rfl ?_)))))
   refine l_op (x_p (pv_gtr (.s rfl rfl rfl) rfl rfl rfl gB) rfl rfl ?_)
   refine l_op (x_p (pv_or (.n rfl) rfl rfl rfl (fun _=>⟨rfl,fun hc=>by first|rfl|(rw[hc];rfl)|simp_all⟩)) rfl rfl ?_)
   refine p_mv rfl rfl (l_op (x_p (pv_fa fa_104_0 (.s rfl rfl rfl) rfl rfl gA) rfl rfl (l_op (x_r (q_ldc tc_3 (.s rfl rfl rfl) rfl rfl gA (by rfl)) rfl rfl ?_))))
   refine l_op (x_p (pv_fa fa_104_2 (.s rfl rfl rfl) rfl rfl gA) rfl rfl (l_op (x_r (q_ldc tc_3 (.s rfl rfl rfl) rfl rfl gA (by rfl)) rfl rfl ?_)))
   refine l_op (x_p (pv_add (by intro hg;simp at hg;omega) (.s rfl rfl rfl) rfl rfl rfl gB) rfl rfl ?_)
   refine l_op (x_p (pv_gtr (.s rfl rfl rfl) rfl rfl rfl gB) rfl rfl ?_)
   refine l_op (x_p (pv_or (.n rfl) rfl rfl rfl (fun _=>⟨rfl,fun hc=>by first|rfl|(rw[hc];rfl)|simp_all⟩)) rfl rfl ?_)
   refine o_keep (kp [2,36] rfl) (r_cond _ rfl (fun h3=>?_) (fun h3=>?_))
   ·try simp at h3
    refine r_sr (p_as rfl rfl (o_keep (kp [2] rfl) ?_))
    refine r_retv hF rfl (.c (.t rfl) .n) ?_ ?_
    ·apply eI;repeat constructor
    ·exact int_eq (by unfold chk;simp only;(repeat' split)<;>omega)
   ·try simp at h3
    refine r_skip (r_sr (p_as rfl rfl (o_keep (kp [2] rfl) ?_)))
    refine r_retv hF rfl (.c (.t rfl) .n) ?_ ?_
    ·apply eI;repeat constructor
    ·exact int_eq (by unfold chk;simp only;(repeat' split)<;>omega)
theorem ref_DeltaFault (M:Amb)(H:List HP)(n:Int):FnV Tryz.prog M H 165 [.int .i64 n] (.int .i64 (dlt n)):=by
 refine fn_intro Tryz.func165 rfl Tryz.ntmps165 rfl fun F hF=>?_
 refine r_sr (p_as rfl rfl (o_keep (kp [0,2] rfl) (r_seq (r_sr (p_mv rfl rfl (p_eql rfl rfl rfl (o_keep (kp [0,2,4] rfl) ?_)))))))
 refine r_cond _ rfl (fun h1=>?_) (fun h1=>?_)
 ·try simp at h1
  refine r_sr (p_as rfl rfl (o_keep (kp [0,2] rfl) ?_))
  refine r_retv hF rfl (.c (.t rfl) .n) ?_ ?_
  ·apply eI;repeat constructor
  ·exact int_eq (by unfold dlt;(repeat' split)<;>omega)
 ·try simp at h1
  refine r_skip (r_seq (r_sr (p_mv rfl rfl (p_gtr rfl rfl rfl (p_mv rfl rfl (l_op (x_p (pv_mv (.s rfl rfl rfl) rfl rfl gA) rfl rfl ?_)))))))
  refine l_op (x_p (pv_lss (.s rfl rfl rfl) rfl rfl rfl gB) rfl rfl ?_)
  refine l_op (x_p (pv_or (.n rfl) rfl rfl rfl (fun _=>⟨rfl,fun hc=>by first|rfl|(rw[hc];rfl)|simp_all⟩)) rfl rfl ?_)
  refine o_keep (kp [2,10] rfl) (r_cond _ rfl (fun h2=>?_) (fun h2=>?_))
  ·try simp at h2
   refine r_sr (p_as rfl rfl (o_keep (kp [2] rfl) ?_))
   refine r_retv hF rfl (.c (.t rfl) .n) ?_ ?_
   ·apply eI;repeat constructor
   ·exact int_eq (by unfold dlt;(repeat' split)<;>omega)
  ·try simp at h2
   refine r_skip (r_sr (p_as rfl rfl (o_keep (kp [2] rfl) ?_)))
   refine r_retv hF rfl (.c (.t rfl) .n) ?_ ?_
   ·apply eI;repeat constructor
   ·exact int_eq (by unfold dlt;(repeat' split)<;>omega)
theorem ref_Held (M:Amb)(H:List HP)(v o i n:Int):FnV Tryz.prog M H 167 [.agg #[.int .i64 v,.int .i64 o,.int .i64 i],.int .i64 n] (.tuple #[cntV (hold ⟨v,o,i⟩ n).1,.int .i64 (hold ⟨v,o,i⟩ n).2]):=by
 refine fn_intro Tryz.func167 rfl Tryz.ntmps167 rfl fun F hF=>?_
 refine r_sr (p_box rfl rfl rfl fun b2=>?_)
 refine p_alloc zr_104 rfl fun b4=>?_
 refine p_as rfl rfl (o_keep (kp [1,2,4,5] rfl) (r_seq (r_sr ?_)))
 refine p_lda ta_104 rfl (by exact (.s (.s (.s .z)))) rfl ?_
 refine p_callv cf_179 (.c rfl .n) rfl (ref_CountFault _ _ _ _ _) ?_
 refine p_as rfl rfl (o_keep (kp [1,2,4,5,6] rfl) (r_sr (p_mv rfl rfl (p_neq rfl rfl rfl (o_keep (kp [1,2,4,5,6,11] rfl) (r_cond _ rfl (fun h1=>?_) (fun h1=>?_)))))))
 ·try simp at h1
  refine r_sr ?_
  refine p_build zr_104 pl_104 (.n) rfl ?_
  refine p_mv rfl rfl ?_
  refine p_store (.ofA ta_104) rfl rfl rfl rfl rfl (by repeat constructor) ?_
  refine p_as rfl rfl (o_keep (kp [1,2,4,5] rfl) ?_)
  refine r_retv hF rfl (.c (.a rfl ta_104 (.blk (SelB.ent) (.s (.s (.s .z)))) rfl) (.c (.t rfl) .n)) ?_ ?_
  ·apply eI;repeat constructor
  ·unfold hold;dsimp only;(repeat' split)<;>first|rfl|omega|(exfalso;omega)|simp_all
 ·try simp at h1
  refine r_skip (r_seq (r_sr (p_mv rfl rfl ?_)))
  refine p_callv cf_165 (.c rfl .n) rfl (ref_DeltaFault _ _ _) ?_
  refine p_as rfl rfl (o_keep (kp [1,2,4,5,7] rfl) (r_sr (p_mv rfl rfl (p_neq rfl rfl rfl (o_keep (kp [1,2,4,5,7,17] rfl) (r_cond _ rfl (fun h2=>?_) (fun h2=>?_)))))))
  ·try simp at h2
   first|(have hd:=dlt_ok ‹_›;have hc:=chk_ok ‹_›;simp only at hc)|skip
   refine r_sr ?_
   refine p_build zr_104 pl_104 (.n) rfl ?_
   refine p_mv rfl rfl ?_
   refine p_store (.ofA ta_104) rfl rfl rfl rfl rfl (by repeat constructor) ?_
   refine p_as rfl rfl (o_keep (kp [1,2,4,5] rfl) ?_)
   refine r_retv hF rfl (.c (.a rfl ta_104 (.blk (SelB.ent) (.s (.s (.s .z)))) rfl) (.c (.t rfl) .n)) ?_ ?_
   ·apply eI;repeat constructor
   ·unfold hold;dsimp only;(repeat' split)<;>first|rfl|omega|(exfalso;omega)|simp_all
  ·try simp at h2
   first|(have hd:=dlt_ok ‹_›;have hc:=chk_ok ‹_›;simp only at hc)|skip
   refine r_skip (r_seq (r_sr (p_mv rfl rfl (p_lss rfl rfl rfl (o_keep (kp [1,2,4,5,21] rfl) (r_cond _ rfl (fun h3=>?_) (fun h3=>?_)))))))
   ·try simp at h3
    refine r_sr (p_fa fa_104_1 rfl rfl (p_ldc tc_3 rfl (by rfl) rfl ?_))
    refine p_mv rfl rfl (p_sub rfl rfl (by omega) rfl (p_fa fa_104_1 rfl rfl ?_))
    refine p_store (.ofC tc_3) rfl rfl rfl rfl rfl (by repeat constructor) ?_
    refine o_keep (kp [1,2,4,5] rfl) (r_seq (r_sr (p_fa fa_104_1 rfl rfl (p_ldc tc_3 rfl (by rfl) rfl ?_))))
    refine p_fa fa_104_0 rfl rfl (p_ldc tc_3 rfl (by rfl) rfl ?_)
    refine p_gtr rfl rfl rfl (o_keep (kp [1,2,4,5,31] rfl) (r_cond _ rfl (fun h4=>?_) (fun h4=>?_)))
    ·try simp at h4
     refine r_sr ?_
     refine p_build zr_104 pl_104 (.n) rfl ?_
     refine p_store (.ofA ta_104) rfl rfl rfl rfl rfl (by repeat constructor) ?_
     refine p_as rfl rfl (o_keep (kp [1,2,4,5] rfl) ?_)
     refine r_retv hF rfl (.c (.a rfl ta_104 (.blk (SelB.ent) (.s (.s (.s .z)))) rfl) (.c (.t rfl) .n)) ?_ ?_
     ·apply eI;repeat constructor
     ·unfold hold;dsimp only;(repeat' split)<;>first|rfl|omega|(exfalso;omega)|simp_all
    ·try simp at h4
     refine r_skip (r_sr ?_)
     refine p_lda ta_104 rfl (by exact (.s (.s (.s .z)))) rfl ?_
     refine p_store (.ofA ta_104) rfl rfl rfl rfl rfl (by repeat constructor) ?_
     refine p_as rfl rfl (o_keep (kp [1,2,4,5] rfl) ?_)
     refine r_retv hF rfl (.c (.a rfl ta_104 (.blk (SelB.ent) (.s (.s (.s .z)))) rfl) (.c (.t rfl) .n)) ?_ ?_
     ·apply eI;repeat constructor
     ·unfold hold;dsimp only;(repeat' split)<;>first|rfl|omega|(exfalso;omega)|simp_all
   ·try simp at h3
    refine r_skip (r_sr (p_fa fa_104_2 rfl rfl (p_ldc tc_3 rfl (by rfl) rfl ?_)))
    refine p_mv rfl rfl (p_add rfl rfl (by omega) rfl (p_fa fa_104_2 rfl rfl ?_))
    refine p_store (.ofC tc_3) rfl rfl rfl rfl rfl (by repeat constructor) ?_
    refine o_keep (kp [2,4,5] rfl) (r_seq (r_sr (p_fa fa_104_0 rfl rfl (p_ldc tc_3 rfl (by rfl) rfl ?_))))
    refine p_fa fa_104_2 rfl rfl (p_ldc tc_3 rfl (by rfl) rfl ?_)
    refine p_add rfl rfl (by omega) rfl (p_gtr rfl rfl rfl (o_keep (kp [2,4,5,44] rfl) (r_cond _ rfl (fun h5=>?_) (fun h5=>?_))))
    ·try simp at h5
     refine r_sr ?_
     refine p_build zr_104 pl_104 (.n) rfl ?_
     refine p_store (.ofA ta_104) rfl rfl rfl rfl rfl (by repeat constructor) ?_
     refine p_as rfl rfl (o_keep (kp [2,4,5] rfl) ?_)
     refine r_retv hF rfl (.c (.a rfl ta_104 (.blk (SelB.ent) (.s (.s (.s .z)))) rfl) (.c (.t rfl) .n)) ?_ ?_
     ·apply eI;repeat constructor
     ·unfold hold;dsimp only;(repeat' split)<;>first|rfl|omega|(exfalso;omega)|simp_all
    ·try simp at h5
     refine r_skip (r_sr ?_)
     refine p_lda ta_104 rfl (by exact (.s (.s (.s .z)))) rfl ?_
     refine p_store (.ofA ta_104) rfl rfl rfl rfl rfl (by repeat constructor) ?_
     refine p_as rfl rfl (o_keep (kp [4,5] rfl) ?_)
     refine r_retv hF rfl (.c (.a rfl ta_104 (.blk (SelB.ent) (.s (.s (.s .z)))) rfl) (.c (.t rfl) .n)) ?_ ?_
     ·apply eI;repeat constructor
     ·unfold hold;dsimp only;(repeat' split)<;>first|rfl|omega|(exfalso;omega)|simp_all
end Go.Proofs.YtmakdilmibjpbaaGreatDoor
