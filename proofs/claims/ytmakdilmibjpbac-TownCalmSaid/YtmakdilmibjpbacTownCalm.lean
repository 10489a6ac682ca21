/- The walks of TownCalm: written by a program of ours (gen.py) over the engine. -/
import Derived.Test.YtmakdilmibjpbacPlain
import Derived.Test.YtmakdilmibjpbacFacts
import Derived.Test.YtmakdilmibjpbacTownW
namespace Go.Proofs.Ytmakdilmibjpbac
open Go Go.RowKit
set_option linter.unusedVariables false
set_option linter.unusedSimpArgs false
set_option maxRecDepth 20000

theorem law_TownCalm (M : Amb) (H : List HP) (ws : List Int) (hws : ws.length = 6) (xs : List TStep) (sv : Value) (hs : Rd M [] sv 3 (xs.map rTS)) (hx : ∀ x ∈ xs, Rd M [] x.wv 2 (x.wants.map rW)) (ys : List TStep) (sy : Value) (hys : Rd M [] sy 3 (ys.map rTS)) (hy : ∀ x ∈ ys, Rd M [] x.wv 2 (x.wants.map rW)) : FnV Try.prog M H 8 [.agg (ws.map vI).toArray, sv, sy] (.bool true) := by
  refine fn_intro Try.func8 rfl Try.ntmps8 rfl fun F hF => ?_
  refine r_seq ?_
  refine r_region ?_
  refine p_box rfl rfl rfl fun b3 => ?_
  refine p_as rfl rfl ?_
  refine o_keep (.c 1 rfl (.c 2 rfl (.c 3 rfl (.c 6 rfl .n)))) ?_
  refine r_seq ?_
  refine r_seq ?_
  refine r_region ?_
  refine p_callv cf_27 (.n) rfl (law_townBegun _ _) ?_
  refine p_not rfl rfl ?_
  refine o_keep (.c 1 rfl (.c 2 rfl (.c 3 rfl (.c 6 rfl (.c 13 rfl .n))))) ?_
  refine r_cond _ rfl (fun h1 => ?_) (fun h1 => ?_)
  · simp at h1
  · skip
    refine r_skip ?_
    refine r_seq ?_
    refine r_seq ?_
    refine r_region ?_
    refine p_mv rfl rfl ?_
    refine p_callv cf_28 (.c rfl .n) rfl ((law_great _ xs sv hs hx).q) ?_
    refine p_mv rfl rfl ?_
    refine l_op (x_p (pv_mv (.s rfl rfl rfl) rfl rfl (by first | exact fun _ => rfl | exact id | exact fun h => (Bool.and_eq_true_iff.1 h).1 | simp_all)) rfl rfl ?_)
    refine l_op (x_q (rq_call cf_28 (.s rfl rfl rfl) rfl (.c rfl (by first | exact fun _ => rfl | exact id | exact fun h => (Bool.and_eq_true_iff.1 h).1 | simp_all) .n) (fun hg => (law_great _ ys sy hys hy).q)) rfl rfl ?_)
    refine l_op (x_p (pv_or (.n rfl) rfl rfl rfl (fun _ => ⟨rfl, fun hc => by first | rfl | (rw [hc]; rfl) | simp_all⟩)) rfl rfl ?_)
    refine o_keep (.c 1 rfl (.c 2 rfl (.c 3 rfl (.c 6 rfl (.c 19 rfl .n))))) ?_
    refine r_cond _ rfl (fun h2 => ?_) (fun h2 => ?_)
    · skip
      refine r_seq ?_
      refine r_region ?_
      refine p_as rfl rfl ?_
      refine o_keep (.c 1 rfl (.c 2 rfl (.c 3 rfl (.c 6 rfl .n)))) ?_
      refine r_retv hF rfl (.c (.t rfl) .n) ?_ ?_
      · first | exact Ent.rfl | (repeat (first | exact Ent.rfl | refine Ent.c (SelB.ent) ?_ | refine Ent.c (SelS.ent) ?_ | refine Ent.cN ?_ | refine Ent.c (SelX.ent) ?_ | refine Ent.dropR ?_))
      · first | rfl | exact bool_eq (by simp [hC.post])
    · skip
      have hgb := Bool.or_eq_false_iff.1 h2
      have hgr := great_no hgb.1
      have hgr2 := great_no hgb.2
      refine r_skip ?_
      refine r_seq ?_
      rcases hn : newT ws with _ | t0
      · skip
        refine r_region ?_
        refine p_lda ta_23 rfl (by exact (Tk.all (by first | rfl | assumption | (simp only [List.drop_zero, List.length_map]; assumption) | (simp [*]; done)))) rfl ?_
        refine p_callc cf_29 (.c rfl .n) rfl (town_New_none _ ws hws hn) ?_
        refine p_as rfl rfl ?_
        refine o_keep (.c 1 rfl (.c 2 rfl (.c 6 rfl (.c 7 rfl .n)))) ?_
        refine r_seq ?_
        refine r_seq ?_
        refine r_region ?_
        refine p_mv rfl rfl ?_
        refine l_op (x_p (pv_peqn Try.underlying68 (.n rfl) rfl rfl rfl (fun _ => ⟨rfl, rfl⟩)) rfl rfl ?_)
        refine o_keep (.c 1 rfl (.c 2 rfl (.c 6 rfl (.c 7 rfl (.c 23 rfl .n))))) ?_
        refine r_cond _ rfl (fun h3 => ?_) (fun h3 => ?_)
        · skip
          refine r_seq ?_
          refine r_region ?_
          refine p_as rfl rfl ?_
          refine o_keep (.c 1 rfl (.c 2 rfl (.c 6 rfl (.c 7 rfl .n)))) ?_
          refine r_retv hF rfl (.c (.t rfl) .n) ?_ ?_
          · first | exact Ent.rfl | (repeat (first | exact Ent.rfl | refine Ent.c (SelB.ent) ?_ | refine Ent.c (SelS.ent) ?_ | refine Ent.cN ?_ | refine Ent.c (SelX.ent) ?_ | refine Ent.dropR ?_))
          · first | rfl | exact bool_eq (by simp [hC.post])
        · simp at h3
      · skip
        refine r_region ?_
        refine p_lda ta_23 rfl (by exact (Tk.all (by first | rfl | assumption | (simp only [List.drop_zero, List.length_map]; assumption) | (simp [*]; done)))) rfl ?_
        refine p_calle cf_29 (.c rfl .n) rfl (town_New_some _ ws hws hn) fun tb => ?_
        refine o_cat ?_
        refine p_as rfl rfl ?_
        refine o_keep (.c 1 rfl (.c 2 rfl (.c 6 rfl (.c 7 rfl .n)))) ?_
        refine r_seq ?_
        refine r_seq ?_
        refine r_region ?_
        refine p_mv rfl rfl ?_
        refine l_op (x_p (pv_peqn Try.underlying68 (.n rfl) rfl rfl rfl (fun _ => ⟨rfl, rfl⟩)) rfl rfl ?_)
        refine o_keep (.c 1 rfl (.c 2 rfl (.c 6 rfl (.c 7 rfl (.c 23 rfl .n))))) ?_
        refine r_cond _ rfl (fun h4 => ?_) (fun h4 => ?_)
        · simp at h4
        · skip
          refine r_skip ?_
          refine r_seq ?_
          refine r_seq ?_
          refine r_region ?_
          refine p_as rfl rfl ?_
          refine o_keep (.c 1 rfl (.c 2 rfl (.c 6 rfl (.c 7 rfl (.c 8 rfl .n))))) ?_
          refine r_block ?_
          refine r_loop_2 (fun (i : Nat) (t : TownS) => [(8, true, .int .i64 (i : Int))]) (.c 1 rfl (.c 2 rfl (.c 6 rfl (.c 7 rfl .n)))) (fun (i : Nat) (t : TownS) => townP tb t :: blk b3 (ws.map vI) 23 :: H) (fun (i : Nat) (t : TownS) => i ≤ xs.length ∧ TInv t) (fun (i : Nat) (t : TownS) => xs.length - i) (0) (t0) ?_ (.c 8 rfl .n) ?_ (fun i t hI => ?_)
          · exact ⟨Nat.zero_le _, (TInv.new hws hn).1⟩
          · first | exact Ent.rfl | (repeat (first | exact Ent.rfl | refine Ent.c (SelB.ent) ?_ | refine Ent.c (SelS.ent) ?_ | refine Ent.cN ?_ | refine Ent.c (SelX.ent) ?_ | refine Ent.dropR ?_))
          · skip
            obtain ⟨hil, hT⟩ := hI
            refine r_seq ?_
            refine r_seq ?_
            refine r_region ?_
            refine p_mv rfl rfl ?_
            refine p_mv rfl rfl ?_
            refine l_op (x_p (pv_lens hs.len ⟨_, Try.underlying66⟩ (.n rfl) rfl rfl rfl rfl (fun _ => rfl)) rfl rfl ?_)
            refine p_lss rfl rfl rfl ?_
            refine o_keep (.c 1 rfl (.c 2 rfl (.c 6 rfl (.c 7 rfl (.c 8 rfl (.c 27 rfl .n)))))) ?_
            refine r_cond _ rfl (fun h5 => ?_) (fun h5 => ?_)
            · skip
              obtain ⟨x, hxi⟩ := getlt (l := xs) (i := i) (by have := of_decide_eq_true h5; omega)
              have hil2 := (List.getElem?_eq_some_iff.1 hxi).1
              have hxm := List.mem_of_getElem? hxi
              have hxr := hx x hxm
              have hxw := hgr.2 x hxm
              refine r_skip ?_
              refine r_seq ?_
              refine r_block ?_
              refine r_region ?_
              refine p_mv rfl rfl ?_
              refine p_mv rfl rfl ?_
              refine p_mv rfl rfl ?_
              refine p_idx Try.underlying66 (.ofA ta_72) hs rfl (mapget hxi) rfl rfl rfl ?_
              refine p_ldats 0 ta_72 (Rd.ent hs (by repeat (first | exact Ent.rfl | exact Ent.one Ent.h | exact Ent.one (SelS.ent) | exact Ent.nil | exact Ent.left | refine Ent.dropR ?_ | refine Ent.tr Ent.skip ?_))) (mapget hxi) rfl rfl (.s (.s (.s .z))) rfl ?_
              refine o_ent (SelX.ent (X := townP tb t)) ?_
              refine p_call cf_31 (.c rfl (.c rfl .n)) rfl (town_Step _ _ tb t hT x hxr.all (by omega)) ?_
              rintro _ _ ⟨rfl, rfl⟩
              refine o_keep (.c 1 rfl (.c 2 rfl (.c 6 rfl (.c 7 rfl (.c 8 rfl .n))))) ?_
              refine r_end ?_
              refine r_region ?_
              refine p_mv rfl rfl ?_
              refine p_add rfl rfl (by omega) rfl ?_
              refine p_as rfl rfl ?_
              refine o_keep (.c 1 rfl (.c 2 rfl (.c 6 rfl (.c 7 rfl (.c 8 rfl .n))))) ?_
              refine r_back_2 (i + 1) ((stepT t x.s).1) ?_ ?_ (Keep.app (.c 8 rfl .n) (.c 1 rfl (.c 2 rfl (.c 6 rfl (.c 7 rfl .n))))) ?_
              · exact ⟨by omega, hT.step _⟩
              · omega
              · first | exact Ent.rfl | (repeat (first | exact Ent.rfl | refine Ent.c (SelB.ent) ?_ | refine Ent.c (SelS.ent) ?_ | refine Ent.cN ?_ | refine Ent.c (SelX.ent) ?_ | refine Ent.dropR ?_))
            · skip
              refine r_exit rfl ?_
              refine r_seq ?_
              refine r_region ?_
              refine p_mv rfl rfl ?_
              refine p_callc cf_32 (.c rfl .n) rfl (town_Calm _ tb t hT) ?_
              refine o_keep (.c 2 rfl (.c 6 rfl (.c 7 rfl .n))) ?_
              have hC := hT.calm.1
              generalize hu : (calmT t).1 = u at hC ⊢
              have hw6 := worldT_len hC.inv.len
              refine r_sel (townP tb u) ?_
              refine r_town fun bb c0 c1 c2 pb => ?_
              refine r_cat ?_
              refine r_seq ?_
              refine r_cut_2 (fun (ov : Value) (b9 : Nat) => [(9, true, ptr b9), (10, true, ov)]) (.c 2 rfl (.c 6 rfl (.c 7 rfl .n))) (fun (ov : Value) (b9 : Nat) => blk tb (tnC bb u.ws c0 c1 c2 pb) 84 :: brokP bb u.b :: manyP clerkP [c0, c1, c2] u.ks :: postP pb u.post :: blk b9 ((worldT u).map vI) 23 :: sl ov 3 1 (u.b.order.map rI) :: blk b3 (ws.map vI) 23 :: H) (fun (ov : Value) (b9 : Nat) => Rd M [sl ov 3 1 (u.b.order.map rI)] ov 1 (u.b.order.map rI)) ?_ (fun ov b9 hI => ?_)
              · skip
                refine r_plan _ [] mo (.c 2 rfl (.c 6 rfl (.c 7 rfl .n))) Ent.rfl ?_
                refine qm_q (i := 0) (l := [.k 7]) rfl rfl rfl rfl (by kernel_rfl) rfl (fun He => PV.rq (pv_mv (.n rfl) rfl rfl (fun _ => rfl))) ?_
                refine qm_q (i := 1) (l := [.o 0]) rfl rfl rfl rfl (by kernel_rfl) rfl (fun He => rq_call cf_33 (.n rfl) rfl (.c rfl (fun _ => rfl) .n) (fun hg => (town_World_o _ tb u bb c0 c1 c2 pb hC.inv).q)) ?_
                refine qm_q (i := 2) (l := [.k 7]) rfl rfl rfl rfl (by kernel_rfl) rfl (fun He => PV.rq (pv_mv (.n rfl) rfl rfl (fun _ => rfl))) ?_
                refine qm_q (i := 3) (l := [.o 2]) rfl rfl rfl rfl (by kernel_rfl) rfl (fun He => PV.rq (pv_nilp (.n rfl) rfl rfl (fun _ => rfl))) ?_
                refine qm_q (i := 4) (l := [.o 3]) rfl rfl rfl rfl (by kernel_rfl) rfl (fun He => PV.rq (pv_fa fa_84_0 (.n rfl) rfl rfl (fun _ => rfl))) ?_
                refine qm_q (i := 5) (l := [.o 4]) rfl rfl rfl rfl (by kernel_rfl) rfl (fun He => RV.rq (q_ldc tc_80 (.n rfl) rfl rfl (fun _ => rfl) (by rfl))) ?_
                refine qm_two (i := 6) (j := 7) (by kernel_rfl) (by kernel_rfl) (by kernel_rfl) ?_ ?_
                · skip
                  refine cand_calln [.o 5] rfl rfl rfl rfl rfl rfl cf_38 rfl (.c rfl .n) ((broker_DoneN _ bb u.b hC.inv.b (by have := hC.inv.b.ord_le; omega)).on inferInstance _) fun ov => ?_
                  refine qm_rd ov fun hro => ?_
                  refine qm_keep ?_
                  refine qm_alloc zr_23 (i := 7) [] (by kernel_rfl) (by kernel_rfl) rfl rfl rfl rfl (by kernel_rfl) (by kernel_rfl) ⟨_, .n rfl, rfl⟩ rfl fun b9 => ?_
                  refine qb_store (.ofA ta_23) (i := 8) [.o 7, .o 1] (by kernel_rfl) (by kernel_rfl) rfl rfl rfl (by kernel_rfl) (by kernel_rfl) (by kernel_rfl) ⟨_, .n rfl, rfl⟩ rfl rfl rfl rfl (by first | rfl | exact (by first | rfl | assumption | (simp only [List.drop_zero, List.length_map]; assumption) | (simp [*]; done))) (by first | rfl | exact (by first | rfl | simp [vI, Value.oneCell'])) (Ins.whole (by first | rfl | (simp only [List.length_map, List.length_cons, List.length_nil]; omega) | (simp [*]; done) | (simp [*]; rfl))) ?_
                  refine qm_q (i := 9) (l := [.o 6]) rfl rfl rfl rfl (by kernel_rfl) rfl (fun He => PV.rq (pv_as (.n rfl) rfl rfl (fun _ => rfl))) ?_
                  refine qm_n (by kernel_rfl) (by kernel_rfl) (by kernel_rfl) (by kernel_rfl) (.c 2 rfl (.c 6 rfl (.c 7 rfl (.c 9 rfl (.c 10 rfl .n))))) ?_
                  refine r_join_2 (ov) (b9) ?_ (Keep.app (.c 9 rfl (.c 10 rfl .n)) (.c 2 rfl (.c 6 rfl (.c 7 rfl .n)))) ?_
                  · exact hro
                  · first | exact Ent.rfl | (repeat (first | exact Ent.rfl | refine Ent.c (SelB.ent) ?_ | refine Ent.c (SelS.ent) ?_ | refine Ent.cN ?_ | refine Ent.c (SelX.ent) ?_ | refine Ent.dropR ?_))
                · skip
                  refine cand_alloc zr_23 rfl rfl rfl rfl rfl rfl fun b9 => ?_
                  refine qm_calln (i := 6) [.o 5] (by kernel_rfl) (by kernel_rfl) rfl rfl rfl rfl (by kernel_rfl) (by kernel_rfl) ⟨_, .n rfl, rfl⟩ cf_38 rfl (.c rfl .n) (broker_DoneN _ bb u.b hC.inv.b (by have := hC.inv.b.ord_le; omega)) fun ov => ?_
                  refine qm_cat ?_
                  refine qm_rd ov fun hro => ?_
                  refine qm_keep ?_
                  refine qb_store (.ofA ta_23) (i := 8) [.o 7, .o 1] (by kernel_rfl) (by kernel_rfl) rfl rfl rfl (by kernel_rfl) (by kernel_rfl) (by kernel_rfl) ⟨_, .n rfl, rfl⟩ rfl rfl rfl rfl (by first | rfl | exact (by first | rfl | assumption | (simp only [List.drop_zero, List.length_map]; assumption) | (simp [*]; done))) (by first | rfl | exact (by first | rfl | simp [vI, Value.oneCell'])) (Ins.whole (by first | rfl | (simp only [List.length_map, List.length_cons, List.length_nil]; omega) | (simp [*]; done) | (simp [*]; rfl))) ?_
                  refine qm_q (i := 9) (l := [.o 6]) rfl rfl rfl rfl (by kernel_rfl) rfl (fun He => PV.rq (pv_as (.n rfl) rfl rfl (fun _ => rfl))) ?_
                  refine qm_n (by kernel_rfl) (by kernel_rfl) (by kernel_rfl) (by kernel_rfl) (.c 2 rfl (.c 6 rfl (.c 7 rfl (.c 9 rfl (.c 10 rfl .n))))) ?_
                  refine r_join_2 (ov) (b9) ?_ (Keep.app (.c 9 rfl (.c 10 rfl .n)) (.c 2 rfl (.c 6 rfl (.c 7 rfl .n)))) ?_
                  · exact hro
                  · first | exact Ent.rfl | (repeat (first | exact Ent.rfl | refine Ent.c (SelB.ent) ?_ | refine Ent.c (SelS.ent) ?_ | refine Ent.cN ?_ | refine Ent.c (SelX.ent) ?_ | refine Ent.dropR ?_))
              have hro := hI
              refine r_seq ?_
              refine r_seq ?_
              refine r_ent (townP_close (b := tb) (t := u) bb c0 c1 c2 pb rfl) ?_
              refine r_region ?_
              refine p_as rfl rfl ?_
              refine o_keep (.c 2 rfl (.c 6 rfl (.c 7 rfl (.c 9 rfl (.c 10 rfl (.c 11 rfl .n)))))) ?_
              refine r_block ?_
              refine r_loop_1 (fun (k : Nat) => [(11, true, .int .i64 (k : Int))]) (.c 2 rfl (.c 6 rfl (.c 7 rfl (.c 9 rfl (.c 10 rfl .n))))) (fun (k : Nat) => townP tb u :: blk b9 ((worldT u).map vI) 23 :: sl ov 3 1 (u.b.order.map rI) :: blk b3 (ws.map vI) 23 :: H) (fun (k : Nat) => k ≤ ys.length) (fun (k : Nat) => ys.length - k) (0) ?_ (.c 11 rfl .n) ?_ (fun k hI => ?_)
              · exact Nat.zero_le _
              · first | exact Ent.rfl | (repeat (first | exact Ent.rfl | refine Ent.c (SelB.ent) ?_ | refine Ent.c (SelS.ent) ?_ | refine Ent.cN ?_ | refine Ent.c (SelX.ent) ?_ | refine Ent.dropR ?_))
              · skip
                refine r_seq ?_
                refine r_seq ?_
                refine r_region ?_
                refine p_mv rfl rfl ?_
                refine p_mv rfl rfl ?_
                refine l_op (x_p (pv_lens hys.len ⟨_, Try.underlying66⟩ (.n rfl) rfl rfl rfl rfl (fun _ => rfl)) rfl rfl ?_)
                refine p_lss rfl rfl rfl ?_
                refine o_keep (.c 2 rfl (.c 6 rfl (.c 7 rfl (.c 9 rfl (.c 10 rfl (.c 11 rfl (.c 48 rfl .n))))))) ?_
                refine r_cond _ rfl (fun h6 => ?_) (fun h6 => ?_)
                · skip
                  obtain ⟨y, hyi⟩ := getlt (l := ys) (i := k) (by have := of_decide_eq_true h6; omega)
                  have hil3 := (List.getElem?_eq_some_iff.1 hyi).1
                  have hym := List.mem_of_getElem? hyi
                  have hyr := hy y hym
                  have hyw := hgr2.2 y hym
                  have hst := hC.step y.s
                  refine r_skip ?_
                  refine r_seq ?_
                  refine r_block ?_
                  refine r_seq ?_
                  refine r_region ?_
                  refine p_mv rfl rfl ?_
                  refine p_mv rfl rfl ?_
                  refine p_idx Try.underlying66 (.ofA ta_72) hys rfl (mapget hyi) rfl rfl rfl ?_
                  refine p_faat fa_72_0 (Rd.sh hys (mapget hyi)) rfl rfl ?_
                  refine p_ldat 0 tc_3 (Rd.ent hys (by repeat (first | exact Ent.rfl | exact Ent.one Ent.h | exact Ent.one (SelS.ent) | exact Ent.nil | exact Ent.left | refine Ent.dropR ?_ | refine Ent.tr Ent.skip ?_))) (mapget hyi) rfl rfl rfl rfl ?_
                  refine o_keep (.c 2 rfl (.c 6 rfl (.c 7 rfl (.c 9 rfl (.c 10 rfl (.c 11 rfl (.c 55 rfl .n))))))) ?_
                  refine r_block ?_
                  refine r_seq ?_
                  refine r_seq ?_
                  refine r_region ?_
                  refine p_eql rfl rfl rfl ?_
                  refine p_as rfl rfl ?_
                  refine o_keep (.c 2 rfl (.c 6 rfl (.c 7 rfl (.c 9 rfl (.c 10 rfl (.c 11 rfl (.c 55 rfl (.c 56 rfl .n)))))))) ?_
                  refine r_cut_1 (fun (c : Bool) => [(56, true, .bool c)]) (.c 2 rfl (.c 6 rfl (.c 7 rfl (.c 9 rfl (.c 10 rfl (.c 11 rfl (.c 55 rfl .n))))))) (fun (c : Bool) => townP tb u :: blk b9 ((worldT u).map vI) 23 :: sl ov 3 1 (u.b.order.map rI) :: blk b3 (ws.map vI) 23 :: H) (fun (c : Bool) => c = decide (y.kind = 3 ∨ y.kind = 4 ∨ y.kind = 5)) ?_ (fun c hI => ?_)
                  · skip
                    refine r_cond _ rfl (fun h7 => ?_) (fun h7 => ?_)
                    · skip
                      have q3 : y.kind = 3 := of_decide_eq_true h7
                      refine r_skip ?_
                      refine r_join_1 (_) ?_ (Keep.app (.c 56 rfl .n) (.c 2 rfl (.c 6 rfl (.c 7 rfl (.c 9 rfl (.c 10 rfl (.c 11 rfl (.c 55 rfl .n)))))))) ?_
                      · simp [q3]
                      · first | exact Ent.rfl | (repeat (first | exact Ent.rfl | refine Ent.c (SelB.ent) ?_ | refine Ent.c (SelS.ent) ?_ | refine Ent.cN ?_ | refine Ent.c (SelX.ent) ?_ | refine Ent.dropR ?_))
                    · skip
                      have q3 : ¬ y.kind = 3 := of_decide_eq_false h7
                      refine r_seq ?_
                      refine r_region ?_
                      refine p_eql rfl rfl rfl ?_
                      refine p_as rfl rfl ?_
                      refine o_keep (.c 2 rfl (.c 6 rfl (.c 7 rfl (.c 9 rfl (.c 10 rfl (.c 11 rfl (.c 55 rfl (.c 56 rfl .n)))))))) ?_
                      refine r_cond _ rfl (fun h8 => ?_) (fun h8 => ?_)
                      · skip
                        have q4 : y.kind = 4 := of_decide_eq_true h8
                        refine r_skip ?_
                        refine r_join_1 (_) ?_ (Keep.app (.c 56 rfl .n) (.c 2 rfl (.c 6 rfl (.c 7 rfl (.c 9 rfl (.c 10 rfl (.c 11 rfl (.c 55 rfl .n)))))))) ?_
                        · simp [q4]
                        · first | exact Ent.rfl | (repeat (first | exact Ent.rfl | refine Ent.c (SelB.ent) ?_ | refine Ent.c (SelS.ent) ?_ | refine Ent.cN ?_ | refine Ent.c (SelX.ent) ?_ | refine Ent.dropR ?_))
                      · skip
                        have q4 : ¬ y.kind = 4 := of_decide_eq_false h8
                        refine r_region ?_
                        refine p_eql rfl rfl rfl ?_
                        refine p_as rfl rfl ?_
                        refine o_keep (.c 2 rfl (.c 6 rfl (.c 7 rfl (.c 9 rfl (.c 10 rfl (.c 11 rfl (.c 55 rfl (.c 56 rfl .n)))))))) ?_
                        refine r_join_1 (_) ?_ (Keep.app (.c 56 rfl .n) (.c 2 rfl (.c 6 rfl (.c 7 rfl (.c 9 rfl (.c 10 rfl (.c 11 rfl (.c 55 rfl .n)))))))) ?_
                        · simp [q3, q4]
                        · first | exact Ent.rfl | (repeat (first | exact Ent.rfl | refine Ent.c (SelB.ent) ?_ | refine Ent.c (SelS.ent) ?_ | refine Ent.cN ?_ | refine Ent.c (SelX.ent) ?_ | refine Ent.dropR ?_))
                  have hc5 := hI
                  refine r_cond _ rfl (fun h9 => ?_) (fun h9 => ?_)
                  · skip
                    have hk345 : y.kind = 3 ∨ y.kind = 4 ∨ y.kind = 5 := by rw [h9] at hc5; exact of_decide_eq_true hc5.symm
                    refine r_seq ?_
                    refine r_region ?_
                    refine p_mv rfl rfl ?_
                    refine p_mv rfl rfl ?_
                    refine p_mv rfl rfl ?_
                    refine p_idx Try.underlying66 (.ofA ta_72) hys rfl (mapget hyi) rfl rfl rfl ?_
                    refine p_ldats 0 ta_72 (Rd.ent hys (by repeat (first | exact Ent.rfl | exact Ent.one Ent.h | exact Ent.one (SelS.ent) | exact Ent.nil | exact Ent.left | refine Ent.dropR ?_ | refine Ent.tr Ent.skip ?_))) (mapget hyi) rfl rfl (.s (.s (.s .z))) rfl ?_
                    refine o_ent (SelX.ent (X := townP tb u)) ?_
                    refine p_call cf_31 (.c rfl (.c rfl .n)) rfl (town_StepV _ _ tb u hC.inv y (hst.1 hk345) hyr.all (by omega)) ?_
                    rintro _ _ ⟨rfl, rfl⟩
                    refine p_neq rfl rfl rfl ?_
                    refine o_keep (.c 2 rfl (.c 6 rfl (.c 7 rfl (.c 9 rfl (.c 10 rfl (.c 11 rfl (.c 66 rfl .n))))))) ?_
                    refine r_cond _ rfl (fun h10 => ?_) (fun h10 => ?_)
                    · simp at h10
                    · skip
                      refine r_skip ?_
                      refine r_end ?_
                      refine r_end ?_
                      refine r_region ?_
                      refine p_mv rfl rfl ?_
                      refine p_add rfl rfl (by omega) rfl ?_
                      refine p_as rfl rfl ?_
                      refine o_keep (.c 2 rfl (.c 6 rfl (.c 7 rfl (.c 9 rfl (.c 10 rfl (.c 11 rfl .n)))))) ?_
                      refine r_back_1 (k + 1) ?_ ?_ (Keep.app (.c 11 rfl .n) (.c 2 rfl (.c 6 rfl (.c 7 rfl (.c 9 rfl (.c 10 rfl .n)))))) ?_
                      · omega
                      · omega
                      · first | exact Ent.rfl | (repeat (first | exact Ent.rfl | refine Ent.c (SelB.ent) ?_ | refine Ent.c (SelS.ent) ?_ | refine Ent.cN ?_ | refine Ent.c (SelX.ent) ?_ | refine Ent.dropR ?_))
                  · skip
                    refine r_seq ?_
                    refine r_seq ?_
                    refine r_region ?_
                    refine p_eql rfl rfl rfl ?_
                    refine p_as rfl rfl ?_
                    refine o_keep (.c 2 rfl (.c 6 rfl (.c 7 rfl (.c 9 rfl (.c 10 rfl (.c 11 rfl (.c 55 rfl (.c 67 rfl .n)))))))) ?_
                    refine r_cut_1 (fun (c : Bool) => [(67, true, .bool c)]) (.c 2 rfl (.c 6 rfl (.c 7 rfl (.c 9 rfl (.c 10 rfl (.c 11 rfl .n)))))) (fun (c : Bool) => townP tb u :: blk b9 ((worldT u).map vI) 23 :: sl ov 3 1 (u.b.order.map rI) :: blk b3 (ws.map vI) 23 :: H) (fun (c : Bool) => c = decide (y.kind = 2 ∨ y.kind = 7)) ?_ (fun c hI => ?_)
                    · skip
                      refine r_cond _ rfl (fun h11 => ?_) (fun h11 => ?_)
                      · skip
                        have q2 : y.kind = 2 := of_decide_eq_true h11
                        refine r_skip ?_
                        refine r_join_1 (_) ?_ (Keep.app (.c 67 rfl .n) (.c 2 rfl (.c 6 rfl (.c 7 rfl (.c 9 rfl (.c 10 rfl (.c 11 rfl .n))))))) ?_
                        · simp [q2]
                        · first | exact Ent.rfl | (repeat (first | exact Ent.rfl | refine Ent.c (SelB.ent) ?_ | refine Ent.c (SelS.ent) ?_ | refine Ent.cN ?_ | refine Ent.c (SelX.ent) ?_ | refine Ent.dropR ?_))
                      · skip
                        have q2 : ¬ y.kind = 2 := of_decide_eq_false h11
                        refine r_region ?_
                        refine p_eql rfl rfl rfl ?_
                        refine p_as rfl rfl ?_
                        refine o_keep (.c 2 rfl (.c 6 rfl (.c 7 rfl (.c 9 rfl (.c 10 rfl (.c 11 rfl (.c 67 rfl .n))))))) ?_
                        refine r_join_1 (_) ?_ (Keep.app (.c 67 rfl .n) (.c 2 rfl (.c 6 rfl (.c 7 rfl (.c 9 rfl (.c 10 rfl (.c 11 rfl .n))))))) ?_
                        · simp [q2]
                        · first | exact Ent.rfl | (repeat (first | exact Ent.rfl | refine Ent.c (SelB.ent) ?_ | refine Ent.c (SelS.ent) ?_ | refine Ent.cN ?_ | refine Ent.c (SelX.ent) ?_ | refine Ent.dropR ?_))
                    have hc7 := hI
                    refine r_cond _ rfl (fun h12 => ?_) (fun h12 => ?_)
                    · skip
                      have hk27 : y.kind = 2 ∨ y.kind = 7 := by rw [h12] at hc7; exact of_decide_eq_true hc7.symm
                      refine r_region ?_
                      refine p_mv rfl rfl ?_
                      refine p_mv rfl rfl ?_
                      refine p_mv rfl rfl ?_
                      refine p_idx Try.underlying66 (.ofA ta_72) hys rfl (mapget hyi) rfl rfl rfl ?_
                      refine p_ldats 0 ta_72 (Rd.ent hys (by repeat (first | exact Ent.rfl | exact Ent.one Ent.h | exact Ent.one (SelS.ent) | exact Ent.nil | exact Ent.left | refine Ent.dropR ?_ | refine Ent.tr Ent.skip ?_))) (mapget hyi) rfl rfl (.s (.s (.s .z))) rfl ?_
                      refine o_ent (SelX.ent (X := townP tb u)) ?_
                      refine p_call cf_31 (.c rfl (.c rfl .n)) rfl (town_StepV _ _ tb u hC.inv y (Prod.ext (hst.2 hk27) rfl : _ = (u, (stepT u y.s).2)) hyr.all (by omega)) ?_
                      rintro _ _ ⟨rfl, rfl⟩
                      refine o_keep (.c 2 rfl (.c 6 rfl (.c 7 rfl (.c 9 rfl (.c 10 rfl (.c 11 rfl .n)))))) ?_
                      refine r_end ?_
                      refine r_end ?_
                      refine r_region ?_
                      refine p_mv rfl rfl ?_
                      refine p_add rfl rfl (by omega) rfl ?_
                      refine p_as rfl rfl ?_
                      refine o_keep (.c 2 rfl (.c 6 rfl (.c 7 rfl (.c 9 rfl (.c 10 rfl (.c 11 rfl .n)))))) ?_
                      refine r_back_1 (k + 1) ?_ ?_ (Keep.app (.c 11 rfl .n) (.c 2 rfl (.c 6 rfl (.c 7 rfl (.c 9 rfl (.c 10 rfl .n)))))) ?_
                      · omega
                      · omega
                      · first | exact Ent.rfl | (repeat (first | exact Ent.rfl | refine Ent.c (SelB.ent) ?_ | refine Ent.c (SelS.ent) ?_ | refine Ent.cN ?_ | refine Ent.c (SelX.ent) ?_ | refine Ent.dropR ?_))
                    · skip
                      refine r_skip ?_
                      refine r_end ?_
                      refine r_end ?_
                      refine r_region ?_
                      refine p_mv rfl rfl ?_
                      refine p_add rfl rfl (by omega) rfl ?_
                      refine p_as rfl rfl ?_
                      refine o_keep (.c 2 rfl (.c 6 rfl (.c 7 rfl (.c 9 rfl (.c 10 rfl (.c 11 rfl .n)))))) ?_
                      refine r_back_1 (k + 1) ?_ ?_ (Keep.app (.c 11 rfl .n) (.c 2 rfl (.c 6 rfl (.c 7 rfl (.c 9 rfl (.c 10 rfl .n)))))) ?_
                      · omega
                      · omega
                      · first | exact Ent.rfl | (repeat (first | exact Ent.rfl | refine Ent.c (SelB.ent) ?_ | refine Ent.c (SelS.ent) ?_ | refine Ent.cN ?_ | refine Ent.c (SelX.ent) ?_ | refine Ent.dropR ?_))
                · skip
                  refine r_exit rfl ?_
                  refine r_seq ?_
                  refine r_plan (_) ([townP tb u]) mo (.c 7 rfl (.c 9 rfl (.c 10 rfl .n))) (SelX.ent) ?_
                  refine qm_q (i := 0) (l := [.k 7]) rfl rfl rfl rfl (by kernel_rfl) rfl (fun He => PV.rq (pv_mv (.n rfl) rfl rfl (fun _ => rfl))) ?_
                  refine qm_callc (i := 1) [.o 0] (by kernel_rfl) (by kernel_rfl) rfl rfl rfl rfl (by kernel_rfl) (by kernel_rfl) ⟨_, .n rfl, rfl⟩ cf_32 rfl (.c rfl .n) (town_CalmS _ tb u hC) ?_
                  refine qm_town fun bb c0 c1 c2 pb => ?_
                  refine qm_cat ?_
                  refine qm_keep ?_
                  refine qm_keep ?_
                  refine qm_keep ?_
                  refine qm_keep ?_
                  refine qm_q (i := 2) (l := [.o 1]) rfl rfl rfl rfl (by kernel_rfl) rfl (fun He => PV.rq (pv_to (pv_eql (.n rfl) rfl rfl rfl (fun _ => ⟨rfl, rfl⟩)) (show _ = Value.bool true by simp))) ?_
                  refine qm_q (i := 3) (l := [.o 2]) rfl rfl rfl rfl (by kernel_rfl) rfl (fun He => PV.rq (pv_mv (.n rfl) rfl rfl (fun _ => rfl))) ?_
                  refine qm_q (i := 4) (l := [.k 7, .o 3]) rfl rfl rfl rfl (by kernel_rfl) rfl (fun He => PV.rq (pv_ung (.s rfl rfl rfl) rfl (pv_mv (.n rfl) rfl rfl (fun _ => rfl)))) ?_
                  refine qm_q (i := 5) (l := [.o 4, .o 3]) rfl rfl rfl rfl (by kernel_rfl) rfl (fun He => rq_ung (.s rfl rfl rfl) rfl (rq_call cf_33 (.n rfl) rfl (.c rfl (fun _ => rfl) .n) (fun hg => (town_World_o _ tb u bb c0 c1 c2 pb hC.inv).q))) ?_
                  refine qm_q (i := 6) (l := [.k 9, .o 3]) rfl rfl rfl rfl (by kernel_rfl) rfl (fun He => RV.rq (rv_ung (.s rfl rfl rfl) rfl (q_lda ta_23 (.n rfl) rfl rfl (fun _ => rfl) (by exact (Tk.all (by first | rfl | assumption | (simp only [List.drop_zero, List.length_map]; assumption) | (simp [*]; done))))))) ?_
                  refine qm_q (i := 7) (l := [.o 5, .o 6, .o 3]) rfl rfl rfl rfl (by kernel_rfl) rfl (fun He => PV.rq (pv_ung (.s rfl rfl rfl) rfl (pv_to (pv_aeq (eq_World hw6 hw6) (.n rfl) rfl rfl rfl (fun _ => ⟨rfl, rfl⟩)) (show _ = Value.bool true by simp)))) ?_
                  refine qm_q (i := 8) (l := [.o 3, .o 7]) rfl rfl rfl rfl (by kernel_rfl) rfl (fun He => PV.rq (pv_and (.n rfl) rfl rfl rfl (fun _ => ⟨rfl, fun hc => by first | rfl | (rw [hc]; rfl) | simp_all⟩))) ?_
                  refine qm_q (i := 9) (l := [.o 8]) rfl rfl rfl rfl (by kernel_rfl) rfl (fun He => PV.rq (pv_mv (.n rfl) rfl rfl (fun _ => rfl))) ?_
                  refine qm_q (i := 10) (l := [.k 10, .o 9]) rfl rfl rfl rfl (by kernel_rfl) rfl (fun He => PV.rq (pv_ung (.s rfl rfl rfl) rfl (pv_mv (.n rfl) rfl rfl (fun _ => rfl)))) ?_
                  refine qm_q (i := 11) (l := [.k 7, .o 9]) rfl rfl rfl rfl (by kernel_rfl) rfl (fun He => PV.rq (pv_ung (.s rfl rfl rfl) rfl (pv_mv (.n rfl) rfl rfl (fun _ => rfl)))) ?_
                  refine qm_q (i := 12) (l := [.o 11, .o 9]) rfl rfl rfl rfl (by kernel_rfl) rfl (fun He => PV.rq (pv_ung (.s rfl rfl rfl) rfl (pv_nilp (.n rfl) rfl rfl (fun _ => rfl)))) ?_
                  refine qm_q (i := 13) (l := [.o 12, .o 9]) rfl rfl rfl rfl (by kernel_rfl) rfl (fun He => PV.rq (pv_ung (.s rfl rfl rfl) rfl (pv_fa fa_84_0 (.n rfl) rfl rfl (fun _ => rfl)))) ?_
                  refine qm_q (i := 14) (l := [.o 13, .o 9]) rfl rfl rfl rfl (by kernel_rfl) rfl (fun He => RV.rq (rv_ung (.s rfl rfl rfl) rfl (q_ldc tc_80 (.n rfl) rfl rfl (fun _ => rfl) (by rfl)))) ?_
                  refine qm_calln (i := 15) [.o 14, .o 9] (by kernel_rfl) (by kernel_rfl) rfl rfl rfl rfl (by kernel_rfl) (by kernel_rfl) ⟨_, .s rfl rfl rfl, rfl⟩ cf_38 rfl (.c rfl .n) (broker_DoneN _ bb u.b hC.inv.b (by have := hC.inv.b.ord_le; omega)) fun ov3 => ?_
                  refine qm_cat ?_
                  refine qm_rd ov3 fun hro3 => ?_
                  refine qm_keep ?_
                  refine qm_q (i := 16) (l := [.o 10, .o 15, .o 9]) rfl rfl rfl rfl (by kernel_rfl) rfl (fun He => rq_ung (.s rfl rfl rfl) rfl (rq_call cf_37 (.n rfl) rfl (.c rfl (fun _ => rfl) (.c rfl (fun _ => rfl) .n)) (fun hg => fnv_tru (ref_SameInts _ _ ov ov3 u.b.order u.b.order hro.own hro3.own (by have := hC.inv.b.ord_le; omega))))) ?_
                  refine qm_q (i := 17) (l := [.o 9, .o 16]) rfl rfl rfl rfl (by kernel_rfl) rfl (fun He => PV.rq (pv_and (.n rfl) rfl rfl rfl (fun _ => ⟨rfl, fun hc => by first | rfl | (rw [hc]; rfl) | simp_all⟩))) ?_
                  refine qm_q (i := 18) (l := [.o 17]) rfl rfl rfl rfl (by kernel_rfl) rfl (fun He => PV.rq (pv_mv (.n rfl) rfl rfl (fun _ => rfl))) ?_
                  refine qm_q (i := 19) (l := [.k 7, .o 18]) rfl rfl rfl rfl (by kernel_rfl) rfl (fun He => PV.rq (pv_ung (.s rfl rfl rfl) rfl (pv_mv (.n rfl) rfl rfl (fun _ => rfl)))) ?_
                  refine qm_calln (i := 20) [.o 19, .o 18] (by kernel_rfl) (by kernel_rfl) rfl rfl rfl rfl (by kernel_rfl) (by kernel_rfl) ⟨_, .s rfl rfl rfl, rfl⟩ cf_35 rfl (.c rfl .n) (town_MailN _ tb u bb c0 c1 c2 pb hC.inv) fun mv => ?_
                  refine qm_cat ?_
                  refine qm_rd mv fun hrm => ?_
                  refine qm_keep ?_
                  refine qm_q (i := 21) (l := [.o 20, .o 18]) rfl rfl rfl rfl (by kernel_rfl) rfl (fun He => PV.rq (pv_ung (.s rfl rfl rfl) rfl (pv_lens (Rd.len hrm) ⟨_, Try.underlying24⟩ (.n rfl) rfl rfl rfl rfl (fun _ => rfl)))) ?_
                  refine qm_q (i := 22) (l := [.o 21, .o 18]) rfl rfl rfl rfl (by kernel_rfl) rfl (fun He => PV.rq (pv_ung (.s rfl rfl rfl) rfl (pv_eql (.n rfl) rfl rfl rfl (fun _ => ⟨rfl, rfl⟩)))) ?_
                  refine qm_q (i := 23) (l := [.o 18, .o 22]) rfl rfl rfl rfl (by kernel_rfl) rfl (fun He => PV.rq (pv_and (.n rfl) rfl rfl rfl (fun _ => ⟨rfl, fun hc => by first | rfl | (rw [hc]; rfl) | simp_all⟩))) ?_
                  refine qm_q (i := 24) (l := [.o 23]) rfl rfl rfl rfl (by kernel_rfl) rfl (fun He => PV.rq (pv_as (.n rfl) rfl rfl (fun _ => rfl))) ?_
                  refine qm_n (by kernel_rfl) (by kernel_rfl) (by kernel_rfl) (by kernel_rfl) (.c 6 rfl .n) ?_
                  refine r_retv hF rfl (.c (.t rfl) .n) ?_ ?_
                  · first | exact Ent.rfl | (repeat (first | exact Ent.rfl | refine Ent.c (SelB.ent) ?_ | refine Ent.c (SelS.ent) ?_ | refine Ent.cN ?_ | refine Ent.c (SelX.ent) ?_ | refine Ent.dropR ?_))
                  · first | rfl | exact bool_eq (by simp [hC.post])

end Go.Proofs.Ytmakdilmibjpbac
