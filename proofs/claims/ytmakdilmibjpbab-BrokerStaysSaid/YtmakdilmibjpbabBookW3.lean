/- The walks of BookW3: written by a program of ours (gen.py) over the engine. -/
import Derived.Test.YtmakdilmibjpbabPlain
import Derived.Test.YtmakdilmibjpbabFacts
import Derived.Test.YtmakdilmibjpbabBookW2
namespace Go.Proofs.Ytmakdilmibjpbab
open Go Go.RowKit
set_option linter.unusedVariables false
set_option linter.unusedSimpArgs false
set_option maxRecDepth 20000

theorem rd_one {M : Amb} {H : List HP} {v : Value} {sz i : Nat} {rows : List (List Value)} {r : List Value} (h : Rd M H v sz rows) (hr : rows[i]? = some r) : r.all (·.oneCell') = true := List.all_eq_true.2 (h.ok r (List.mem_of_getElem? hr)).2
theorem yes_at {ys : List Int} {d : Deal} {j : Nat} {y : Bool} (h : YesR ys d) (hy : d.yes[j]? = some y) (hj : j < d.wants.length) : y = decide ((j : Int) ∈ ys) := by
  have := h.is j hj
  rw [hy] at this
  cases y with
  | true => exact (decide_eq_true (this.2 rfl)).symm
  | false => exact (decide_eq_false (fun q => by have := this.1 q; cases this)).symm

theorem book_Due_o (M : Amb) (b : Nat) (s : BrokS) (hI : BInv s) (lv ov : Value) (ts : List DT) (hts : ts.length = s.l.length) : FnE (α := Value) Try.prog M 42 [ptr b] [blk b [lv, ov] 77, sl lv 86 4 (List.zipWith rowD ts s.l), sl ov 3 1 (s.order.map rI), manyP bdealP ts s.l] (fun x => x) (fun x => [sl x 37 6 ((dueB s).map rM), blk b [lv, ov] 77, sl lv 86 4 (List.zipWith rowD ts s.l), sl ov 3 1 (s.order.map rI), manyP bdealP ts s.l]) := by
  have hB := hI
  have hl8 := hI.len
  refine fne_intro Try.func42 rfl Try.ntmps42 rfl fun R F hF => ?_
  refine r_cat ?_
  refine r_rd lv fun hrd => ?_
  refine r_rd ov fun hro => ?_
  refine r_seq ?_
  refine r_region ?_
  refine p_as rfl rfl ?_
  refine o_keep (.c 0 rfl (.c 2 rfl .n)) ?_
  refine r_seq ?_
  refine r_region ?_
  refine p_as rfl rfl ?_
  refine o_keep (.c 0 rfl (.c 2 rfl (.c 3 rfl .n))) ?_
  refine r_seq ?_
  refine r_seq ?_
  refine r_region ?_
  refine p_as rfl rfl ?_
  refine o_keep (.c 0 rfl (.c 2 rfl (.c 3 rfl (.c 4 rfl .n)))) ?_
  refine r_block ?_
  refine r_loop_2 (fun (i : Nat) (ov1 : Value) => [(4, true, .int .i64 (i : Int)), (3, true, ov1)]) (.c 0 rfl (.c 2 rfl .n)) (fun (i : Nat) (ov1 : Value) => sl ov1 37 6 ((dueL 0 (s.l.take i)).map rM) :: blk b [lv, ov] 77 :: sl lv 86 4 (List.zipWith rowD ts s.l) :: sl ov 3 1 (s.order.map rI) :: manyP bdealP ts s.l :: R) (fun (i : Nat) (ov1 : Value) => i ≤ s.l.length) (fun (i : Nat) (ov1 : Value) => s.l.length - i) (0) (.slice Option.none 0 0) ?_ (.c 4 rfl (.c 3 rfl .n)) ?_ (fun i ov1 hI => ?_)
  · exact Nat.zero_le _
  · show Ent _ (sl _ _ _ [] :: _); refine Ent.cN ?_; first | exact Ent.rfl | (repeat (first | exact Ent.rfl | refine Ent.c (SelB.ent) ?_ | refine Ent.c (SelS.ent) ?_ | refine Ent.cN ?_ | refine Ent.c (SelX.ent) ?_ | refine Ent.dropR ?_))
  · skip
    refine r_seq ?_
    refine r_seq ?_
    refine r_region ?_
    refine p_mv rfl rfl ?_
    refine p_mv rfl rfl ?_
    refine p_nil rfl rfl ?_
    refine p_fa fa_77_0 rfl rfl ?_
    refine p_ldc tc_75 rfl (by rfl) rfl ?_
    refine l_op (x_p (pv_lens (Rd.lenz hrd hts) ⟨_, Try.underlying75⟩ (.n rfl) rfl rfl rfl rfl (fun _ => rfl)) rfl rfl ?_)
    refine p_lss rfl rfl rfl ?_
    refine o_keep (.c 0 rfl (.c 2 rfl (.c 3 rfl (.c 4 rfl (.c 15 rfl .n))))) ?_
    refine r_cond _ rfl (fun h1 => ?_) (fun h1 => ?_)
    · skip
      have hilt : i < s.l.length := by have := of_decide_eq_true h1; omega
      obtain ⟨d, hd⟩ := getlt hilt
      obtain ⟨t, ht⟩ := getlt (l := ts) (i := i) (by omega)
      have hdk := hB.d d (List.mem_of_getElem? hd)
      have hle := hdk.le
      have hyl := hdk.y
      have hdl := dueL_le (l := s.l.take i) (n := 0) fun x hx => hB.d x (List.mem_of_mem_take hx)
      have htl : (s.l.take i).length ≤ 8 := by simp; omega
      refine r_skip ?_
      refine r_seq ?_
      refine r_block ?_
      refine r_seq ?_
      refine r_region ?_
      refine p_mv rfl rfl ?_
      refine p_nil rfl rfl ?_
      refine p_fa fa_77_0 rfl rfl ?_
      refine p_ldc tc_75 rfl (by rfl) rfl ?_
      refine p_mv rfl rfl ?_
      refine p_idx Try.underlying75 (.ofA ta_86) hrd rfl (zip_get ht hd) rfl rfl rfl ?_
      refine p_ldats 0 ta_86 (Rd.ent hrd (by repeat (first | exact Ent.rfl | exact Ent.one Ent.h | exact Ent.one (SelS.ent) | exact Ent.nil | exact Ent.left | refine Ent.dropR ?_ | refine Ent.tr Ent.skip ?_))) (zip_get ht hd) rfl rfl (.s (.s (.s (.s .z)))) rfl ?_
      refine p_alloc zr_86 rfl fun b5 => ?_
      refine p_store (.ofA ta_86) rfl rfl rfl (by first | rfl | exact rfl) (by first | rfl | exact (rd_one hrd (zip_get ht hd))) (Ins.whole (by first | rfl | (simp only [List.length_map, List.length_cons, List.length_nil]; omega) | (simp [*]; done) | (simp [*]; rfl))) ?_
      refine o_keep (.c 0 rfl (.c 2 rfl (.c 3 rfl (.c 4 rfl (.c 5 rfl .n))))) ?_
      refine r_seq ?_
      refine r_seq ?_
      refine r_bdeal i ht hd fun hy => ?_
      refine r_cat ?_
      refine r_rd t.wv fun hrw => ?_
      refine r_rd t.yv fun hry => ?_
      refine r_rd t.tv fun hrt => ?_
      have hysl := hy.len
      refine r_region ?_
      refine p_fa fa_86_1 rfl rfl ?_
      refine p_ldc tc_3 rfl (by rfl) rfl ?_
      refine p_eql rfl rfl rfl ?_
      refine o_keep (.c 0 rfl (.c 2 rfl (.c 3 rfl (.c 4 rfl (.c 5 rfl (.c 27 rfl .n)))))) ?_
      refine r_cond _ rfl (fun h2 => ?_) (fun h2 => ?_)
      · skip
        have h0 : d.state = 0 := of_decide_eq_true h2
        refine r_seq ?_
        refine r_seq ?_
        refine r_region ?_
        refine p_as rfl rfl ?_
        refine o_keep (.c 0 rfl (.c 2 rfl (.c 3 rfl (.c 4 rfl (.c 5 rfl (.c 6 rfl .n)))))) ?_
        refine r_block ?_
        refine r_loop_2 (fun (j : Nat) (ov2 : Value) => [(6, true, .int .i64 (j : Int)), (3, true, ov2)]) (.c 0 rfl (.c 2 rfl (.c 4 rfl (.c 5 rfl .n)))) (fun (j : Nat) (ov2 : Value) => sl ov2 37 6 ((dueL 0 (s.l.take i) ++ dueW i (d.wants.take j) (d.yes.take j)).map rM) :: blk b5 (rowD t d) 86 :: sl t.wv 35 2 (d.wants.map rW) :: sl t.yv 3 1 (t.ys.map rI) :: sl t.tv 3 1 (d.over.map rI) :: restP bdealP ts s.l i :: blk b [lv, ov] 77 :: sl lv 86 4 (List.zipWith rowD ts s.l) :: sl ov 3 1 (s.order.map rI) :: R) (fun (j : Nat) (ov2 : Value) => j ≤ d.wants.length) (fun (j : Nat) (ov2 : Value) => d.wants.length - j) (0) (ov1) ?_ (.c 6 rfl (.c 3 rfl .n)) ?_ (fun j ov2 hI => ?_)
        · exact Nat.zero_le _
        · rw [List.take_zero, show dueW (i : Int) [] (d.yes.take 0) = [] from rfl, List.append_nil]; first | exact Ent.rfl | (repeat (first | exact Ent.rfl | refine Ent.c (SelB.ent) ?_ | refine Ent.c (SelS.ent) ?_ | refine Ent.cN ?_ | refine Ent.c (SelX.ent) ?_ | refine Ent.dropR ?_))
        · skip
          refine r_seq ?_
          refine r_seq ?_
          refine r_region ?_
          refine p_mv rfl rfl ?_
          refine p_fa fa_86_0 rfl rfl ?_
          refine p_ldc tc_22 rfl (by rfl) rfl ?_
          refine l_op (x_p (pv_lens (Rd.len hrw) ⟨_, Try.underlying22⟩ (.n rfl) rfl rfl rfl rfl (fun _ => rfl)) rfl rfl ?_)
          refine p_lss rfl rfl rfl ?_
          refine o_keep (.c 0 rfl (.c 2 rfl (.c 3 rfl (.c 4 rfl (.c 5 rfl (.c 6 rfl (.c 32 rfl .n))))))) ?_
          refine r_cond _ rfl (fun h3 => ?_) (fun h3 => ?_)
          · skip
            obtain ⟨w, hw⟩ := getlt (l := d.wants) (i := j) (by have := of_decide_eq_true h3; omega)
            have hjl := (List.getElem?_eq_some_iff.1 hw).1
            obtain ⟨y, hyj⟩ := getlt (l := d.yes) (i := j) (by omega)
            have hye := yes_at hy hyj hjl
            have hds := dueW_len (n := (i : Int)) (d.wants.take j) (d.yes.take j)
            have htk : (d.wants.take j).length ≤ 4 := by simp; omega
            refine r_skip ?_
            refine r_seq ?_
            refine r_block ?_
            refine r_seq ?_
            refine r_region ?_
            refine p_fa fa_86_2 rfl rfl ?_
            refine p_ldc tc_23 rfl (by rfl) rfl ?_
            refine p_mv rfl rfl ?_
            refine p_callv cf_20 (.c rfl (.c rfl .n)) rfl (ref_In _ _ t.yv t.ys (j : Int) (Rd.ent hry (by repeat (first | exact Ent.rfl | exact Ent.one Ent.h | exact Ent.one (SelS.ent) | exact Ent.nil | exact Ent.left | refine Ent.dropR ?_))) (by omega)) ?_
            refine p_not rfl rfl ?_
            refine o_keep (.c 0 rfl (.c 2 rfl (.c 3 rfl (.c 4 rfl (.c 5 rfl (.c 6 rfl (.c 39 rfl .n))))))) ?_
            refine r_cond _ rfl (fun h4 => ?_) (fun h4 => ?_)
            · skip
              have hc : y = false := by rw [hye]; simpa using h4
              refine r_plan (_) ([sl ov2 37 6 ((dueL 0 (s.l.take i) ++ dueW i (d.wants.take j) (d.yes.take j)).map rM)]) mo (.c 0 rfl (.c 2 rfl (.c 3 rfl (.c 4 rfl (.c 5 rfl (.c 6 rfl .n)))))) (SelS.ent) ?_
              refine qm_q (i := 0) (l := [.k 3]) rfl rfl rfl rfl (by kernel_rfl) rfl (fun He => PV.rq (pv_mv (.n rfl) rfl rfl (fun _ => rfl))) ?_
              refine qm_q (i := 1) (l := [.k 4]) rfl rfl rfl rfl (by kernel_rfl) rfl (fun He => PV.rq (pv_mv (.n rfl) rfl rfl (fun _ => rfl))) ?_
              refine qm_q (i := 2) (l := [.k 5]) rfl rfl rfl rfl (by kernel_rfl) rfl (fun He => PV.rq (pv_fa fa_86_0 (.n rfl) rfl rfl (fun _ => rfl))) ?_
              refine qm_q (i := 3) (l := [.o 2]) rfl rfl rfl rfl (by kernel_rfl) rfl (fun He => RV.rq (q_ldc tc_22 (.n rfl) rfl rfl (fun _ => rfl) (by rfl))) ?_
              refine qm_q (i := 4) (l := [.k 6]) rfl rfl rfl rfl (by kernel_rfl) rfl (fun He => PV.rq (pv_mv (.n rfl) rfl rfl (fun _ => rfl))) ?_
              refine qm_q (i := 5) (l := [.o 3, .o 4]) rfl rfl rfl rfl (by kernel_rfl) rfl (fun He => PV.rq (pv_idx Try.underlying22 (.ofA ta_35) hrw (fun hg => ⟨rfl, (mapget hw)⟩) (.n rfl) rfl rfl rfl (fun _ => ⟨rfl, rfl⟩))) ?_
              refine qm_q (i := 6) (l := [.o 5]) rfl rfl rfl rfl (by kernel_rfl) rfl (fun He => PV.rq (pv_faat fa_35_0 (fun hg => Rd.sh hrw (mapget hw)) (.n rfl) rfl rfl (fun _ => rfl))) ?_
              refine qm_q (i := 7) (l := [.o 6]) rfl rfl rfl rfl (by kernel_rfl) rfl (fun He => RV.rq (rv_ldat (j := 0) tc_3 (Rd.ent hrw (by repeat (first | exact Ent.rfl | exact Ent.one Ent.h | exact Ent.one (SelS.ent) | exact Ent.nil | exact Ent.left | refine Ent.dropR ?_ | refine Ent.tr Ent.skip ?_))) (fun hg => (mapget hw)) (.n rfl) rfl rfl (fun _ => rfl) rfl (fun _ => rfl))) ?_
              refine qm_q (i := 8) (l := [.o 7]) rfl rfl rfl rfl (by kernel_rfl) rfl (fun He => rq_call cf_34 (.n rfl) rfl (.c rfl (fun _ => rfl) .n) (fun hg => ref_ShopOf _ _ _)) ?_
              refine qm_q (i := 9) (l := [.k 5]) rfl rfl rfl rfl (by kernel_rfl) rfl (fun He => PV.rq (pv_fa fa_86_0 (.n rfl) rfl rfl (fun _ => rfl))) ?_
              refine qm_q (i := 10) (l := [.o 9]) rfl rfl rfl rfl (by kernel_rfl) rfl (fun He => RV.rq (q_ldc tc_22 (.n rfl) rfl rfl (fun _ => rfl) (by rfl))) ?_
              refine qm_q (i := 11) (l := [.k 6]) rfl rfl rfl rfl (by kernel_rfl) rfl (fun He => PV.rq (pv_mv (.n rfl) rfl rfl (fun _ => rfl))) ?_
              refine qm_q (i := 12) (l := [.o 10, .o 11]) rfl rfl rfl rfl (by kernel_rfl) rfl (fun He => PV.rq (pv_idx Try.underlying22 (.ofA ta_35) hrw (fun hg => ⟨rfl, (mapget hw)⟩) (.n rfl) rfl rfl rfl (fun _ => ⟨rfl, rfl⟩))) ?_
              refine qm_q (i := 13) (l := [.o 12]) rfl rfl rfl rfl (by kernel_rfl) rfl (fun He => RV.rq (rv_ldats (j := 0) ta_35 (Rd.ent hrw (by repeat (first | exact Ent.rfl | exact Ent.one Ent.h | exact Ent.one (SelS.ent) | exact Ent.nil | exact Ent.left | refine Ent.dropR ?_ | refine Ent.tr Ent.skip ?_))) (fun hg => (mapget hw)) (.n rfl) rfl rfl (fun _ => rfl) rfl (.s (.s .z)))) ?_
              refine qm_q (i := 14) (l := [.o 1, .o 8, .o 13]) rfl rfl rfl rfl (by kernel_rfl) rfl (fun He => PV.rq (pv_build zr_37 pl_37 (.n rfl) rfl (.c rfl (fun _ => rfl) rfl rfl rfl (by repeat constructor) (.c rfl (fun _ => rfl) rfl rfl rfl (by repeat constructor) (.c rfl (fun _ => rfl) rfl rfl rfl (by repeat constructor) (.c rfl (fun _ => rfl) rfl rfl rfl (by repeat constructor) .n)))))) ?_
              refine qm_bslice1 Try.underlying83 (.ofA ta_37) zr_37 rfl (i := 15) [.o 14] (by kernel_rfl) (by kernel_rfl) rfl rfl rfl rfl (by kernel_rfl) (by kernel_rfl) ⟨_, .n rfl, rfl⟩ rfl rfl rfl rfl rfl rfl fun b55 => ?_
              refine qa_append Try.underlying83 el_37 rfl rfl (i := 16) [.o 0, .o 15] (by kernel_rfl) (by kernel_rfl) rfl rfl rfl rfl (by kernel_rfl) (by kernel_rfl) ⟨_, .n rfl, rfl⟩ rfl rfl rfl (Rd.blit rfl rfl) (by simp only [List.length_map, List.length_append, List.length_cons, List.length_nil]; omega) fun v56 => ?_
              refine qm_rd v56 fun hr56 => ?_
              refine qm_q (i := 17) (l := [.o 16]) rfl rfl rfl rfl (by kernel_rfl) rfl (fun He => PV.rq (pv_as (.n rfl) rfl rfl (fun _ => rfl))) ?_
              refine qm_n (by kernel_rfl) (by kernel_rfl) (by kernel_rfl) (by kernel_rfl) (.c 0 rfl (.c 2 rfl (.c 3 rfl (.c 4 rfl (.c 5 rfl (.c 6 rfl .n)))))) ?_
              refine r_end ?_
              refine r_region ?_
              refine p_mv rfl rfl ?_
              refine p_add rfl rfl (by omega) rfl ?_
              refine p_as rfl rfl ?_
              refine o_keep (.c 0 rfl (.c 2 rfl (.c 3 rfl (.c 4 rfl (.c 5 rfl (.c 6 rfl .n)))))) ?_
              refine r_back_2 (j + 1) (_) ?_ ?_ (Keep.app (.c 6 rfl (.c 3 rfl .n)) (.c 0 rfl (.c 2 rfl (.c 4 rfl (.c 5 rfl .n))))) ?_
              · omega
              · omega
              · rw [dueW_take hw hyj, if_neg (by rw [hc]; simp), ← List.append_assoc, snocM]; first | exact Ent.rfl | (repeat (first | exact Ent.rfl | refine Ent.c (SelB.ent) ?_ | refine Ent.c (SelS.ent) ?_ | refine Ent.cN ?_ | refine Ent.c (SelX.ent) ?_ | refine Ent.dropR ?_))
            · skip
              have hc : y = true := by rw [hye]; simpa using h4
              refine r_skip ?_
              refine r_end ?_
              refine r_region ?_
              refine p_mv rfl rfl ?_
              refine p_add rfl rfl (by omega) rfl ?_
              refine p_as rfl rfl ?_
              refine o_keep (.c 0 rfl (.c 2 rfl (.c 3 rfl (.c 4 rfl (.c 5 rfl (.c 6 rfl .n)))))) ?_
              refine r_back_2 (j + 1) (ov2) ?_ ?_ (Keep.app (.c 6 rfl (.c 3 rfl .n)) (.c 0 rfl (.c 2 rfl (.c 4 rfl (.c 5 rfl .n))))) ?_
              · omega
              · omega
              · rw [dueW_take hw hyj, if_pos hc, List.append_nil]; first | exact Ent.rfl | (repeat (first | exact Ent.rfl | refine Ent.c (SelB.ent) ?_ | refine Ent.c (SelS.ent) ?_ | refine Ent.cN ?_ | refine Ent.c (SelX.ent) ?_ | refine Ent.dropR ?_))
          · skip
            have hj : d.wants.length ≤ j := by have := of_decide_eq_false h3; omega
            refine r_exit rfl ?_
            refine r_exit rfl ?_
            refine r_region ?_
            refine p_mv rfl rfl ?_
            refine p_add rfl rfl (by omega) rfl ?_
            refine p_as rfl rfl ?_
            refine o_keep (.c 0 rfl (.c 2 rfl (.c 3 rfl (.c 4 rfl .n)))) ?_
            refine r_back_2 (i + 1) (ov2) ?_ ?_ (Keep.app (.c 4 rfl (.c 3 rfl .n)) (.c 0 rfl (.c 2 rfl .n))) ?_
            · omega
            · omega
            · rw [dueL_take hd, Int.zero_add, dueD_ask h0]; rw [List.take_of_length_le hj, List.take_of_length_le (show d.yes.length ≤ j by omega)]; refine Ent.tr (bdealP_close (d := d) t hy rfl rfl rfl) ?_; refine Ent.tr (Ent.mono (SelX.ent (X := restP bdealP ts s.l i))) ?_; refine Ent.tr (many_back ht hd) ?_; first | exact Ent.rfl | (repeat (first | exact Ent.rfl | refine Ent.c (SelB.ent) ?_ | refine Ent.c (SelS.ent) ?_ | refine Ent.cN ?_ | refine Ent.c (SelX.ent) ?_ | refine Ent.dropR ?_))
      · skip
        have h0 : d.state ≠ 0 := of_decide_eq_false h2
        have hsl : (shopsL d.wants).length ≤ 3 := List.length_filter_le _ _
        refine r_skip ?_
        refine r_seq ?_
        refine r_region ?_
        refine p_fa fa_86_0 rfl rfl ?_
        refine p_ldc tc_22 rfl (by rfl) rfl ?_
        refine p_calle cf_76 (.c rfl .n) rfl (ref_ShopsOf _ [sl t.wv 35 2 (d.wants.map rW)] t.wv d.wants hrw (by omega)) fun sv => ?_
        refine o_cat ?_
        refine o_rd sv fun hrs => ?_
        refine p_as rfl rfl ?_
        refine o_keep (.c 0 rfl (.c 2 rfl (.c 3 rfl (.c 4 rfl (.c 5 rfl (.c 7 rfl .n)))))) ?_
        refine r_seq ?_
        refine r_region ?_
        refine p_as rfl rfl ?_
        refine o_keep (.c 0 rfl (.c 2 rfl (.c 3 rfl (.c 4 rfl (.c 5 rfl (.c 7 rfl (.c 8 rfl .n))))))) ?_
        refine r_block ?_
        refine r_loop_2 (fun (j : Nat) (ov2 : Value) => [(8, true, .int .i64 (j : Int)), (3, true, ov2)]) (.c 0 rfl (.c 2 rfl (.c 4 rfl (.c 5 rfl (.c 7 rfl .n))))) (fun (j : Nat) (ov2 : Value) => sl ov2 37 6 ((dueL 0 (s.l.take i) ++ dueS i d ((shopsL d.wants).take j)).map rM) :: sl sv 3 1 ((shopsL d.wants).map rI) :: blk b5 (rowD t d) 86 :: sl t.wv 35 2 (d.wants.map rW) :: sl t.yv 3 1 (t.ys.map rI) :: sl t.tv 3 1 (d.over.map rI) :: restP bdealP ts s.l i :: blk b [lv, ov] 77 :: sl lv 86 4 (List.zipWith rowD ts s.l) :: sl ov 3 1 (s.order.map rI) :: R) (fun (j : Nat) (ov2 : Value) => j ≤ (shopsL d.wants).length) (fun (j : Nat) (ov2 : Value) => (shopsL d.wants).length - j) (0) (ov1) ?_ (.c 8 rfl (.c 3 rfl .n)) ?_ (fun j ov2 hI => ?_)
        · exact Nat.zero_le _
        · rw [List.take_zero, show dueS (i : Int) d [] = [] from rfl, List.append_nil]; first | exact Ent.rfl | (repeat (first | exact Ent.rfl | refine Ent.c (SelB.ent) ?_ | refine Ent.c (SelS.ent) ?_ | refine Ent.cN ?_ | refine Ent.c (SelX.ent) ?_ | refine Ent.dropR ?_))
        · skip
          refine r_seq ?_
          refine r_seq ?_
          refine r_region ?_
          refine p_mv rfl rfl ?_
          refine p_mv rfl rfl ?_
          refine l_op (x_p (pv_lens (Rd.len hrs) ⟨_, Try.underlying23⟩ (.n rfl) rfl rfl rfl rfl (fun _ => rfl)) rfl rfl ?_)
          refine p_lss rfl rfl rfl ?_
          refine o_keep (.c 0 rfl (.c 2 rfl (.c 3 rfl (.c 4 rfl (.c 5 rfl (.c 7 rfl (.c 8 rfl (.c 63 rfl .n)))))))) ?_
          refine r_cond _ rfl (fun h5 => ?_) (fun h5 => ?_)
          · skip
            obtain ⟨z, hz⟩ := getlt (l := shopsL d.wants) (i := j) (by have := of_decide_eq_true h5; omega)
            have hzl := (List.getElem?_eq_some_iff.1 hz).1
            have hds := dueS_len (n := (i : Int)) (d := d) ((shopsL d.wants).take j)
            have htk : ((shopsL d.wants).take j).length ≤ 3 := by simp; omega
            refine r_skip ?_
            refine r_seq ?_
            refine r_block ?_
            refine r_seq ?_
            refine r_plan _ [] mo (.c 0 rfl (.c 2 rfl (.c 3 rfl (.c 4 rfl (.c 5 rfl (.c 7 rfl (.c 8 rfl .n))))))) Ent.rfl ?_
            refine qm_q (i := 0) (l := [.k 5]) rfl rfl rfl rfl (by kernel_rfl) rfl (fun He => PV.rq (pv_fa fa_86_3 (.n rfl) rfl rfl (fun _ => rfl))) ?_
            refine qm_q (i := 1) (l := [.o 0]) rfl rfl rfl rfl (by kernel_rfl) rfl (fun He => RV.rq (q_ldc tc_23 (.n rfl) rfl rfl (fun _ => rfl) (by rfl))) ?_
            refine qm_q (i := 2) (l := [.k 7]) rfl rfl rfl rfl (by kernel_rfl) rfl (fun He => PV.rq (pv_mv (.n rfl) rfl rfl (fun _ => rfl))) ?_
            refine qm_q (i := 3) (l := [.k 8]) rfl rfl rfl rfl (by kernel_rfl) rfl (fun He => PV.rq (pv_mv (.n rfl) rfl rfl (fun _ => rfl))) ?_
            refine qm_q (i := 4) (l := [.o 2, .o 3]) rfl rfl rfl rfl (by kernel_rfl) rfl (fun He => PV.rq (pv_idx Try.underlying23 (.ofC tc_3) hrs (fun hg => ⟨rfl, (mapget hz)⟩) (.n rfl) rfl rfl rfl (fun _ => ⟨rfl, rfl⟩))) ?_
            refine qm_q (i := 5) (l := [.o 4]) rfl rfl rfl rfl (by kernel_rfl) rfl (fun He => RV.rq (rv_ldat (j := 0) tc_3 (Rd.ent hrs (by repeat (first | exact Ent.rfl | exact Ent.one Ent.h | exact Ent.one (SelS.ent) | exact Ent.nil | exact Ent.left | refine Ent.dropR ?_ | refine Ent.tr Ent.skip ?_))) (fun hg => (mapget hz)) (.n rfl) rfl rfl (fun _ => rfl) rfl (fun _ => rfl))) ?_
            refine qm_q (i := 6) (l := [.o 1, .o 5]) rfl rfl rfl rfl (by kernel_rfl) rfl (fun He => rq_call cf_20 (.n rfl) rfl (.c rfl (fun _ => rfl) (.c rfl (fun _ => rfl) .n)) (fun hg => ref_In _ _ t.tv d.over z (Rd.ent hrt (by repeat (first | exact Ent.rfl | exact Ent.one Ent.h | exact Ent.one (SelS.ent) | exact Ent.nil | exact Ent.left | refine Ent.dropR ?_))) (by omega))) ?_
            refine qm_q (i := 7) (l := [.o 6]) rfl rfl rfl rfl (by kernel_rfl) rfl (fun He => PV.rq (pv_not (.n rfl) rfl rfl (fun _ => rfl))) ?_
            refine qm_n (by kernel_rfl) (by kernel_rfl) (by kernel_rfl) (by kernel_rfl) (.c 0 rfl (.c 2 rfl (.c 3 rfl (.c 4 rfl (.c 5 rfl (.c 7 rfl (.c 8 rfl (.c 73 rfl .n)))))))) ?_
            refine r_cond _ rfl (fun h6 => ?_) (fun h6 => ?_)
            · skip
              have hc : d.over.contains z = false := by simpa using h6
              refine r_plan (_) ([sl ov2 37 6 ((dueL 0 (s.l.take i) ++ dueS i d ((shopsL d.wants).take j)).map rM)]) mo (.c 0 rfl (.c 2 rfl (.c 3 rfl (.c 4 rfl (.c 5 rfl (.c 7 rfl (.c 8 rfl .n))))))) (SelS.ent) ?_
              refine qm_q (i := 0) (l := [.k 3]) rfl rfl rfl rfl (by kernel_rfl) rfl (fun He => PV.rq (pv_mv (.n rfl) rfl rfl (fun _ => rfl))) ?_
              refine qm_q (i := 1) (l := [.k 4]) rfl rfl rfl rfl (by kernel_rfl) rfl (fun He => PV.rq (pv_mv (.n rfl) rfl rfl (fun _ => rfl))) ?_
              refine qm_q (i := 2) (l := [.k 7]) rfl rfl rfl rfl (by kernel_rfl) rfl (fun He => PV.rq (pv_mv (.n rfl) rfl rfl (fun _ => rfl))) ?_
              refine qm_q (i := 3) (l := [.k 8]) rfl rfl rfl rfl (by kernel_rfl) rfl (fun He => PV.rq (pv_mv (.n rfl) rfl rfl (fun _ => rfl))) ?_
              refine qm_q (i := 4) (l := [.o 2, .o 3]) rfl rfl rfl rfl (by kernel_rfl) rfl (fun He => PV.rq (pv_idx Try.underlying23 (.ofC tc_3) hrs (fun hg => ⟨rfl, (mapget hz)⟩) (.n rfl) rfl rfl rfl (fun _ => ⟨rfl, rfl⟩))) ?_
              refine qm_q (i := 5) (l := [.o 4]) rfl rfl rfl rfl (by kernel_rfl) rfl (fun He => RV.rq (rv_ldat (j := 0) tc_3 (Rd.ent hrs (by repeat (first | exact Ent.rfl | exact Ent.one Ent.h | exact Ent.one (SelS.ent) | exact Ent.nil | exact Ent.left | refine Ent.dropR ?_ | refine Ent.tr Ent.skip ?_))) (fun hg => (mapget hz)) (.n rfl) rfl rfl (fun _ => rfl) rfl (fun _ => rfl))) ?_
              refine qm_q (i := 6) (l := [.k 5]) rfl rfl rfl rfl (by kernel_rfl) rfl (fun He => PV.rq (pv_fa fa_86_1 (.n rfl) rfl rfl (fun _ => rfl))) ?_
              refine qm_q (i := 7) (l := [.o 6]) rfl rfl rfl rfl (by kernel_rfl) rfl (fun He => RV.rq (q_ldc tc_3 (.n rfl) rfl rfl (fun _ => rfl) (by rfl))) ?_
              refine qm_q (i := 8) (l := [.o 7]) rfl rfl rfl rfl (by kernel_rfl) rfl (fun He => PV.rq (pv_eql (.n rfl) rfl rfl rfl (fun _ => ⟨rfl, rfl⟩))) ?_
              refine qm_q (i := 9) (l := [.o 1, .o 5, .o 8]) rfl rfl rfl rfl (by kernel_rfl) rfl (fun He => PV.rq (pv_build zr_37 pl_37 (.n rfl) rfl (.c rfl (fun _ => rfl) rfl rfl rfl (by repeat constructor) (.c rfl (fun _ => rfl) rfl rfl rfl (by repeat constructor) (.c rfl (fun _ => rfl) rfl rfl rfl (by repeat constructor) (.c rfl (fun _ => rfl) rfl rfl rfl (by repeat constructor) .n)))))) ?_
              refine qm_bslice1 Try.underlying83 (.ofA ta_37) zr_37 rfl (i := 10) [.o 9] (by kernel_rfl) (by kernel_rfl) rfl rfl rfl rfl (by kernel_rfl) (by kernel_rfl) ⟨_, .n rfl, rfl⟩ rfl rfl rfl rfl rfl rfl fun b84 => ?_
              refine qa_append Try.underlying83 el_37 rfl rfl (i := 11) [.o 0, .o 10] (by kernel_rfl) (by kernel_rfl) rfl rfl rfl rfl (by kernel_rfl) (by kernel_rfl) ⟨_, .n rfl, rfl⟩ rfl rfl rfl (Rd.blit rfl rfl) (by simp only [List.length_map, List.length_append, List.length_cons, List.length_nil]; omega) fun v85 => ?_
              refine qm_rd v85 fun hr85 => ?_
              refine qm_q (i := 12) (l := [.o 11]) rfl rfl rfl rfl (by kernel_rfl) rfl (fun He => PV.rq (pv_as (.n rfl) rfl rfl (fun _ => rfl))) ?_
              refine qm_n (by kernel_rfl) (by kernel_rfl) (by kernel_rfl) (by kernel_rfl) (.c 0 rfl (.c 2 rfl (.c 3 rfl (.c 4 rfl (.c 5 rfl (.c 7 rfl (.c 8 rfl .n))))))) ?_
              refine r_end ?_
              refine r_region ?_
              refine p_mv rfl rfl ?_
              refine p_add rfl rfl (by omega) rfl ?_
              refine p_as rfl rfl ?_
              refine o_keep (.c 0 rfl (.c 2 rfl (.c 3 rfl (.c 4 rfl (.c 5 rfl (.c 7 rfl (.c 8 rfl .n))))))) ?_
              refine r_back_2 (j + 1) (_) ?_ ?_ (Keep.app (.c 8 rfl (.c 3 rfl .n)) (.c 0 rfl (.c 2 rfl (.c 4 rfl (.c 5 rfl (.c 7 rfl .n)))))) ?_
              · omega
              · omega
              · rw [dueS_take hz, if_neg (by rw [hc]; simp), ← List.append_assoc, snocM]; first | exact Ent.rfl | (repeat (first | exact Ent.rfl | refine Ent.c (SelB.ent) ?_ | refine Ent.c (SelS.ent) ?_ | refine Ent.cN ?_ | refine Ent.c (SelX.ent) ?_ | refine Ent.dropR ?_))
            · skip
              have hc : d.over.contains z = true := by simpa using h6
              refine r_skip ?_
              refine r_end ?_
              refine r_region ?_
              refine p_mv rfl rfl ?_
              refine p_add rfl rfl (by omega) rfl ?_
              refine p_as rfl rfl ?_
              refine o_keep (.c 0 rfl (.c 2 rfl (.c 3 rfl (.c 4 rfl (.c 5 rfl (.c 7 rfl (.c 8 rfl .n))))))) ?_
              refine r_back_2 (j + 1) (ov2) ?_ ?_ (Keep.app (.c 8 rfl (.c 3 rfl .n)) (.c 0 rfl (.c 2 rfl (.c 4 rfl (.c 5 rfl (.c 7 rfl .n)))))) ?_
              · omega
              · omega
              · rw [dueS_take hz, if_pos hc, List.append_nil]; first | exact Ent.rfl | (repeat (first | exact Ent.rfl | refine Ent.c (SelB.ent) ?_ | refine Ent.c (SelS.ent) ?_ | refine Ent.cN ?_ | refine Ent.c (SelX.ent) ?_ | refine Ent.dropR ?_))
          · skip
            have hj : (shopsL d.wants).length ≤ j := by have := of_decide_eq_false h5; omega
            refine r_exit rfl ?_
            refine r_end ?_
            refine r_region ?_
            refine p_mv rfl rfl ?_
            refine p_add rfl rfl (by omega) rfl ?_
            refine p_as rfl rfl ?_
            refine o_keep (.c 0 rfl (.c 2 rfl (.c 3 rfl (.c 4 rfl .n)))) ?_
            refine r_back_2 (i + 1) (ov2) ?_ ?_ (Keep.app (.c 4 rfl (.c 3 rfl .n)) (.c 0 rfl (.c 2 rfl .n))) ?_
            · omega
            · omega
            · rw [dueL_take hd, Int.zero_add, dueD_end h0]; rw [List.take_of_length_le hj]; refine Ent.tr (bdealP_close (d := d) t hy rfl rfl rfl) ?_; refine Ent.tr (Ent.mono (SelX.ent (X := restP bdealP ts s.l i))) ?_; refine Ent.tr (many_back ht hd) ?_; first | exact Ent.rfl | (repeat (first | exact Ent.rfl | refine Ent.c (SelB.ent) ?_ | refine Ent.c (SelS.ent) ?_ | refine Ent.cN ?_ | refine Ent.c (SelX.ent) ?_ | refine Ent.dropR ?_))
    · skip
      have hilt : s.l.length ≤ i := by have := of_decide_eq_false h1; omega
      refine r_exit rfl ?_
      refine r_seq ?_
      refine r_region ?_
      refine p_mv rfl rfl ?_
      refine p_as rfl rfl ?_
      refine o_keep (.c 2 rfl .n) ?_
      refine r_rete (ov1) hF rfl (.c (.t rfl) .n) ?_ ?_
      · refine Ent.catI ?_; rw [show dueB s = dueL 0 (s.l.take i) by rw [List.take_of_length_le hilt]; rfl]; refine Ent.c (SelS.ent) ?_; first | exact Ent.rfl | (repeat (first | exact Ent.rfl | refine Ent.c (SelB.ent) ?_ | refine Ent.c (SelS.ent) ?_ | refine Ent.cN ?_ | refine Ent.c (SelX.ent) ?_ | refine Ent.dropR ?_))
      · rfl

theorem book_Due (M : Amb) (b : Nat) (s : BrokS) (hI : BInv s) : FnE (α := Value) Try.prog M 42 [ptr b] [bookP b 77 [] s] (fun x => x) (fun x => [sl x 37 6 ((dueB s).map rM), bookP b 77 [] s]) := FnE.book fun lv ov ts hts => book_Due_o M b s hI lv ov ts hts
theorem book_DueN (M : Amb) (b : Nat) (s : BrokS) (hI : BInv s) (lv ov : Value) (ts : List DT) (hts : ts.length = s.l.length) : FnN (α := Value) Try.prog M 42 [ptr b] [blk b [lv, ov] 77, sl lv 86 4 (List.zipWith rowD ts s.l), sl ov 3 1 (s.order.map rI), manyP bdealP ts s.l] (fun x => x) (fun x => [sl x 37 6 ((dueB s).map rM)]) := book_Due_o M b s hI lv ov ts hts
theorem broker_DueN (M : Amb) (b : Nat) (s : BrokS) (hI : BInv s) : FnN (α := Value) Try.prog M 41 [ptr b] [brokP b s] (fun x => x) (fun x => [sl x 37 6 ((dueB s).map rM)]) := broker_Due M b s hI
theorem broker_DoneN (M : Amb) (b : Nat) (s : BrokS) (hI : BInv s) (hb : s.order.length ≤ 1000) : FnN (α := Value) Try.prog M 22 [ptr b] [brokP b s] (fun x => x) (fun x => [sl x 3 1 (s.order.map rI)]) := broker_Done M b s hI hb
theorem broker_WantsN (M : Amb) (b : Nat) (s : BrokS) (hI : BInv s) (n : Int) (hw : ∀ d ∈ s.l, d.wants.length ≤ 1000) : FnN (α := Value) Try.prog M 45 [ptr b, .int .i64 n] [brokP b s] (fun x => x) (fun x => [sl x 35 2 ((wantsB s n).map rW)]) := broker_Wants M b s hI n hw
theorem broker_BeginC (M : Amb) (b : Nat) (s : BrokS) (hI : BInv s) (wv : Value) (ws : List Want) (hw : Rd M [] wv 2 (ws.map rW)) (hb : ws.length ≤ 1000) : FnC Try.prog M 16 [ptr b, wv] (.tuple #[.int .i64 (beginB s ws).2.1, .int .i64 (beginB s ws).2.2]) [brokP b s] [brokP b (beginB s ws).1] := fun R =>
  broker_Begin M b s hI R wv ws hw.all hb
theorem wants_bb {b : BrokS} (h : BInv b) : ∀ d ∈ b.l, d.wants.length ≤ 1000 := fun d hd => by
  have := (h.d d hd).le; omega
def rBk (x : BkStep) : List Value := [.int .i64 x.d, .int .i64 x.n, x.wv, .int .i64 x.m.kind, .int .i64 x.m.deal, .int .i64 x.m.shop, .int .i64 x.m.ctr, .int .i64 x.m.dl, .bool x.m.yes, .bool x.yes]
section opening3
variable {P : Program} {F : Exit → Act → World → Prop} {N : Nat} {M : Amb} {K : List KI} {env : Env} {ops : Array Oper} {rest : List Oper} {b : Nat} {s : BrokS} {R : List HP} {T : TypeId} {rs : List Value}
variable {E0 : Env} {Hq He : List HP} {p : Plan} {eff : List Nat}
theorem qm_book (h : ∀ lv ov ts, ts.length = s.l.length → QM P F N M K ops E0 Hq p eff (bookL b T rs s lv ov ts ++ He)) : QM P F N M K ops E0 Hq p eff (bookP b T rs s :: He) := fun hQ hD fuel listed a w st hu he ho => by
  obtain ⟨lv, ov, ts, hl, ho'⟩ := bookP_open (R := He ++ Hq) ho
  exact h lv ov ts hl hQ hD fuel listed a w st hu he (by rw [List.append_assoc]; exact ho')
end opening3

theorem ref_SameWants (M : Amb) (H : List HP) (v u : Value) (l k : List Want) (hv : Rd M H v 2 (l.map rW)) (hu : Rd M H u 2 (k.map rW)) (hb : l.length ≤ 1000) : FnV Try.prog M H 44 [v, u] (.bool (decide (l = k))) := by
  refine fn_intro Try.func44 rfl Try.ntmps44 rfl fun F hF => ?_
  refine r_seq ?_
  refine r_region ?_
  refine p_as rfl rfl ?_
  refine o_keep (.c 0 rfl (.c 1 rfl (.c 4 rfl .n))) ?_
  refine r_seq ?_
  refine r_seq ?_
  refine r_region ?_
  refine p_mv rfl rfl ?_
  refine l_op (x_p (pv_lens hv.len ⟨_, Try.underlying22⟩ (.n rfl) rfl rfl rfl rfl (fun _ => rfl)) rfl rfl ?_)
  refine p_mv rfl rfl ?_
  refine l_op (x_p (pv_lens hu.len ⟨_, Try.underlying22⟩ (.n rfl) rfl rfl rfl rfl (fun _ => rfl)) rfl rfl ?_)
  refine p_neq rfl rfl rfl ?_
  refine o_keep (.c 0 rfl (.c 1 rfl (.c 4 rfl (.c 10 rfl .n)))) ?_
  refine r_cond _ rfl (fun h1 => ?_) (fun h1 => ?_)
  · skip
    have hne : l.length ≠ k.length := by simp at h1; omega
    refine r_seq ?_
    refine r_region ?_
    refine p_as rfl rfl ?_
    refine o_keep (.c 0 rfl (.c 1 rfl (.c 4 rfl .n))) ?_
    refine r_retv hF rfl (.c (.t rfl) .n) ?_ ?_
    · first | exact Ent.rfl | (repeat (first | exact Ent.rfl | refine Ent.c (SelB.ent) ?_ | refine Ent.c (SelS.ent) ?_ | refine Ent.cN ?_ | refine Ent.c (SelX.ent) ?_ | refine Ent.dropR ?_))
    · exact bool_eq (by rw [decide_eq_false]; intro e; exact hne (by rw [e]))
  · skip
    have hlen : l.length = k.length := by simp at h1; omega
    refine r_skip ?_
    refine r_seq ?_
    refine r_seq ?_
    refine r_region ?_
    refine p_as rfl rfl ?_
    refine o_keep (.c 0 rfl (.c 1 rfl (.c 4 rfl (.c 5 rfl .n)))) ?_
    refine r_block ?_
    refine r_loop_1 (fun (i : Nat) => [(5, true, .int .i64 (i : Int))]) (.c 0 rfl (.c 1 rfl (.c 4 rfl .n))) (fun (i : Nat) => H) (fun (i : Nat) => i ≤ l.length ∧ l.take i = k.take i) (fun (i : Nat) => l.length - i) (0) ?_ (.c 5 rfl .n) ?_ (fun i hI => ?_)
    · exact ⟨Nat.zero_le _, by simp⟩
    · first | exact Ent.rfl | (repeat (first | exact Ent.rfl | refine Ent.c (SelB.ent) ?_ | refine Ent.c (SelS.ent) ?_ | refine Ent.cN ?_ | refine Ent.c (SelX.ent) ?_ | refine Ent.dropR ?_))
    · skip
      obtain ⟨hil, hI⟩ := hI
      refine r_seq ?_
      refine r_seq ?_
      refine r_region ?_
      refine p_mv rfl rfl ?_
      refine p_mv rfl rfl ?_
      refine l_op (x_p (pv_lens hv.len ⟨_, Try.underlying22⟩ (.n rfl) rfl rfl rfl rfl (fun _ => rfl)) rfl rfl ?_)
      refine p_lss rfl rfl rfl ?_
      refine o_keep (.c 0 rfl (.c 1 rfl (.c 4 rfl (.c 5 rfl (.c 14 rfl .n))))) ?_
      refine r_cond _ rfl (fun h2 => ?_) (fun h2 => ?_)
      · skip
        have hi : i < l.length := by have := of_decide_eq_true h2; omega
        obtain ⟨x, h1⟩ := getlt hi
        obtain ⟨y, h2⟩ := getlt (l := k) (i := i) (by omega)
        refine r_skip ?_
        refine r_seq ?_
        refine r_block ?_
        refine r_seq ?_
        refine r_plan _ [] mo (.c 0 rfl (.c 1 rfl (.c 4 rfl (.c 5 rfl .n)))) Ent.rfl ?_
        refine qm_q (i := 0) (l := [.k 0]) rfl rfl rfl rfl (by kernel_rfl) rfl (fun He => PV.rq (pv_mv (.n rfl) rfl rfl (fun _ => rfl))) ?_
        refine qm_q (i := 1) (l := [.k 5]) rfl rfl rfl rfl (by kernel_rfl) rfl (fun He => PV.rq (pv_mv (.n rfl) rfl rfl (fun _ => rfl))) ?_
        refine qm_q (i := 2) (l := [.o 0, .o 1]) rfl rfl rfl rfl (by kernel_rfl) rfl (fun He => PV.rq (pv_idx Try.underlying22 (.ofA ta_35) hv (fun hg => ⟨rfl, (mapget h1)⟩) (.n rfl) rfl rfl rfl (fun _ => ⟨rfl, rfl⟩))) ?_
        refine qm_q (i := 3) (l := [.o 2]) rfl rfl rfl rfl (by kernel_rfl) rfl (fun He => RV.rq (rv_ldats (j := 0) ta_35 (Rd.ent hv (by repeat (first | exact Ent.rfl | exact Ent.one Ent.h | exact Ent.one (SelS.ent) | exact Ent.nil | exact Ent.left | refine Ent.dropR ?_ | refine Ent.tr Ent.skip ?_))) (fun hg => (mapget h1)) (.n rfl) rfl rfl (fun _ => rfl) rfl (.s (.s .z)))) ?_
        refine qm_q (i := 4) (l := [.k 1]) rfl rfl rfl rfl (by kernel_rfl) rfl (fun He => PV.rq (pv_mv (.n rfl) rfl rfl (fun _ => rfl))) ?_
        refine qm_q (i := 5) (l := [.k 5]) rfl rfl rfl rfl (by kernel_rfl) rfl (fun He => PV.rq (pv_mv (.n rfl) rfl rfl (fun _ => rfl))) ?_
        refine qm_q (i := 6) (l := [.o 4, .o 5]) rfl rfl rfl rfl (by kernel_rfl) rfl (fun He => PV.rq (pv_idx Try.underlying22 (.ofA ta_35) hu (fun hg => ⟨rfl, (mapget h2)⟩) (.n rfl) rfl rfl rfl (fun _ => ⟨rfl, rfl⟩))) ?_
        refine qm_q (i := 7) (l := [.o 6]) rfl rfl rfl rfl (by kernel_rfl) rfl (fun He => RV.rq (rv_ldats (j := 0) ta_35 (Rd.ent hu (by repeat (first | exact Ent.rfl | exact Ent.one Ent.h | exact Ent.one (SelS.ent) | exact Ent.nil | exact Ent.left | refine Ent.dropR ?_ | refine Ent.tr Ent.skip ?_))) (fun hg => (mapget h2)) (.n rfl) rfl rfl (fun _ => rfl) rfl (.s (.s .z)))) ?_
        refine qm_q (i := 8) (l := [.o 3, .o 7]) rfl rfl rfl rfl (by kernel_rfl) rfl (fun He => PV.rq (pv_ane (eq_Want) (.n rfl) rfl rfl rfl (fun _ => ⟨rfl, rfl⟩))) ?_
        refine qm_n (by kernel_rfl) (by kernel_rfl) (by kernel_rfl) (by kernel_rfl) (.c 0 rfl (.c 1 rfl (.c 4 rfl (.c 5 rfl (.c 25 rfl .n))))) ?_
        refine r_cond _ rfl (fun h3 => ?_) (fun h3 => ?_)
        · skip
          have hxy : x ≠ y := by simpa using h3
          refine r_seq ?_
          refine r_region ?_
          refine p_as rfl rfl ?_
          refine o_keep (.c 0 rfl (.c 1 rfl (.c 4 rfl (.c 5 rfl .n)))) ?_
          refine r_retv hF rfl (.c (.t rfl) .n) ?_ ?_
          · first | exact Ent.rfl | (repeat (first | exact Ent.rfl | refine Ent.c (SelB.ent) ?_ | refine Ent.c (SelS.ent) ?_ | refine Ent.cN ?_ | refine Ent.c (SelX.ent) ?_ | refine Ent.dropR ?_))
          · exact bool_eq (by rw [decide_eq_false (same_ne h1 h2 hxy)])
        · skip
          obtain rfl : x = y := by simpa using h3
          refine r_skip ?_
          refine r_end ?_
          refine r_region ?_
          refine p_mv rfl rfl ?_
          refine p_add rfl rfl (by omega) rfl ?_
          refine p_as rfl rfl ?_
          refine o_keep (.c 0 rfl (.c 1 rfl (.c 4 rfl (.c 5 rfl .n)))) ?_
          refine r_back_1 (i + 1) ?_ ?_ (Keep.app (.c 5 rfl .n) (.c 0 rfl (.c 1 rfl (.c 4 rfl .n)))) ?_
          · exact ⟨by omega, same_step hI h1 h2⟩
          · omega
          · first | exact Ent.rfl | (repeat (first | exact Ent.rfl | refine Ent.c (SelB.ent) ?_ | refine Ent.c (SelS.ent) ?_ | refine Ent.cN ?_ | refine Ent.c (SelX.ent) ?_ | refine Ent.dropR ?_))
      · skip
        have hi : l.length ≤ i := by have := of_decide_eq_false h2; omega
        refine r_exit rfl ?_
        refine r_seq ?_
        refine r_region ?_
        refine p_as rfl rfl ?_
        refine o_keep (.c 4 rfl .n) ?_
        refine r_retv hF rfl (.c (.t rfl) .n) ?_ ?_
        · first | exact Ent.rfl | (repeat (first | exact Ent.rfl | refine Ent.c (SelB.ent) ?_ | refine Ent.c (SelS.ent) ?_ | refine Ent.cN ?_ | refine Ent.c (SelX.ent) ?_ | refine Ent.dropR ?_))
        · exact bool_eq (by rw [decide_eq_true (same_fin hlen hI hi)])

end Go.Proofs.Ytmakdilmibjpbab
