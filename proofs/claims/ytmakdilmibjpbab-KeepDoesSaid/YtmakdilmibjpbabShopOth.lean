/- The walks of ShopOth: written by a program of ours (gen.py) over the engine. -/
import Derived.Test.YtmakdilmibjpbabPlain
import Derived.Test.YtmakdilmibjpbabFacts
import Derived.Test.YtmakdilmibjpbabShopLaws2
namespace Go.Proofs.Ytmakdilmibjpbab
open Go Go.RowKit
set_option linter.unusedVariables false
set_option linter.unusedSimpArgs false
set_option maxRecDepth 20000

abbrev vB (b : Bool) : Value := .bool b
structure OvI (s : ShopS) (i : Nat) (ob db : List Bool) : Prop where
  le : i ≤ 8
  lo : ob.length = 8
  ld : db.length = 8
  at' : ∀ j : Nat, j < i → ob.getD j false = (overL s.over (j : Int)).isSome ∧ db.getD j false = (overL s.over (j : Int)).getD false
theorem OvI.next {s : ShopS} {i : Nat} {ob db : List Bool} (h : OvI s i ob db) (hi : i < 8) : OvI s (i + 1) (ob.set i (overL s.over (i : Int)).isSome) (db.set i ((overL s.over (i : Int)).getD false)) := by
  refine ⟨by omega, by simp [h.lo], by simp [h.ld], fun j hj => ?_⟩
  by_cases e : j = i
  · subst e
    have h1 := h.lo; have h2 := h.ld
    simp [List.getD_eq_getElem?_getD, h1, h2, hi]
  · have := h.at' j (by omega)
    have e' : i ≠ j := fun q => e q.symm
    simpa [List.getD_eq_getElem?_getD, List.getElem?_set_ne e'] using this
theorem bget8 {hs : List Bool} {i : Nat} (h : i < hs.length) : (hs.map vB)[i]? = some (.bool (hs.getD i false)) := by rw [List.getElem?_map, getDs (d := false) h]; rfl

theorem law_Others1 (M : Amb) (q9 q7 p : Nat) (s : ShopS) (x : SStep) (hb1 : s.holds.length ≤ 1000) (hb2 : s.over.length ≤ 1000) : FnE (α := Value) Try.prog M 36 [ptr q9, ptr q7] [blk q9 [ptr p] 44, blk q7 (rSS x) 63, shopP p s] (fun r => r) (fun r => [sl r 67 3 ((restH x.deal s.holds).map rH), blk q9 [ptr p] 44, blk q7 (rSS x) 63, shopP p s]) := by
  refine fne_intro Try.func36 rfl Try.ntmps36 rfl fun R F hF => ?_
  refine r_cat ?_
  refine r_seq ?_
  refine r_region ?_
  refine p_as rfl rfl ?_
  refine o_keep (.c 0 rfl (.c 1 rfl (.c 2 rfl .n))) ?_
  refine r_seq ?_
  refine r_region ?_
  refine p_as rfl rfl ?_
  refine o_keep (.c 0 rfl (.c 1 rfl (.c 2 rfl (.c 3 rfl .n)))) ?_
  refine r_seq ?_
  refine r_region ?_
  refine p_ldc tc_44 rfl (by rfl) rfl ?_
  refine p_calle cf_30 (.c rfl .n) rfl (shop_Holds _ p s hb1 hb2) fun hv => ?_
  refine o_cat ?_
  refine o_rd hv fun hrh => ?_
  refine p_as rfl rfl ?_
  refine o_keep (.c 1 rfl (.c 2 rfl (.c 3 rfl (.c 4 rfl .n)))) ?_
  refine r_seq ?_
  refine r_seq ?_
  refine r_region ?_
  refine p_as rfl rfl ?_
  refine o_keep (.c 1 rfl (.c 2 rfl (.c 3 rfl (.c 4 rfl (.c 5 rfl .n))))) ?_
  refine r_block ?_
  refine r_loop_2 (fun (i : Nat) (rv : Value) => [(5, true, .int .i64 (i : Int)), (3, true, rv)]) (.c 1 rfl (.c 2 rfl (.c 4 rfl .n))) (fun (i : Nat) (rv : Value) => sl hv 67 3 (s.holds.map rH) :: sl rv 67 3 ((restH x.deal (s.holds.take i)).map rH) :: shopP p s :: blk q9 [ptr p] 44 :: blk q7 (rSS x) 63 :: R) (fun (i : Nat) (rv : Value) => i ≤ s.holds.length) (fun (i : Nat) (rv : Value) => s.holds.length - i) (0) (.slice Option.none 0 0) ?_ (.c 5 rfl (.c 3 rfl .n)) ?_ (fun i rv hI => ?_)
  · exact Nat.zero_le _
  · first | exact Ent.rfl | (repeat (first | exact Ent.rfl | refine Ent.c (SelB.ent) ?_ | refine Ent.c (SelS.ent) ?_ | refine Ent.cN ?_ | refine Ent.c (SelX.ent) ?_ | refine Ent.dropR ?_))
  · skip
    have hil := hI
    refine r_seq ?_
    refine r_seq ?_
    refine r_region ?_
    refine p_mv rfl rfl ?_
    refine p_mv rfl rfl ?_
    refine l_op (x_p (pv_lens (Rd.len hrh) ⟨_, Try.underlying55⟩ (.n rfl) rfl rfl rfl rfl (fun _ => rfl)) rfl rfl ?_)
    refine p_lss rfl rfl rfl ?_
    refine o_keep (.c 1 rfl (.c 2 rfl (.c 3 rfl (.c 4 rfl (.c 5 rfl (.c 11 rfl .n)))))) ?_
    refine r_cond _ rfl (fun h1 => ?_) (fun h1 => ?_)
    · try simp only [Bool.and_eq_true, Bool.or_eq_true, Bool.or_eq_false_iff, Bool.not_eq_true', Bool.not_eq_false', decide_eq_true_eq, decide_eq_false_iff_not, Bool.and_eq_false_iff] at h1
      obtain ⟨z, hz⟩ := getlt (l := s.holds) (i := i) (by omega)
      have hts := take_S hz
      have hre := restH_app x.deal (s.holds.take i) z
      rw [← hts] at hre
      refine r_skip ?_
      refine r_seq ?_
      refine r_block ?_
      refine r_seq ?_
      refine r_plan _ [] mo (.c 1 rfl (.c 2 rfl (.c 3 rfl (.c 4 rfl (.c 5 rfl .n))))) Ent.rfl ?_
      refine qm_q (i := 0) (l := [.k 4]) rfl rfl rfl rfl (by kernel_rfl) rfl (fun He => PV.rq (pv_mv (.n rfl) rfl rfl (fun _ => rfl))) ?_
      refine qm_q (i := 1) (l := [.k 5]) rfl rfl rfl rfl (by kernel_rfl) rfl (fun He => PV.rq (pv_mv (.n rfl) rfl rfl (fun _ => rfl))) ?_
      refine qm_q (i := 2) (l := [.o 0, .o 1]) rfl rfl rfl rfl (by kernel_rfl) rfl (fun He => PV.rq (pv_idx Try.underlying55 (.ofA ta_67) hrh (fun hg => ⟨rfl, (mapget hz)⟩) (.n rfl) rfl rfl rfl (fun _ => ⟨rfl, rfl⟩))) ?_
      refine qm_q (i := 3) (l := [.o 2]) rfl rfl rfl rfl (by kernel_rfl) rfl (fun He => PV.rq (pv_faat fa_67_0 (fun hg => Rd.sh hrh (mapget hz)) (.n rfl) rfl rfl (fun _ => rfl))) ?_
      refine qm_q (i := 4) (l := [.o 3]) rfl rfl rfl rfl (by kernel_rfl) rfl (fun He => RV.rq (rv_ldat (j := 0) tc_3 (Rd.ent hrh (by repeat (first | exact Ent.rfl | exact Ent.one Ent.h | exact Ent.one (SelS.ent) | exact Ent.nil | exact Ent.left | refine Ent.dropR ?_ | refine Ent.tr Ent.skip ?_))) (fun hg => (mapget hz)) (.n rfl) rfl rfl (fun _ => rfl) rfl (fun _ => rfl))) ?_
      refine qm_q (i := 5) (l := [.k 1]) rfl rfl rfl rfl (by kernel_rfl) rfl (fun He => PV.rq (pv_fa fa_63_1 (.n rfl) rfl rfl (fun _ => rfl))) ?_
      refine qm_q (i := 6) (l := [.o 5]) rfl rfl rfl rfl (by kernel_rfl) rfl (fun He => RV.rq (q_ldc tc_3 (.n rfl) rfl rfl (fun _ => rfl) (by rfl))) ?_
      refine qm_q (i := 7) (l := [.o 4, .o 6]) rfl rfl rfl rfl (by kernel_rfl) rfl (fun He => PV.rq (pv_neq (.n rfl) rfl rfl rfl (fun _ => ⟨rfl, rfl⟩))) ?_
      refine qm_n (by kernel_rfl) (by kernel_rfl) (by kernel_rfl) (by kernel_rfl) (.c 1 rfl (.c 2 rfl (.c 3 rfl (.c 4 rfl (.c 5 rfl (.c 21 rfl .n)))))) ?_
      refine r_cond _ rfl (fun h2 => ?_) (fun h2 => ?_)
      · try simp only [Bool.and_eq_true, Bool.or_eq_true, Bool.or_eq_false_iff, Bool.not_eq_true', Bool.not_eq_false', decide_eq_true_eq, decide_eq_false_iff_not, Bool.and_eq_false_iff] at h2
        rw [if_neg h2] at hre
        refine r_rd rv fun hrr => ?_
        refine r_region ?_
        refine p_mv rfl rfl ?_
        refine p_mv rfl rfl ?_
        refine p_mv rfl rfl ?_
        refine p_idx Try.underlying55 (.ofA ta_67) hrh rfl (mapget hz) rfl rfl rfl ?_
        refine p_ldats 0 ta_67 (Rd.ent hrh (by repeat (first | exact Ent.rfl | exact Ent.one Ent.h | exact Ent.one (SelS.ent) | exact Ent.nil | exact Ent.left | refine Ent.dropR ?_ | refine Ent.tr Ent.skip ?_))) (mapget hz) rfl rfl (.s (.s (.s .z))) rfl ?_
        refine p_bslice1 Try.underlying55 (.ofA ta_67) zr_67 rfl rfl rfl rfl rfl rfl rfl fun b27 => ?_
        refine p_append Try.underlying55 el_67 rfl rfl rfl rfl rfl (Rd.blit rfl rfl) (by simp; have := restH_le x.deal (s.holds.take i); simp at this; omega) fun v28 => ?_
        refine o_rd v28 fun hr28 => ?_
        refine p_as rfl rfl ?_
        refine o_keep (.c 1 rfl (.c 2 rfl (.c 3 rfl (.c 4 rfl (.c 5 rfl .n))))) ?_
        refine r_end ?_
        refine r_region ?_
        refine p_mv rfl rfl ?_
        refine p_add rfl rfl (by omega) rfl ?_
        refine p_as rfl rfl ?_
        refine o_keep (.c 1 rfl (.c 2 rfl (.c 3 rfl (.c 4 rfl (.c 5 rfl .n))))) ?_
        refine r_back_2 (i + 1) (_) ?_ ?_ (Keep.app (.c 5 rfl (.c 3 rfl .n)) (.c 1 rfl (.c 2 rfl (.c 4 rfl .n)))) ?_
        · omega
        · omega
        · rw [hre, List.map_append]; first | exact Ent.rfl | (repeat (first | exact Ent.rfl | refine Ent.c (SelB.ent) ?_ | refine Ent.c (SelS.ent) ?_ | refine Ent.cN ?_ | refine Ent.c (SelX.ent) ?_ | refine Ent.dropR ?_))
      · try simp only [Bool.and_eq_true, Bool.or_eq_true, Bool.or_eq_false_iff, Bool.not_eq_true', Bool.not_eq_false', decide_eq_true_eq, decide_eq_false_iff_not, Bool.and_eq_false_iff] at h2
        have hxd : z.deal = x.deal := by simpa using h2
        rw [if_pos hxd] at hre
        refine r_skip ?_
        refine r_end ?_
        refine r_region ?_
        refine p_mv rfl rfl ?_
        refine p_add rfl rfl (by omega) rfl ?_
        refine p_as rfl rfl ?_
        refine o_keep (.c 1 rfl (.c 2 rfl (.c 3 rfl (.c 4 rfl (.c 5 rfl .n))))) ?_
        refine r_back_2 (i + 1) (rv) ?_ ?_ (Keep.app (.c 5 rfl (.c 3 rfl .n)) (.c 1 rfl (.c 2 rfl (.c 4 rfl .n)))) ?_
        · omega
        · omega
        · rw [hre, List.append_nil]; first | exact Ent.rfl | (repeat (first | exact Ent.rfl | refine Ent.c (SelB.ent) ?_ | refine Ent.c (SelS.ent) ?_ | refine Ent.cN ?_ | refine Ent.c (SelX.ent) ?_ | refine Ent.dropR ?_))
    · try simp only [Bool.and_eq_true, Bool.or_eq_true, Bool.or_eq_false_iff, Bool.not_eq_true', Bool.not_eq_false', decide_eq_true_eq, decide_eq_false_iff_not, Bool.and_eq_false_iff] at h1
      have hil2 : s.holds.length ≤ i := by omega
      rw [List.take_of_length_le hil2]
      refine r_exit rfl ?_
      refine r_seq ?_
      refine r_region ?_
      refine p_mv rfl rfl ?_
      refine p_as rfl rfl ?_
      refine o_keep (.c 2 rfl .n) ?_
      refine r_rete (rv) hF rfl (.c (.t rfl) .n) ?_ ?_
      · refine Ent.catI ?_; first | exact Ent.rfl | (repeat (first | exact Ent.rfl | refine Ent.c (SelB.ent) ?_ | refine Ent.c (SelS.ent) ?_ | refine Ent.cN ?_ | refine Ent.c (SelX.ent) ?_ | refine Ent.dropR ?_))
      · rfl

theorem law_ShopOthers (M : Amb) (H : List HP) (no : Int) (ws : List Int) (h6 : ws.length = 6) (lv : Value) (ls : List SStep) (hl : Rd M [] lv 5 (ls.map rSS)) (x : SStep) : FnV Try.prog M H 7 [.int .i64 no, .agg (ws.map vI).toArray, lv, .agg (rSS x).toArray] (.bool true) := by
  refine fn_intro Try.func7 rfl Try.ntmps7 rfl fun F hF => ?_
  refine r_seq ?_
  refine r_region ?_
  refine p_box rfl rfl rfl fun b5 => ?_
  refine p_box rfl rfl rfl fun b7 => ?_
  refine p_as rfl rfl ?_
  refine o_keep (.c 0 rfl (.c 2 rfl (.c 5 rfl (.c 7 rfl (.c 8 rfl .n))))) ?_
  refine r_seq ?_
  refine r_seq ?_
  refine r_region ?_
  refine p_callv cf_23 (.n) rfl (law_shopBegun _ _) ?_
  refine p_not rfl rfl ?_
  refine o_keep (.c 0 rfl (.c 2 rfl (.c 5 rfl (.c 7 rfl (.c 8 rfl (.c 21 rfl .n)))))) ?_
  refine r_cond _ rfl (fun h1 => ?_) (fun h1 => ?_)
  · simp at h1
  · skip
    refine r_skip ?_
    refine r_seq ?_
    refine r_seq ?_
    refine r_region ?_
    refine p_mv rfl rfl ?_
    refine l_op (x_p (pv_lens hl.len ⟨_, Try.underlying43⟩ (.n rfl) rfl rfl rfl rfl (fun _ => rfl)) rfl rfl ?_)
    refine p_gtr rfl rfl rfl ?_
    refine o_keep (.c 0 rfl (.c 2 rfl (.c 5 rfl (.c 7 rfl (.c 8 rfl (.c 24 rfl .n)))))) ?_
    refine r_cond _ rfl (fun h2 => ?_) (fun h2 => ?_)
    · skip
      refine r_seq ?_
      refine r_region ?_
      refine p_as rfl rfl ?_
      refine o_keep (.c 0 rfl (.c 2 rfl (.c 5 rfl (.c 7 rfl (.c 8 rfl .n))))) ?_
      refine r_retv hF rfl (.c (.t rfl) .n) ?_ ?_
      · first | exact Ent.rfl | (repeat (first | exact Ent.rfl | refine Ent.c (SelB.ent) ?_ | refine Ent.c (SelS.ent) ?_ | refine Ent.cN ?_ | refine Ent.c (SelX.ent) ?_ | refine Ent.dropR ?_))
      · first | rfl | exact bool_eq (by simp)
    · skip
      have hL := of_decide_eq_false h2
      refine r_skip ?_
      refine r_seq ?_
      rcases hn : newS no ws with _ | s0
      · skip
        refine r_region ?_
        refine p_mv rfl rfl ?_
        refine p_lda ta_42 rfl (by exact (Tk.all (by first | rfl | assumption | (simp only [List.drop_zero, List.length_map]; assumption) | (simp [*]; done)))) rfl ?_
        refine p_mv rfl rfl ?_
        refine p_callc cf_24 (.c rfl (.c rfl (.c rfl .n))) rfl (shops_none _ no ws h6 lv ls hl (by omega) hn) ?_
        refine p_mv rfl rfl ?_
        refine p_ext rfl rfl rfl ?_
        refine p_ext rfl rfl rfl ?_
        refine p_ext rfl rfl rfl ?_
        refine p_alloc zr_44 rfl fun b9 => ?_
        refine p_store (.ofC tc_44) rfl rfl rfl rfl rfl (by repeat constructor) ?_
        refine p_as rfl rfl ?_
        refine p_as rfl rfl ?_
        refine o_keep (.c 7 rfl (.c 8 rfl (.c 9 rfl .n))) ?_
        refine r_seq ?_
        refine r_seq ?_
        refine r_region ?_
        refine p_ldc tc_44 rfl (by rfl) rfl ?_
        refine l_op (x_p (pv_peqn Try.underlying44 (.n rfl) rfl rfl rfl (fun _ => ⟨rfl, rfl⟩)) rfl rfl ?_)
        refine o_keep (.c 7 rfl (.c 8 rfl (.c 9 rfl (.c 34 rfl .n)))) ?_
        refine r_cond _ rfl (fun h3 => ?_) (fun h3 => ?_)
        · skip
          refine r_seq ?_
          refine r_region ?_
          refine p_as rfl rfl ?_
          refine o_keep (.c 7 rfl (.c 8 rfl (.c 9 rfl .n))) ?_
          refine r_retv hF rfl (.c (.t rfl) .n) ?_ ?_
          · first | exact Ent.rfl | (repeat (first | exact Ent.rfl | refine Ent.c (SelB.ent) ?_ | refine Ent.c (SelS.ent) ?_ | refine Ent.cN ?_ | refine Ent.c (SelX.ent) ?_ | refine Ent.dropR ?_))
          · first | rfl | exact bool_eq (by simp)
        · simp at h3
      · skip
        refine r_region ?_
        refine p_mv rfl rfl ?_
        refine p_lda ta_42 rfl (by exact (Tk.all (by first | rfl | assumption | (simp only [List.drop_zero, List.length_map]; assumption) | (simp [*]; done)))) rfl ?_
        refine p_mv rfl rfl ?_
        refine p_calle cf_24 (.c rfl (.c rfl (.c rfl .n))) rfl (shops_some _ no ws h6 lv ls hl (by omega) hn) fun p => ?_
        refine o_cat ?_
        have hS := runS_inv ls (newS_ok hn).1
        generalize runS s0 ls = s at hS
        have hh1 := hS.holds_le
        have hh2 := hS.over_le
        have hno0 := hS.no0
        have hcc : ∀ h ∈ s.holds, 0 ≤ h.ctr := fun h hm => by have := hS.h h hm; omega
        refine p_mv rfl rfl ?_
        refine p_ext rfl rfl rfl ?_
        refine p_ext rfl rfl rfl ?_
        refine p_ext rfl rfl rfl ?_
        refine p_alloc zr_44 rfl fun b9 => ?_
        refine p_store (.ofC tc_44) rfl rfl rfl rfl rfl (by repeat constructor) ?_
        refine p_as rfl rfl ?_
        refine p_as rfl rfl ?_
        refine o_keep (.c 7 rfl (.c 8 rfl (.c 9 rfl .n))) ?_
        refine r_seq ?_
        refine r_seq ?_
        refine r_region ?_
        refine p_ldc tc_44 rfl (by rfl) rfl ?_
        refine l_op (x_p (pv_peqn Try.underlying44 (.n rfl) rfl rfl rfl (fun _ => ⟨rfl, rfl⟩)) rfl rfl ?_)
        refine o_keep (.c 7 rfl (.c 8 rfl (.c 9 rfl (.c 34 rfl .n)))) ?_
        refine r_cond _ rfl (fun h4 => ?_) (fun h4 => ?_)
        · simp at h4
        · skip
          refine r_skip ?_
          refine r_seq ?_
          refine r_region ?_
          refine l_op (x_p (pv_mkf rfl rfl (.c rfl (.c rfl .n))) rfl rfl ?_)
          refine p_as rfl rfl ?_
          refine o_keep (.c 7 rfl (.c 8 rfl (.c 9 rfl (.c 12 rfl .n)))) ?_
          refine r_seq ?_
          refine r_region ?_
          refine p_mv rfl rfl ?_
          refine p_callfe cf_36 rfl (.n) rfl (law_Others1 _ b9 b7 p.1 s x (by omega) (by omega)) fun r1 => ?_
          refine o_cat ?_
          refine p_as rfl rfl ?_
          refine o_keep (.c 7 rfl (.c 8 rfl (.c 9 rfl (.c 12 rfl (.c 13 rfl .n))))) ?_
          refine r_seq ?_
          refine r_region ?_
          refine p_alloc zr_70 rfl fun b14 => ?_
          refine p_alloc zr_70 rfl fun b15 => ?_
          refine o_keep (.c 7 rfl (.c 8 rfl (.c 9 rfl (.c 12 rfl (.c 13 rfl (.c 14 rfl (.c 15 rfl .n))))))) ?_
          refine r_seq ?_
          refine r_seq ?_
          refine r_region ?_
          refine p_as rfl rfl ?_
          refine o_keep (.c 7 rfl (.c 8 rfl (.c 9 rfl (.c 12 rfl (.c 13 rfl (.c 14 rfl (.c 15 rfl (.c 16 rfl .n)))))))) ?_
          refine r_block ?_
          refine r_loop_3 (fun (i : Nat) (ob db : List Bool) => [(16, true, .int .i64 (i : Int))]) (.c 7 rfl (.c 8 rfl (.c 9 rfl (.c 12 rfl (.c 13 rfl (.c 14 rfl (.c 15 rfl .n))))))) (fun (i : Nat) (ob db : List Bool) => blk b15 (db.map vB) 70 :: blk b14 (ob.map vB) 70 :: sl r1 67 3 ((restH x.deal s.holds).map rH) :: blk b9 [ptr p.1] 44 :: blk b7 (rSS x) 63 :: shopP p.1 s :: boothP p.2 s :: blk b5 (ws.map vI) 42 :: H) (fun (i : Nat) (ob db : List Bool) => OvI s i ob db) (fun (i : Nat) (ob db : List Bool) => 8 - i) (0) ([false, false, false, false, false, false, false, false]) ([false, false, false, false, false, false, false, false]) ?_ (.c 16 rfl .n) ?_ (fun i ob db hI => ?_)
          · exact ⟨by omega, rfl, rfl, fun j hj => by omega⟩
          · first | exact Ent.rfl | (repeat (first | exact Ent.rfl | refine Ent.c (SelB.ent) ?_ | refine Ent.c (SelS.ent) ?_ | refine Ent.cN ?_ | refine Ent.c (SelX.ent) ?_ | refine Ent.dropR ?_))
          · skip
            refine r_seq ?_
            refine r_seq ?_
            refine r_region ?_
            refine p_mv rfl rfl ?_
            refine p_lss rfl rfl rfl ?_
            refine o_keep (.c 7 rfl (.c 8 rfl (.c 9 rfl (.c 12 rfl (.c 13 rfl (.c 14 rfl (.c 15 rfl (.c 16 rfl (.c 39 rfl .n))))))))) ?_
            refine r_cond _ rfl (fun h5 => ?_) (fun h5 => ?_)
            · skip
              have hi8 : i < 8 := by have := of_decide_eq_true h5; omega
              have hlo := hI.lo
              have hld := hI.ld
              refine r_skip ?_
              refine r_seq ?_
              refine r_block ?_
              refine r_region ?_
              refine p_mv rfl rfl ?_
              refine p_mv rfl rfl ?_
              refine p_ldc tc_44 rfl (by rfl) rfl ?_
              refine p_mv rfl rfl ?_
              refine p_callv cf_25 (.c rfl (.c rfl .n)) rfl ((shop_Over _ p.1 s (by omega) (by omega) (i : Int)).q) ?_
              refine p_mv rfl rfl ?_
              refine p_ext rfl rfl rfl ?_
              refine p_ext rfl rfl rfl ?_
              refine l_op (x_p (pv_aidx (i := i) Try.underlying70 (.ofC tc_4) (fun hg => ⟨by omega, by omega⟩) (.n rfl) rfl rfl rfl (fun _ => ⟨rfl, rfl⟩)) rfl rfl ?_)
              refine p_store (.ofC tc_4) rfl rfl rfl rfl rfl (Ins.atm' (f := vB) (i := i) (by omega) (by omega)) ?_
              refine l_op (x_p (pv_aidx (i := i) Try.underlying70 (.ofC tc_4) (fun hg => ⟨by omega, by omega⟩) (.n rfl) rfl rfl rfl (fun _ => ⟨rfl, rfl⟩)) rfl rfl ?_)
              refine p_store (.ofC tc_4) rfl rfl rfl rfl rfl (Ins.atm' (f := vB) (i := i) (by omega) (by omega)) ?_
              refine o_keep (.c 7 rfl (.c 8 rfl (.c 9 rfl (.c 12 rfl (.c 13 rfl (.c 14 rfl (.c 15 rfl (.c 16 rfl .n)))))))) ?_
              refine r_end ?_
              refine r_region ?_
              refine p_mv rfl rfl ?_
              refine p_add rfl rfl (by omega) rfl ?_
              refine p_as rfl rfl ?_
              refine o_keep (.c 7 rfl (.c 8 rfl (.c 9 rfl (.c 12 rfl (.c 13 rfl (.c 14 rfl (.c 15 rfl (.c 16 rfl .n)))))))) ?_
              refine r_back_3 (i + 1) (ob.set i (overL s.over (i : Int)).isSome) (db.set i ((overL s.over (i : Int)).getD false)) ?_ ?_ (Keep.app (.c 16 rfl .n) (.c 7 rfl (.c 8 rfl (.c 9 rfl (.c 12 rfl (.c 13 rfl (.c 14 rfl (.c 15 rfl .n)))))))) ?_
              · exact hI.next hi8
              · omega
              · first | exact Ent.rfl | (repeat (first | exact Ent.rfl | refine Ent.c (SelB.ent) ?_ | refine Ent.c (SelS.ent) ?_ | refine Ent.cN ?_ | refine Ent.c (SelX.ent) ?_ | refine Ent.dropR ?_))
            · skip
              have hi8 : i = 8 := by have := of_decide_eq_false h5; have := hI.le; omega
              subst hi8
              have hIo := hI
              refine r_exit rfl ?_
              refine r_seq ?_
              refine r_seq ?_
              refine r_region ?_
              refine p_fa fa_63_0 rfl rfl ?_
              refine p_ldc tc_3 rfl (by rfl) rfl ?_
              refine o_keep (.c 7 rfl (.c 8 rfl (.c 9 rfl (.c 12 rfl (.c 13 rfl (.c 14 rfl (.c 15 rfl (.c 53 rfl .n)))))))) ?_
              refine r_cut_1 (fun (s2 : ShopS) => []) (.c 7 rfl (.c 8 rfl (.c 9 rfl (.c 12 rfl (.c 13 rfl (.c 14 rfl (.c 15 rfl .n))))))) (fun (s2 : ShopS) => blk b15 (db.map vB) 70 :: blk b14 (ob.map vB) 70 :: sl r1 67 3 ((restH x.deal s.holds).map rH) :: blk b9 [ptr p.1] 44 :: blk b7 (rSS x) 63 :: shopP p.1 s2 :: boothP p.2 s :: blk b5 (ws.map vI) 42 :: H) (fun (s2 : ShopS) => s2 = (stepSh s x).1) ?_ (fun s2 hI => ?_)
              · skip
                refine r_block ?_
                refine r_seq ?_
                refine r_region ?_
                refine p_eql rfl rfl rfl ?_
                refine p_as rfl rfl ?_
                refine o_keep (.c 7 rfl (.c 8 rfl (.c 9 rfl (.c 12 rfl (.c 13 rfl (.c 14 rfl (.c 15 rfl (.c 53 rfl (.c 54 rfl .n))))))))) ?_
                refine r_cond _ rfl (fun h6 => ?_) (fun h6 => ?_)
                · skip
                  have hx0 : x.d = 0 := of_decide_eq_true h6
                  have hse : stepSh s x = holdS s x.deal x.w := by unfold stepSh; rw [if_pos hx0]
                  refine r_region ?_
                  refine p_ldc tc_44 rfl (by rfl) rfl ?_
                  refine p_fa fa_63_1 rfl rfl ?_
                  refine p_ldc tc_3 rfl (by rfl) rfl ?_
                  refine p_fa fa_63_2 rfl rfl ?_
                  refine p_lda ta_35 rfl (by exact (.s (.s .z))) rfl ?_
                  refine p_callc cf_32 (.c rfl (.c rfl (.c rfl .n))) rfl (shop_Hold _ p.1 s (by omega) (by omega) hno0 x.deal x.w) ?_
                  refine o_keep (.c 7 rfl (.c 8 rfl (.c 9 rfl (.c 12 rfl (.c 13 rfl (.c 14 rfl (.c 15 rfl .n))))))) ?_
                  refine r_end ?_
                  refine r_join_1 ((holdS s x.deal x.w).1) ?_ (Keep.app (.n) (.c 7 rfl (.c 8 rfl (.c 9 rfl (.c 12 rfl (.c 13 rfl (.c 14 rfl (.c 15 rfl .n)))))))) ?_
                  · rw [hse]
                  · first | exact Ent.rfl | (repeat (first | exact Ent.rfl | refine Ent.c (SelB.ent) ?_ | refine Ent.c (SelS.ent) ?_ | refine Ent.cN ?_ | refine Ent.c (SelX.ent) ?_ | refine Ent.dropR ?_))
                · skip
                  have hx0 : ¬ x.d = 0 := of_decide_eq_false h6
                  refine r_seq ?_
                  refine r_region ?_
                  refine p_eql rfl rfl rfl ?_
                  refine p_as rfl rfl ?_
                  refine o_keep (.c 7 rfl (.c 8 rfl (.c 9 rfl (.c 12 rfl (.c 13 rfl (.c 14 rfl (.c 15 rfl (.c 62 rfl .n)))))))) ?_
                  refine r_cond _ rfl (fun h7 => ?_) (fun h7 => ?_)
                  · skip
                    have hx1 : x.d = 1 := of_decide_eq_true h7
                    have hse : stepSh s x = endS s x.deal x.done := by unfold stepSh; rw [if_neg hx0, if_pos hx1]
                    refine r_region ?_
                    refine p_ldc tc_44 rfl (by rfl) rfl ?_
                    refine p_fa fa_63_1 rfl rfl ?_
                    refine p_ldc tc_3 rfl (by rfl) rfl ?_
                    refine p_fa fa_63_3 rfl rfl ?_
                    refine p_ldc tc_4 rfl (by rfl) rfl ?_
                    refine p_callc cf_33 (.c rfl (.c rfl (.c rfl .n))) rfl (shop_End _ p.1 s (by omega) (by omega) hcc x.deal x.done) ?_
                    refine o_keep (.c 7 rfl (.c 8 rfl (.c 9 rfl (.c 12 rfl (.c 13 rfl (.c 14 rfl (.c 15 rfl .n))))))) ?_
                    refine r_end ?_
                    refine r_join_1 ((endS s x.deal x.done).1) ?_ (Keep.app (.n) (.c 7 rfl (.c 8 rfl (.c 9 rfl (.c 12 rfl (.c 13 rfl (.c 14 rfl (.c 15 rfl .n)))))))) ?_
                    · rw [hse]
                    · first | exact Ent.rfl | (repeat (first | exact Ent.rfl | refine Ent.c (SelB.ent) ?_ | refine Ent.c (SelS.ent) ?_ | refine Ent.cN ?_ | refine Ent.c (SelX.ent) ?_ | refine Ent.dropR ?_))
                  · skip
                    have hx1 : ¬ x.d = 1 := of_decide_eq_false h7
                    have hse : stepSh s x = (s, 0) := by unfold stepSh; rw [if_neg hx0, if_neg hx1]
                    refine r_skip ?_
                    refine r_end ?_
                    refine r_join_1 (s) ?_ (Keep.app (.n) (.c 7 rfl (.c 8 rfl (.c 9 rfl (.c 12 rfl (.c 13 rfl (.c 14 rfl (.c 15 rfl .n)))))))) ?_
                    · rw [hse]
                    · first | exact Ent.rfl | (repeat (first | exact Ent.rfl | refine Ent.c (SelB.ent) ?_ | refine Ent.c (SelS.ent) ?_ | refine Ent.cN ?_ | refine Ent.c (SelX.ent) ?_ | refine Ent.dropR ?_))
              have hot := stepSh_other s x
              have hS2 := hS.stp x
              rw [← hI] at hot hS2
              have hOv := hIo
              have hh3 := hS2.holds_le
              have hh4 := hS2.over_le
              refine r_seq ?_
              refine r_seq ?_
              refine r_region ?_
              refine p_as rfl rfl ?_
              refine o_keep (.c 7 rfl (.c 8 rfl (.c 9 rfl (.c 12 rfl (.c 13 rfl (.c 14 rfl (.c 15 rfl (.c 17 rfl .n)))))))) ?_
              refine r_block ?_
              refine r_loop_1 (fun (i : Nat) => [(17, true, .int .i64 (i : Int))]) (.c 7 rfl (.c 8 rfl (.c 9 rfl (.c 12 rfl (.c 13 rfl (.c 14 rfl (.c 15 rfl .n))))))) (fun (i : Nat) => blk b15 (db.map vB) 70 :: blk b14 (ob.map vB) 70 :: sl r1 67 3 ((restH x.deal s.holds).map rH) :: blk b9 [ptr p.1] 44 :: blk b7 (rSS x) 63 :: shopP p.1 s2 :: boothP p.2 s :: blk b5 (ws.map vI) 42 :: H) (fun (i : Nat) => i ≤ 8) (fun (i : Nat) => 8 - i) (0) ?_ (.c 17 rfl .n) ?_ (fun i hI => ?_)
              · exact Nat.zero_le _
              · first | exact Ent.rfl | (repeat (first | exact Ent.rfl | refine Ent.c (SelB.ent) ?_ | refine Ent.c (SelS.ent) ?_ | refine Ent.cN ?_ | refine Ent.c (SelX.ent) ?_ | refine Ent.dropR ?_))
              · skip
                have hil := hI
                refine r_seq ?_
                refine r_seq ?_
                refine r_region ?_
                refine p_mv rfl rfl ?_
                refine p_lss rfl rfl rfl ?_
                refine o_keep (.c 7 rfl (.c 8 rfl (.c 9 rfl (.c 12 rfl (.c 13 rfl (.c 14 rfl (.c 15 rfl (.c 17 rfl (.c 71 rfl .n))))))))) ?_
                refine r_cond _ rfl (fun h8 => ?_) (fun h8 => ?_)
                · skip
                  have hi8 : i < 8 := by have := of_decide_eq_true h8; omega
                  have hoi := hOv.at' i hi8
                  have hlo := hOv.lo
                  have hld := hOv.ld
                  have hod : (i : Int) ≠ x.deal → overL s2.over (i : Int) = overL s.over (i : Int) := hot.2 (i : Int)
                  refine r_skip ?_
                  refine r_seq ?_
                  refine r_block ?_
                  refine r_seq ?_
                  refine r_region ?_
                  refine p_ldc tc_44 rfl (by rfl) rfl ?_
                  refine p_mv rfl rfl ?_
                  refine p_callv cf_25 (.c rfl (.c rfl .n)) rfl ((shop_Over _ p.1 s2 (by omega) (by omega) (i : Int)).q) ?_
                  refine p_mv rfl rfl ?_
                  refine p_ext rfl rfl rfl ?_
                  refine p_ext rfl rfl rfl ?_
                  refine p_as rfl rfl ?_
                  refine p_as rfl rfl ?_
                  refine o_keep (.c 7 rfl (.c 8 rfl (.c 9 rfl (.c 12 rfl (.c 13 rfl (.c 14 rfl (.c 15 rfl (.c 17 rfl (.c 18 rfl (.c 19 rfl .n)))))))))) ?_
                  refine r_seq ?_
                  refine r_region ?_
                  refine p_mv rfl rfl ?_
                  refine p_fa fa_63_1 rfl rfl ?_
                  refine p_ldc tc_3 rfl (by rfl) rfl ?_
                  refine p_neq rfl rfl rfl ?_
                  refine p_mv rfl rfl ?_
                  refine l_op (x_p (pv_mv (.s rfl rfl rfl) rfl rfl (by first | exact fun _ => rfl | exact id | exact fun h => (Bool.and_eq_true_iff.1 h).1 | simp_all)) rfl rfl ?_)
                  refine l_op (x_p (pv_mv (.s rfl rfl rfl) rfl rfl (by first | exact fun _ => rfl | exact id | exact fun h => (Bool.and_eq_true_iff.1 h).1 | simp_all)) rfl rfl ?_)
                  refine l_op (x_p (pv_aidx (i := i) Try.underlying70 (.ofC tc_4) (fun hg => ⟨by omega, by omega⟩) (.s rfl rfl rfl) rfl rfl rfl (by refine fun h => ⟨?_, ?_⟩ <;> first | rfl | exact h | exact (Bool.and_eq_true_iff.1 h).1 | simp_all)) rfl rfl ?_)
                  refine l_op (x_r (q_ldci (i := i) tc_4 (.s rfl rfl rfl) rfl rfl (by first | exact fun _ => rfl | exact id | exact fun h => (Bool.and_eq_true_iff.1 h).1 | simp_all) (by omega) (bget8 (by omega))) rfl rfl ?_)
                  refine l_op (x_p (pv_bne Try.underlying4 (.s rfl rfl rfl) rfl rfl rfl (by refine fun h => ⟨?_, ?_⟩ <;> first | rfl | exact h | exact (Bool.and_eq_true_iff.1 h).1 | simp_all)) rfl rfl ?_)
                  refine l_op (x_p (pv_mv (.s rfl rfl rfl) rfl rfl (by first | exact fun _ => rfl | exact id | exact fun h => (Bool.and_eq_true_iff.1 h).1 | simp_all)) rfl rfl ?_)
                  refine l_op (x_p (pv_mv (.s rfl rfl rfl) rfl rfl (by first | exact fun _ => rfl | exact id | exact fun h => (Bool.and_eq_true_iff.1 h).1 | simp_all)) rfl rfl ?_)
                  refine l_op (x_p (pv_mv (.s rfl rfl rfl) rfl rfl (by first | exact fun _ => rfl | exact id | exact fun h => (Bool.and_eq_true_iff.1 h).1 | simp_all)) rfl rfl ?_)
                  refine l_op (x_p (pv_aidx (i := i) Try.underlying70 (.ofC tc_4) (fun hg => ⟨by omega, by omega⟩) (.s rfl rfl rfl) rfl rfl rfl (by refine fun h => ⟨?_, ?_⟩ <;> first | rfl | exact h | exact (Bool.and_eq_true_iff.1 h).1 | simp_all)) rfl rfl ?_)
                  refine l_op (x_r (q_ldci (i := i) tc_4 (.s rfl rfl rfl) rfl rfl (by first | exact fun _ => rfl | exact id | exact fun h => (Bool.and_eq_true_iff.1 h).1 | simp_all) (by omega) (bget8 (by omega))) rfl rfl ?_)
                  refine l_op (x_p (pv_bne Try.underlying4 (.s rfl rfl rfl) rfl rfl rfl (by refine fun h => ⟨?_, ?_⟩ <;> first | rfl | exact h | exact (Bool.and_eq_true_iff.1 h).1 | simp_all)) rfl rfl ?_)
                  refine l_op (x_p (pv_or (.s rfl rfl rfl) rfl rfl rfl (by intro hg; refine ⟨?_, fun hc => ?_⟩ <;> first | rfl | (rw [hc]; rfl) | simp_all)) rfl rfl ?_)
                  refine l_op (x_p (pv_and (.n rfl) rfl rfl rfl (fun _ => ⟨rfl, fun hc => by first | rfl | (rw [hc]; rfl) | simp_all⟩)) rfl rfl ?_)
                  refine o_keep (.c 7 rfl (.c 8 rfl (.c 9 rfl (.c 12 rfl (.c 13 rfl (.c 14 rfl (.c 15 rfl (.c 17 rfl (.c 97 rfl .n))))))))) ?_
                  refine r_cond _ rfl (fun h9 => ?_) (fun h9 => ?_)
                  · exfalso; rcases Decidable.em ((i : Int) = x.deal) with hq | hq; simp [hq] at h9; (have hov := hod hq; simp only [List.getD_eq_getElem?_getD] at hoi; simp [hq, hov, hoi.1, hoi.2] at h9)
                  · skip
                    refine r_skip ?_
                    refine r_end ?_
                    refine r_region ?_
                    refine p_mv rfl rfl ?_
                    refine p_add rfl rfl (by omega) rfl ?_
                    refine p_as rfl rfl ?_
                    refine o_keep (.c 7 rfl (.c 8 rfl (.c 9 rfl (.c 12 rfl (.c 13 rfl (.c 14 rfl (.c 15 rfl (.c 17 rfl .n)))))))) ?_
                    refine r_back_1 (i + 1) ?_ ?_ (Keep.app (.c 17 rfl .n) (.c 7 rfl (.c 8 rfl (.c 9 rfl (.c 12 rfl (.c 13 rfl (.c 14 rfl (.c 15 rfl .n)))))))) ?_
                    · omega
                    · omega
                    · first | exact Ent.rfl | (repeat (first | exact Ent.rfl | refine Ent.c (SelB.ent) ?_ | refine Ent.c (SelS.ent) ?_ | refine Ent.cN ?_ | refine Ent.c (SelX.ent) ?_ | refine Ent.dropR ?_))
                · skip
                  refine r_exit rfl ?_
                  refine r_seq ?_
                  have hrl := restH_le x.deal s.holds
                  refine r_rd r1 fun hr1 => ?_
                  refine r_region ?_
                  refine p_mv rfl rfl ?_
                  refine p_mv rfl rfl ?_
                  refine p_callfe cf_36 rfl (.n) rfl (law_Others1 _ b9 b7 p.1 s2 x (by omega) (by omega)) fun r2 => ?_
                  refine o_cat ?_
                  rw [hot.1]
                  refine o_rd r2 fun hr2 => ?_
                  refine p_callv cf_29 (.c rfl (.c rfl .n)) rfl (ref_SameHolds _ _ _ _ (restH x.deal s.holds) (restH x.deal s.holds) hr1.own hr2.own (by omega)) ?_
                  refine p_as rfl rfl ?_
                  refine o_keep (.c 8 rfl .n) ?_
                  refine r_retv hF rfl (.c (.t rfl) .n) ?_ ?_
                  · first | exact Ent.rfl | (repeat (first | exact Ent.rfl | refine Ent.c (SelB.ent) ?_ | refine Ent.c (SelS.ent) ?_ | refine Ent.cN ?_ | refine Ent.c (SelX.ent) ?_ | refine Ent.dropR ?_))
                  · first | rfl | exact bool_eq (by simp)

end Go.Proofs.Ytmakdilmibjpbab
