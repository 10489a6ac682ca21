/- The walks of TownBroker: written by a program of ours (gen.py) over the engine. -/
import Derived.Test.YtmakdilmibjpbacPlain
import Derived.Test.YtmakdilmibjpbacFacts
import Derived.Test.YtmakdilmibjpbacTownW
namespace Go.Proofs.Ytmakdilmibjpbac
open Go Go.RowKit
set_option linter.unusedVariables false
set_option linter.unusedSimpArgs false
set_option maxRecDepth 20000

theorem crash_st {b : BrokS} (h : BInv b) (n : Nat) (hn : n < b.l.length) : stateB (crashB b) n ≠ 0 ∧ (stateB (crashB b) n = 1 ↔ stateB b n = 1) := by
  have e1 : b.l[n]? = some b.l[n] := List.getElem?_eq_getElem hn
  have e2 : (crashB b).l[n]? = some (crashD b.l[n]) := by unfold crashB; simp [e1]
  rw [stateB_at e1, stateB_at e2]
  unfold crashD
  split
  · rename_i h0; exact ⟨by simp, by simp [h0]⟩
  · rename_i h0; exact ⟨h0, Iff.rfl⟩
theorem crash_len {b : BrokS} : (crashB b).l.length = b.l.length := by unfold crashB; simp
theorem crash_ser {t : TownS} : serialT { t with b := crashB t.b } = serialT t := serialT_same (fun n => crash_wants _ _) rfl rfl
def crT (t : TownS) : TownS := { t with b := crashB t.b }
theorem step_cr (t : TownS) : stepT t ⟨8, 0, []⟩ = (crT t, 0) := stepT_8 rfl

theorem law_TownBroker (M : Amb) (H : List HP) (ws : List Int) (hws : ws.length = 6) (xs : List TStep) (sv : Value) (hs : Rd M [] sv 3 (xs.map rTS)) (hx : ∀ x ∈ xs, Rd M [] x.wv 2 (x.wants.map rW)) : FnV Try.prog M H 11 [.agg (ws.map vI).toArray, sv] (.bool true) := by
  refine fn_intro Try.func11 rfl Try.ntmps11 rfl fun F hF => ?_
  refine r_seq ?_
  refine r_region ?_
  refine p_box rfl rfl rfl fun b2 => ?_
  refine p_as rfl rfl ?_
  refine o_keep (.c 1 rfl (.c 2 rfl (.c 4 rfl .n))) ?_
  refine r_seq ?_
  refine r_seq ?_
  refine r_region ?_
  refine p_callv cf_27 (.n) rfl (law_townBegun _ _) ?_
  refine p_not rfl rfl ?_
  refine o_keep (.c 1 rfl (.c 2 rfl (.c 4 rfl (.c 12 rfl .n)))) ?_
  refine r_cond _ rfl (fun h1 => ?_) (fun h1 => ?_)
  · simp at h1
  · skip
    refine r_skip ?_
    refine r_seq ?_
    refine r_seq ?_
    refine r_region ?_
    refine p_mv rfl rfl ?_
    refine p_callv cf_28 (.c rfl .n) rfl ((law_great _ xs sv hs hx).q) ?_
    refine o_keep (.c 1 rfl (.c 2 rfl (.c 4 rfl (.c 14 rfl .n)))) ?_
    refine r_cond _ rfl (fun h2 => ?_) (fun h2 => ?_)
    · skip
      refine r_seq ?_
      refine r_region ?_
      refine p_as rfl rfl ?_
      refine o_keep (.c 1 rfl (.c 2 rfl (.c 4 rfl .n))) ?_
      refine r_retv hF rfl (.c (.t rfl) .n) ?_ ?_
      · first | exact Ent.rfl | (repeat (first | exact Ent.rfl | refine Ent.c (SelB.ent) ?_ | refine Ent.c (SelS.ent) ?_ | refine Ent.cN ?_ | refine Ent.c (SelX.ent) ?_ | refine Ent.dropR ?_))
      · first | rfl | exact bool_eq (by simp [hord])
    · skip
      have hgr := great_no h2
      refine r_skip ?_
      refine r_seq ?_
      rcases hn : newT ws with _ | t0
      · skip
        refine r_region ?_
        refine p_lda ta_23 rfl (by exact (Tk.all (by first | rfl | assumption | (simp only [List.drop_zero, List.length_map]; assumption) | (simp [*]; done)))) rfl ?_
        refine p_callc cf_29 (.c rfl .n) rfl (town_New_none _ ws hws hn) ?_
        refine p_as rfl rfl ?_
        refine o_keep (.c 1 rfl (.c 4 rfl (.c 5 rfl .n))) ?_
        refine r_seq ?_
        refine r_seq ?_
        refine r_region ?_
        refine p_mv rfl rfl ?_
        refine l_op (x_p (pv_peqn Try.underlying68 (.n rfl) rfl rfl rfl (fun _ => ⟨rfl, rfl⟩)) rfl rfl ?_)
        refine o_keep (.c 1 rfl (.c 4 rfl (.c 5 rfl (.c 18 rfl .n)))) ?_
        refine r_cond _ rfl (fun h3 => ?_) (fun h3 => ?_)
        · skip
          refine r_seq ?_
          refine r_region ?_
          refine p_as rfl rfl ?_
          refine o_keep (.c 1 rfl (.c 4 rfl (.c 5 rfl .n))) ?_
          refine r_retv hF rfl (.c (.t rfl) .n) ?_ ?_
          · first | exact Ent.rfl | (repeat (first | exact Ent.rfl | refine Ent.c (SelB.ent) ?_ | refine Ent.c (SelS.ent) ?_ | refine Ent.cN ?_ | refine Ent.c (SelX.ent) ?_ | refine Ent.dropR ?_))
          · first | rfl | exact bool_eq (by simp [hord])
        · simp at h3
      · skip
        refine r_region ?_
        refine p_lda ta_23 rfl (by exact (Tk.all (by first | rfl | assumption | (simp only [List.drop_zero, List.length_map]; assumption) | (simp [*]; done)))) rfl ?_
        refine p_calle cf_29 (.c rfl .n) rfl (town_New_some _ ws hws hn) fun tb => ?_
        refine o_cat ?_
        refine p_as rfl rfl ?_
        refine o_keep (.c 1 rfl (.c 4 rfl (.c 5 rfl .n))) ?_
        refine r_seq ?_
        refine r_seq ?_
        refine r_region ?_
        refine p_mv rfl rfl ?_
        refine l_op (x_p (pv_peqn Try.underlying68 (.n rfl) rfl rfl rfl (fun _ => ⟨rfl, rfl⟩)) rfl rfl ?_)
        refine o_keep (.c 1 rfl (.c 4 rfl (.c 5 rfl (.c 18 rfl .n)))) ?_
        refine r_cond _ rfl (fun h4 => ?_) (fun h4 => ?_)
        · simp at h4
        · skip
          refine r_skip ?_
          refine r_seq ?_
          refine r_seq ?_
          refine r_region ?_
          refine p_as rfl rfl ?_
          refine o_keep (.c 1 rfl (.c 4 rfl (.c 5 rfl (.c 6 rfl .n)))) ?_
          refine r_block ?_
          refine r_loop_2 (fun (i : Nat) (t : TownS) => [(6, true, .int .i64 (i : Int))]) (.c 1 rfl (.c 4 rfl (.c 5 rfl .n))) (fun (i : Nat) (t : TownS) => townP tb t :: blk b2 (ws.map vI) 23 :: H) (fun (i : Nat) (t : TownS) => i ≤ xs.length ∧ TInv t) (fun (i : Nat) (t : TownS) => xs.length - i) (0) (t0) ?_ (.c 6 rfl .n) ?_ (fun i t hI => ?_)
          · exact ⟨Nat.zero_le _, (TInv.new hws hn).1⟩
          · first | exact Ent.rfl | (repeat (first | exact Ent.rfl | refine Ent.c (SelB.ent) ?_ | refine Ent.c (SelS.ent) ?_ | refine Ent.cN ?_ | refine Ent.c (SelX.ent) ?_ | refine Ent.dropR ?_))
          · skip
            obtain ⟨hil, hT⟩ := hI
            refine r_seq ?_
            refine r_seq ?_
            refine r_region ?_
            refine p_mv rfl rfl ?_
            refine p_mv rfl rfl ?_
            refine l_op (x_p (pv_lens hs.len ⟨_, Try.underlying66⟩ (.n rfl) rfl rfl rfl rfl (fun _ => rfl)) rfl rfl ?_)
            refine p_lss rfl rfl rfl ?_
            refine o_keep (.c 1 rfl (.c 4 rfl (.c 5 rfl (.c 6 rfl (.c 22 rfl .n))))) ?_
            refine r_cond _ rfl (fun h5 => ?_) (fun h5 => ?_)
            · skip
              obtain ⟨x, hxi⟩ := getlt (l := xs) (i := i) (by have := of_decide_eq_true h5; omega)
              have hil2 := (List.getElem?_eq_some_iff.1 hxi).1
              have hxm := List.mem_of_getElem? hxi
              have hxr := hx x hxm
              have hxw := hgr.2 x hxm
              refine r_skip ?_
              refine r_seq ?_
              refine r_block ?_
              refine r_region ?_
              refine p_mv rfl rfl ?_
              refine p_mv rfl rfl ?_
              refine p_mv rfl rfl ?_
              refine p_idx Try.underlying66 (.ofA ta_72) hs rfl (mapget hxi) rfl rfl rfl ?_
              refine p_ldats 0 ta_72 (Rd.ent hs (by repeat (first | exact Ent.rfl | exact Ent.one Ent.h | exact Ent.one (SelS.ent) | exact Ent.nil | exact Ent.left | refine Ent.dropR ?_ | refine Ent.tr Ent.skip ?_))) (mapget hxi) rfl rfl (.s (.s (.s .z))) rfl ?_
              refine o_ent (SelX.ent (X := townP tb t)) ?_
              refine p_call cf_31 (.c rfl (.c rfl .n)) rfl (town_Step _ _ tb t hT x hxr.all (by omega)) ?_
              rintro _ _ ⟨rfl, rfl⟩
              refine o_keep (.c 1 rfl (.c 4 rfl (.c 5 rfl (.c 6 rfl .n)))) ?_
              refine r_end ?_
              refine r_region ?_
              refine p_mv rfl rfl ?_
              refine p_add rfl rfl (by omega) rfl ?_
              refine p_as rfl rfl ?_
              refine o_keep (.c 1 rfl (.c 4 rfl (.c 5 rfl (.c 6 rfl .n)))) ?_
              refine r_back_2 (i + 1) ((stepT t x.s).1) ?_ ?_ (Keep.app (.c 6 rfl .n) (.c 1 rfl (.c 4 rfl (.c 5 rfl .n)))) ?_
              · exact ⟨by omega, hT.step _⟩
              · omega
              · first | exact Ent.rfl | (repeat (first | exact Ent.rfl | refine Ent.c (SelB.ent) ?_ | refine Ent.c (SelS.ent) ?_ | refine Ent.cN ?_ | refine Ent.c (SelX.ent) ?_ | refine Ent.dropR ?_))
            · skip
              refine r_exit rfl ?_
              refine r_seq ?_
              refine r_sel (townP tb t) ?_
              refine r_town fun bb c0 c1 c2 pb => ?_
              refine r_cat ?_
              have hs6 : (serialT t).1.length = 6 := by rw [hT.ser]; simp
              have hs0 : (serialT t).2 = 0 := by rw [hT.ser]
              refine r_region ?_
              refine p_mv rfl rfl ?_
              refine p_nil rfl rfl ?_
              refine p_fa fa_84_0 rfl rfl ?_
              refine p_ldc tc_80 rfl (by rfl) rfl ?_
              refine p_calle cf_38 (.c rfl .n) rfl (broker_Done _ bb t.b hT.b (by have := hT.b.ord_le; omega)) fun ov => ?_
              refine o_cat ?_
              refine o_rd ov fun hro => ?_
              refine p_as rfl rfl ?_
              refine o_keep (.c 4 rfl (.c 5 rfl (.c 7 rfl .n))) ?_
              refine r_seq ?_
              refine r_region ?_
              refine p_mv rfl rfl ?_
              refine p_callc cf_42 (.c rfl .n) rfl (town_Serial_o _ tb t bb c0 c1 c2 pb hT) ?_
              refine p_mv rfl rfl ?_
              refine p_ext rfl rfl rfl ?_
              refine p_ext rfl rfl rfl ?_
              refine p_alloc zr_23 rfl fun b8 => ?_
              refine p_store (.ofA ta_23) rfl rfl rfl (by first | rfl | exact (by first | rfl | assumption | (simp only [List.drop_zero, List.length_map]; assumption) | (simp [*]; done))) (by first | rfl | exact (by first | rfl | simp [vI, Value.oneCell'])) (Ins.whole (by first | rfl | (simp only [List.length_map, List.length_cons, List.length_nil]; omega) | (simp [*]; done) | (simp [*]; rfl))) ?_
              refine p_as rfl rfl ?_
              refine o_keep (.c 4 rfl (.c 5 rfl (.c 7 rfl (.c 8 rfl (.c 9 rfl .n))))) ?_
              refine r_seq ?_
              refine r_seq ?_
              refine r_ent (townP_close (b := tb) (t := t) bb c0 c1 c2 pb rfl) ?_
              have hC : TInv (crT t) := hT.crash
              refine r_region ?_
              refine p_mv rfl rfl ?_
              refine p_build zr_72 pl_72 (.c rfl (fun _ => rfl) rfl rfl rfl (by repeat constructor) .n) rfl ?_
              refine o_ent (SelX.ent (X := townP tb t)) ?_
              refine p_call cf_31 (.c rfl (.c rfl .n)) rfl (town_StepV _ _ tb t hT ⟨8, 0, .slice Option.none 0 0, []⟩ (step_cr t) rd_nil (by decide)) ?_
              rintro _ _ ⟨rfl, rfl⟩
              refine o_town fun bb c0 c1 c2 pb => ?_
              refine o_cat ?_
              refine p_neq rfl rfl rfl ?_
              refine p_mv rfl rfl ?_
              refine o_split (t := 45) rfl (fun g6 => ?_) (fun g6 => ?_)
              · simp at g6
              · skip
                refine o_g (.s rfl rfl rfl) rfl ?_
                refine p_mv rfl rfl ?_
                refine o_g (.s rfl rfl rfl) rfl ?_
                refine p_mv rfl rfl ?_
                refine o_g (.s rfl rfl rfl) rfl ?_
                refine p_nil rfl rfl ?_
                refine o_g (.s rfl rfl rfl) rfl ?_
                refine p_fa fa_84_0 rfl rfl ?_
                refine o_g (.s rfl rfl rfl) rfl ?_
                refine p_ldc tc_80 rfl (by rfl) rfl ?_
                refine o_g (.s rfl rfl rfl) rfl ?_
                refine p_calle cf_38 (.c rfl .n) rfl (broker_Done _ bb (crT t).b hC.b (by have := hT.b.ord_le; exact Nat.le_trans this (by decide))) fun ov2 => ?_
                refine o_cat ?_
                refine o_rd ov2 fun hro2 => ?_
                refine o_g (.s rfl rfl rfl) rfl ?_
                refine p_callv cf_37 (.c rfl (.c rfl .n)) rfl (ref_SameInts _ _ ov ov2 t.b.order (crT t).b.order hro.own hro2.own (by have := hT.b.ord_le; omega)) ?_
                refine o_g (.s rfl rfl rfl) rfl ?_
                refine p_not rfl rfl ?_
                refine l_op (x_p (pv_or (.n rfl) rfl rfl rfl (fun _ => ⟨rfl, fun hc => by first | rfl | (rw [hc]; rfl) | simp_all⟩)) rfl rfl ?_)
                refine o_keep (.c 4 rfl (.c 5 rfl (.c 7 rfl (.c 8 rfl (.c 9 rfl (.c 54 rfl .n)))))) ?_
                refine r_cond _ rfl (fun h7 => ?_) (fun h7 => ?_)
                · simp at h7; exact absurd rfl h7
                · skip
                  refine r_skip ?_
                  refine r_seq ?_
                  refine r_seq ?_
                  refine r_region ?_
                  refine p_as rfl rfl ?_
                  refine o_keep (.c 4 rfl (.c 5 rfl (.c 7 rfl (.c 8 rfl (.c 9 rfl (.c 10 rfl .n)))))) ?_
                  refine r_block ?_
                  refine r_loop_1 (fun (k : Nat) => [(10, true, .int .i64 (k : Int))]) (.c 4 rfl (.c 5 rfl (.c 7 rfl (.c 8 rfl (.c 9 rfl .n))))) (fun (k : Nat) => blk tb (tnC bb (crT t).ws c0 c1 c2 pb) 84 :: brokP bb (crT t).b :: manyP clerkP [c0, c1, c2] (crT t).ks :: postP pb (crT t).post :: blk b8 ((serialT t).1.map vI) 23 :: sl ov 3 1 (t.b.order.map rI) :: blk b2 (ws.map vI) 23 :: H) (fun (k : Nat) => k ≤ t.b.l.length) (fun (k : Nat) => t.b.l.length - k) (0) ?_ (.c 10 rfl .n) ?_ (fun k hI => ?_)
                  · exact Nat.zero_le _
                  · first | exact Ent.rfl | (repeat (first | exact Ent.rfl | refine Ent.c (SelB.ent) ?_ | refine Ent.c (SelS.ent) ?_ | refine Ent.cN ?_ | refine Ent.c (SelX.ent) ?_ | refine Ent.dropR ?_))
                  · skip
                    have hl8 := hT.b.len
                    refine r_seq ?_
                    refine r_seq ?_
                    refine r_region ?_
                    refine p_mv rfl rfl ?_
                    refine p_mv rfl rfl ?_
                    refine p_nil rfl rfl ?_
                    refine p_fa fa_84_0 rfl rfl ?_
                    refine p_ldc tc_80 rfl (by rfl) rfl ?_
                    refine p_callv cf_39 (.c rfl .n) rfl ((broker_Len _ bb (crT t).b hC.b).q) ?_
                    refine p_lss rfl rfl rfl ?_
                    refine o_keep (.c 4 rfl (.c 5 rfl (.c 7 rfl (.c 8 rfl (.c 9 rfl (.c 10 rfl (.c 61 rfl .n))))))) ?_
                    refine r_cond _ rfl (fun h8 => ?_) (fun h8 => ?_)
                    · skip
                      have hk : k < t.b.l.length := by have := of_decide_eq_true h8; have e : (crT t).b.l.length = t.b.l.length := crash_len; omega
                      obtain ⟨q1, q2⟩ := crash_st hT.b k hk
                      have q3 := hT.b.ord k
                      refine r_skip ?_
                      refine r_seq ?_
                      refine r_block ?_
                      refine r_seq ?_
                      refine r_region ?_
                      refine p_mv rfl rfl ?_
                      refine p_nil rfl rfl ?_
                      refine p_fa fa_84_0 rfl rfl ?_
                      refine p_ldc tc_80 rfl (by rfl) rfl ?_
                      refine p_mv rfl rfl ?_
                      refine p_callv cf_41 (.c rfl (.c rfl .n)) rfl ((broker_State _ bb (crT t).b hC.b k).q) ?_
                      refine p_eql rfl rfl rfl ?_
                      refine p_mv rfl rfl ?_
                      refine p_mv rfl rfl ?_
                      refine p_callv cf_43 (.c rfl (.c rfl .n)) rfl (ref_In _ _ ov t.b.order (k : Int) hro.own (by have := hT.b.ord_le; omega)) ?_
                      refine l_op (x_p (pv_bne Try.underlying4 (.n rfl) rfl rfl rfl (fun _ => ⟨rfl, rfl⟩)) rfl rfl ?_)
                      refine p_mv rfl rfl ?_
                      refine l_op (x_p (pv_mv (.s rfl rfl rfl) rfl rfl (by first | exact fun _ => rfl | exact id | exact fun h => (Bool.and_eq_true_iff.1 h).1 | simp_all)) rfl rfl ?_)
                      refine l_op (x_p (pv_nilp (.s rfl rfl rfl) rfl rfl (by first | exact fun _ => rfl | exact id | exact fun h => (Bool.and_eq_true_iff.1 h).1 | simp_all)) rfl rfl ?_)
                      refine l_op (x_p (pv_fa fa_84_0 (.s rfl rfl rfl) rfl rfl (by first | exact fun _ => rfl | exact id | exact fun h => (Bool.and_eq_true_iff.1 h).1 | simp_all)) rfl rfl ?_)
                      refine l_op (x_r (q_ldc tc_80 (.s rfl rfl rfl) rfl rfl (by first | exact fun _ => rfl | exact id | exact fun h => (Bool.and_eq_true_iff.1 h).1 | simp_all) (by rfl)) rfl rfl ?_)
                      refine l_op (x_p (pv_mv (.s rfl rfl rfl) rfl rfl (by first | exact fun _ => rfl | exact id | exact fun h => (Bool.and_eq_true_iff.1 h).1 | simp_all)) rfl rfl ?_)
                      refine l_op (x_q (rq_call cf_41 (.s rfl rfl rfl) rfl (.c rfl (by first | exact fun _ => rfl | exact id | exact fun h => (Bool.and_eq_true_iff.1 h).1 | simp_all) (.c rfl (by first | exact fun _ => rfl | exact id | exact fun h => (Bool.and_eq_true_iff.1 h).1 | simp_all) .n)) (fun hg => (broker_State _ bb (crT t).b hC.b k).q)) rfl rfl ?_)
                      refine l_op (x_p (pv_eql (.s rfl rfl rfl) rfl rfl rfl (by refine fun h => ⟨?_, ?_⟩ <;> first | rfl | exact h | exact (Bool.and_eq_true_iff.1 h).1 | simp_all)) rfl rfl ?_)
                      refine l_op (x_p (pv_or (.n rfl) rfl rfl rfl (fun _ => ⟨rfl, fun hc => by first | rfl | (rw [hc]; rfl) | simp_all⟩)) rfl rfl ?_)
                      refine o_keep (.c 4 rfl (.c 5 rfl (.c 7 rfl (.c 8 rfl (.c 9 rfl (.c 10 rfl (.c 83 rfl .n))))))) ?_
                      refine r_cond _ rfl (fun h9 => ?_) (fun h9 => ?_)
                      · exfalso; simp at h9; rcases h9 with q | q; exact q (q2.trans q3.symm); exact q1 q
                      · skip
                        refine r_skip ?_
                        refine r_end ?_
                        refine r_region ?_
                        refine p_mv rfl rfl ?_
                        refine p_add rfl rfl (by omega) rfl ?_
                        refine p_as rfl rfl ?_
                        refine o_keep (.c 4 rfl (.c 5 rfl (.c 7 rfl (.c 8 rfl (.c 9 rfl (.c 10 rfl .n)))))) ?_
                        refine r_back_1 (k + 1) ?_ ?_ (Keep.app (.c 10 rfl .n) (.c 4 rfl (.c 5 rfl (.c 7 rfl (.c 8 rfl (.c 9 rfl .n)))))) ?_
                        · omega
                        · omega
                        · first | exact Ent.rfl | (repeat (first | exact Ent.rfl | refine Ent.c (SelB.ent) ?_ | refine Ent.c (SelS.ent) ?_ | refine Ent.cN ?_ | refine Ent.c (SelX.ent) ?_ | refine Ent.dropR ?_))
                    · skip
                      refine r_exit rfl ?_
                      refine r_seq ?_
                      refine r_ent (townP_close (b := tb) (t := (crT t)) bb c0 c1 c2 pb rfl) ?_
                      refine r_region ?_
                      refine p_mv rfl rfl ?_
                      refine p_callc cf_32 (.c rfl .n) rfl (town_Calm _ tb (crT t) hC) ?_
                      refine o_keep (.c 4 rfl (.c 5 rfl (.c 7 rfl (.c 8 rfl (.c 9 rfl .n))))) ?_
                      refine r_seq ?_
                      obtain ⟨hset, hw, hord⟩ := hC.settle crash_dec
                      generalize hu : (calmT (crT t)).1 = u at hset hw hord ⊢
                      have hU := hset.inv
                      have hw6 := worldT_len hU.len
                      replace hw : worldT u = (serialT t).1 := by rw [hw]; exact congrArg Prod.fst crash_ser
                      replace hord : u.b.order = t.b.order := hord
                      refine r_sel (townP tb u) ?_
                      refine r_town fun bb c0 c1 c2 pb => ?_
                      refine r_cat ?_
                      refine r_plan _ [] mo (.c 5 rfl (.c 7 rfl (.c 8 rfl (.c 9 rfl .n)))) Ent.rfl ?_
                      refine qm_q (i := 0) (l := [.k 9]) rfl rfl rfl rfl (by kernel_rfl) rfl (fun He => PV.rq (pv_mv (.n rfl) rfl rfl (fun _ => rfl))) ?_
                      refine qm_q (i := 1) (l := [.o 0]) rfl rfl rfl rfl (by kernel_rfl) rfl (fun He => PV.rq (pv_to (pv_eql (.n rfl) rfl rfl rfl (fun _ => ⟨rfl, rfl⟩)) (show _ = Value.bool true from bool_eq (by simp [hs0])))) ?_
                      refine qm_q (i := 2) (l := [.o 1]) rfl rfl rfl rfl (by kernel_rfl) rfl (fun He => PV.rq (pv_mv (.n rfl) rfl rfl (fun _ => rfl))) ?_
                      refine qm_q (i := 3) (l := [.k 5, .o 2]) rfl rfl rfl rfl (by kernel_rfl) rfl (fun He => PV.rq (pv_ung (.s rfl rfl rfl) rfl (pv_mv (.n rfl) rfl rfl (fun _ => rfl)))) ?_
                      refine qm_q (i := 4) (l := [.o 3, .o 2]) rfl rfl rfl rfl (by kernel_rfl) rfl (fun He => rq_ung (.s rfl rfl rfl) rfl (rq_call cf_33 (.n rfl) rfl (.c rfl (fun _ => rfl) .n) (fun hg => (town_World_o _ tb u bb c0 c1 c2 pb hU).q))) ?_
                      refine qm_q (i := 5) (l := [.k 8, .o 2]) rfl rfl rfl rfl (by kernel_rfl) rfl (fun He => RV.rq (rv_ung (.s rfl rfl rfl) rfl (q_lda ta_23 (.n rfl) rfl rfl (fun _ => rfl) (by exact (Tk.all (by first | rfl | assumption | (simp only [List.drop_zero, List.length_map]; assumption) | (simp [*]; done))))))) ?_
                      refine qm_q (i := 6) (l := [.o 4, .o 5, .o 2]) rfl rfl rfl rfl (by kernel_rfl) rfl (fun He => PV.rq (pv_ung (.s rfl rfl rfl) rfl (pv_to (pv_aeq (eq_World hw6 hs6) (.n rfl) rfl rfl rfl (fun _ => ⟨rfl, rfl⟩)) (show _ = Value.bool true from bool_eq (by simp [hw]))))) ?_
                      refine qm_q (i := 7) (l := [.o 2, .o 6]) rfl rfl rfl rfl (by kernel_rfl) rfl (fun He => PV.rq (pv_and (.n rfl) rfl rfl rfl (fun _ => ⟨rfl, fun hc => by first | rfl | (rw [hc]; rfl) | simp_all⟩))) ?_
                      refine qm_q (i := 8) (l := [.o 7]) rfl rfl rfl rfl (by kernel_rfl) rfl (fun He => PV.rq (pv_mv (.n rfl) rfl rfl (fun _ => rfl))) ?_
                      refine qm_q (i := 9) (l := [.k 7, .o 8]) rfl rfl rfl rfl (by kernel_rfl) rfl (fun He => PV.rq (pv_ung (.s rfl rfl rfl) rfl (pv_mv (.n rfl) rfl rfl (fun _ => rfl)))) ?_
                      refine qm_q (i := 10) (l := [.k 5, .o 8]) rfl rfl rfl rfl (by kernel_rfl) rfl (fun He => PV.rq (pv_ung (.s rfl rfl rfl) rfl (pv_mv (.n rfl) rfl rfl (fun _ => rfl)))) ?_
                      refine qm_q (i := 11) (l := [.o 10, .o 8]) rfl rfl rfl rfl (by kernel_rfl) rfl (fun He => PV.rq (pv_ung (.s rfl rfl rfl) rfl (pv_nilp (.n rfl) rfl rfl (fun _ => rfl)))) ?_
                      refine qm_q (i := 12) (l := [.o 11, .o 8]) rfl rfl rfl rfl (by kernel_rfl) rfl (fun He => PV.rq (pv_ung (.s rfl rfl rfl) rfl (pv_fa fa_84_0 (.n rfl) rfl rfl (fun _ => rfl)))) ?_
                      refine qm_q (i := 13) (l := [.o 12, .o 8]) rfl rfl rfl rfl (by kernel_rfl) rfl (fun He => RV.rq (rv_ung (.s rfl rfl rfl) rfl (q_ldc tc_80 (.n rfl) rfl rfl (fun _ => rfl) (by rfl)))) ?_
                      refine qm_calln (i := 14) [.o 13, .o 8] (by kernel_rfl) (by kernel_rfl) rfl rfl rfl rfl (by kernel_rfl) (by kernel_rfl) ⟨_, .s rfl rfl rfl, rfl⟩ cf_38 rfl (.c rfl .n) (broker_DoneN _ bb u.b hU.b (by have := hU.b.ord_le; omega)) fun ov3 => ?_
                      refine qm_cat ?_
                      refine qm_rd ov3 fun hro3 => ?_
                      refine qm_keep ?_
                      refine qm_q (i := 15) (l := [.o 9, .o 14, .o 8]) rfl rfl rfl rfl (by kernel_rfl) rfl (fun He => rq_ung (.s rfl rfl rfl) rfl (rq_call cf_37 (.n rfl) rfl (.c rfl (fun _ => rfl) (.c rfl (fun _ => rfl) .n)) (fun hg => ref_SameInts _ _ ov ov3 t.b.order u.b.order hro.own hro3.own (by have := hT.b.ord_le; omega)))) ?_
                      refine qm_q (i := 16) (l := [.o 8, .o 15]) rfl rfl rfl rfl (by kernel_rfl) rfl (fun He => PV.rq (pv_and (.n rfl) rfl rfl rfl (fun _ => ⟨rfl, fun hc => by first | rfl | (rw [hc]; rfl) | simp_all⟩))) ?_
                      refine qm_q (i := 17) (l := [.o 16]) rfl rfl rfl rfl (by kernel_rfl) rfl (fun He => PV.rq (pv_as (.n rfl) rfl rfl (fun _ => rfl))) ?_
                      refine qm_n (by kernel_rfl) (by kernel_rfl) (by kernel_rfl) (by kernel_rfl) (.c 4 rfl .n) ?_
                      refine r_retv hF rfl (.c (.t rfl) .n) ?_ ?_
                      · first | exact Ent.rfl | (repeat (first | exact Ent.rfl | refine Ent.c (SelB.ent) ?_ | refine Ent.c (SelS.ent) ?_ | refine Ent.cN ?_ | refine Ent.c (SelX.ent) ?_ | refine Ent.dropR ?_))
                      · first | rfl | exact bool_eq (by simp [hord])

end Go.Proofs.Ytmakdilmibjpbac
