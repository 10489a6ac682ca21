/- The walks of TownAll: written by a program of ours (gen.py) over the engine. -/
import Derived.Test.YtmakdilmibjpbacPlain
import Derived.Test.YtmakdilmibjpbacFacts
import Derived.Test.YtmakdilmibjpbacTownW
namespace Go.Proofs.Ytmakdilmibjpbac
open Go Go.RowKit
set_option linter.unusedVariables false
set_option linter.unusedSimpArgs false
set_option maxRecDepth 20000

theorem law_TownAll (M : Amb) (H : List HP) (ws : List Int) (hws : ws.length = 6) (xs : List TStep) (sv : Value) (hs : Rd M [] sv 3 (xs.map rTS)) (hx : ∀ x ∈ xs, Rd M [] x.wv 2 (x.wants.map rW)) : FnV Try.prog M H 12 [.agg (ws.map vI).toArray, sv] (.bool true) := by
  refine fn_intro Try.func12 rfl Try.ntmps12 rfl fun F hF => ?_
  refine r_seq ?_
  refine r_region ?_
  refine p_box rfl rfl rfl fun b2 => ?_
  refine p_as rfl rfl ?_
  refine o_keep (.c 1 rfl (.c 2 rfl (.c 4 rfl .n))) ?_
  refine r_seq ?_
  refine r_seq ?_
  refine r_region ?_
  refine p_callv cf_27 (.n) rfl (law_townBegun _ _) ?_
  refine p_not rfl rfl ?_
  refine o_keep (.c 1 rfl (.c 2 rfl (.c 4 rfl (.c 14 rfl .n)))) ?_
  refine r_cond _ rfl (fun h1 => ?_) (fun h1 => ?_)
  · simp at h1
  · skip
    refine r_skip ?_
    refine r_seq ?_
    refine r_seq ?_
    refine r_region ?_
    refine p_mv rfl rfl ?_
    refine p_callv cf_28 (.c rfl .n) rfl ((law_great _ xs sv hs hx).q) ?_
    refine o_keep (.c 1 rfl (.c 2 rfl (.c 4 rfl (.c 16 rfl .n)))) ?_
    refine r_cond _ rfl (fun h2 => ?_) (fun h2 => ?_)
    · skip
      refine r_seq ?_
      refine r_region ?_
      refine p_as rfl rfl ?_
      refine o_keep (.c 1 rfl (.c 2 rfl (.c 4 rfl .n))) ?_
      refine r_retv hF rfl (.c (.t rfl) .n) ?_ ?_
      · first | exact Ent.rfl | (repeat (first | exact Ent.rfl | refine Ent.c (SelB.ent) ?_ | refine Ent.c (SelS.ent) ?_ | refine Ent.cN ?_ | refine Ent.c (SelX.ent) ?_ | refine Ent.dropR ?_))
      · rfl
    · skip
      have hgr := great_no h2
      refine r_skip ?_
      refine r_seq ?_
      rcases hn : newT ws with _ | t0
      · skip
        refine r_region ?_
        refine p_lda ta_23 rfl (by exact (Tk.all (by first | rfl | assumption | (simp only [List.drop_zero, List.length_map]; assumption) | (simp [*]; done)))) rfl ?_
        refine p_callc cf_29 (.c rfl .n) rfl (town_New_none _ ws hws hn) ?_
        refine p_as rfl rfl ?_
        refine o_keep (.c 1 rfl (.c 4 rfl (.c 5 rfl .n))) ?_
        refine r_seq ?_
        refine r_seq ?_
        refine r_region ?_
        refine p_mv rfl rfl ?_
        refine l_op (x_p (pv_peqn Try.underlying68 (.n rfl) rfl rfl rfl (fun _ => ⟨rfl, rfl⟩)) rfl rfl ?_)
        refine o_keep (.c 1 rfl (.c 4 rfl (.c 5 rfl (.c 20 rfl .n)))) ?_
        refine r_cond _ rfl (fun h3 => ?_) (fun h3 => ?_)
        · skip
          refine r_seq ?_
          refine r_region ?_
          refine p_as rfl rfl ?_
          refine o_keep (.c 1 rfl (.c 4 rfl (.c 5 rfl .n))) ?_
          refine r_retv hF rfl (.c (.t rfl) .n) ?_ ?_
          · first | exact Ent.rfl | (repeat (first | exact Ent.rfl | refine Ent.c (SelB.ent) ?_ | refine Ent.c (SelS.ent) ?_ | refine Ent.cN ?_ | refine Ent.c (SelX.ent) ?_ | refine Ent.dropR ?_))
          · rfl
        · simp at h3
      · skip
        refine r_region ?_
        refine p_lda ta_23 rfl (by exact (Tk.all (by first | rfl | assumption | (simp only [List.drop_zero, List.length_map]; assumption) | (simp [*]; done)))) rfl ?_
        refine p_calle cf_29 (.c rfl .n) rfl (town_New_some _ ws hws hn) fun tb => ?_
        refine o_cat ?_
        refine p_as rfl rfl ?_
        refine o_keep (.c 1 rfl (.c 4 rfl (.c 5 rfl .n))) ?_
        refine r_seq ?_
        refine r_seq ?_
        refine r_region ?_
        refine p_mv rfl rfl ?_
        refine l_op (x_p (pv_peqn Try.underlying68 (.n rfl) rfl rfl rfl (fun _ => ⟨rfl, rfl⟩)) rfl rfl ?_)
        refine o_keep (.c 1 rfl (.c 4 rfl (.c 5 rfl (.c 20 rfl .n)))) ?_
        refine r_cond _ rfl (fun h4 => ?_) (fun h4 => ?_)
        · simp at h4
        · skip
          refine r_skip ?_
          refine r_seq ?_
          refine r_seq ?_
          refine r_region ?_
          refine p_as rfl rfl ?_
          refine o_keep (.c 1 rfl (.c 4 rfl (.c 5 rfl (.c 6 rfl .n)))) ?_
          refine r_block ?_
          refine r_loop_2 (fun (i : Nat) (t : TownS) => [(6, true, .int .i64 (i : Int))]) (.c 1 rfl (.c 4 rfl (.c 5 rfl .n))) (fun (i : Nat) (t : TownS) => townP tb t :: blk b2 (ws.map vI) 23 :: H) (fun (i : Nat) (t : TownS) => i ≤ xs.length ∧ TInv t) (fun (i : Nat) (t : TownS) => xs.length - i) (0) (t0) ?_ (.c 6 rfl .n) ?_ (fun i t hI => ?_)
          · exact ⟨Nat.zero_le _, (TInv.new hws hn).1⟩
          · first | exact Ent.rfl | (repeat (first | exact Ent.rfl | refine Ent.c (SelB.ent) ?_ | refine Ent.c (SelS.ent) ?_ | refine Ent.cN ?_ | refine Ent.c (SelX.ent) ?_ | refine Ent.dropR ?_))
          · skip
            obtain ⟨hil, hT⟩ := hI
            refine r_seq ?_
            refine r_seq ?_
            refine r_region ?_
            refine p_mv rfl rfl ?_
            refine p_mv rfl rfl ?_
            refine l_op (x_p (pv_lens hs.len ⟨_, Try.underlying66⟩ (.n rfl) rfl rfl rfl rfl (fun _ => rfl)) rfl rfl ?_)
            refine p_lss rfl rfl rfl ?_
            refine o_keep (.c 1 rfl (.c 4 rfl (.c 5 rfl (.c 6 rfl (.c 24 rfl .n))))) ?_
            refine r_cond _ rfl (fun h5 => ?_) (fun h5 => ?_)
            · skip
              obtain ⟨x, hxi⟩ := getlt (l := xs) (i := i) (by have := of_decide_eq_true h5; omega)
              have hil2 := (List.getElem?_eq_some_iff.1 hxi).1
              have hxm := List.mem_of_getElem? hxi
              have hxr := hx x hxm
              have hxw := hgr.2 x hxm
              refine r_skip ?_
              refine r_seq ?_
              refine r_block ?_
              refine r_region ?_
              refine p_mv rfl rfl ?_
              refine p_mv rfl rfl ?_
              refine p_mv rfl rfl ?_
              refine p_idx Try.underlying66 (.ofA ta_72) hs rfl (mapget hxi) rfl rfl rfl ?_
              refine p_ldats 0 ta_72 (Rd.ent hs (by repeat (first | exact Ent.rfl | exact Ent.one Ent.h | exact Ent.one (SelS.ent) | exact Ent.nil | exact Ent.left | refine Ent.dropR ?_ | refine Ent.tr Ent.skip ?_))) (mapget hxi) rfl rfl (.s (.s (.s .z))) rfl ?_
              refine o_ent (SelX.ent (X := townP tb t)) ?_
              refine p_call cf_31 (.c rfl (.c rfl .n)) rfl (town_Step _ _ tb t hT x hxr.all (by omega)) ?_
              rintro _ _ ⟨rfl, rfl⟩
              refine o_keep (.c 1 rfl (.c 4 rfl (.c 5 rfl (.c 6 rfl .n)))) ?_
              refine r_end ?_
              refine r_region ?_
              refine p_mv rfl rfl ?_
              refine p_add rfl rfl (by omega) rfl ?_
              refine p_as rfl rfl ?_
              refine o_keep (.c 1 rfl (.c 4 rfl (.c 5 rfl (.c 6 rfl .n)))) ?_
              refine r_back_2 (i + 1) ((stepT t x.s).1) ?_ ?_ (Keep.app (.c 6 rfl .n) (.c 1 rfl (.c 4 rfl (.c 5 rfl .n)))) ?_
              · exact ⟨by omega, hT.step _⟩
              · omega
              · first | exact Ent.rfl | (repeat (first | exact Ent.rfl | refine Ent.c (SelB.ent) ?_ | refine Ent.c (SelS.ent) ?_ | refine Ent.cN ?_ | refine Ent.c (SelX.ent) ?_ | refine Ent.dropR ?_))
            · skip
              refine r_exit rfl ?_
              refine r_seq ?_
              refine r_seq ?_
              refine r_region ?_
              refine p_mv rfl rfl ?_
              refine p_callc cf_32 (.c rfl .n) rfl (town_Calm _ tb t hT) ?_
              refine p_as rfl rfl ?_
              refine o_keep (.c 4 rfl (.c 5 rfl (.c 7 rfl .n))) ?_
              obtain ⟨hC, hc0, hc2⟩ := hT.calm
              generalize (calmT t).1 = u at hC ⊢
              generalize (calmT t).2 = n at hc0 hc2 ⊢
              have hw6 := worldT_len hC.inv.len
              have hser := hC.serial
              have hs6 : (serialT u).1.length = 6 := by rw [hser]; exact hw6
              have hl8 := hC.inv.b.len
              refine r_sel (townP tb u) ?_
              refine r_town fun bb c0 c1 c2 pb => ?_
              refine r_cat ?_
              refine r_seq ?_
              refine r_region ?_
              refine p_mv rfl rfl ?_
              refine p_lss rfl rfl rfl ?_
              refine p_mv rfl rfl ?_
              refine l_op (x_p (pv_mv (.s rfl rfl rfl) rfl rfl (by first | exact fun _ => rfl | exact id | exact fun h => (Bool.and_eq_true_iff.1 h).1 | simp_all)) rfl rfl ?_)
              refine l_op (x_p (pv_gtr (.s rfl rfl rfl) rfl rfl rfl (by refine fun h => ⟨?_, ?_⟩ <;> first | rfl | exact h | exact (Bool.and_eq_true_iff.1 h).1 | simp_all)) rfl rfl ?_)
              refine l_op (x_p (pv_or (.n rfl) rfl rfl rfl (fun _ => ⟨rfl, fun hc => by first | rfl | (rw [hc]; rfl) | simp_all⟩)) rfl rfl ?_)
              refine p_mv rfl rfl ?_
              refine o_split (t := 41) rfl (fun g6 => ?_) (fun g6 => ?_)
              · exfalso; simp at g6; omega
              · skip
                refine o_g (.s rfl rfl rfl) rfl ?_
                refine p_mv rfl rfl ?_
                refine o_g (.s rfl rfl rfl) rfl ?_
                refine p_nil rfl rfl ?_
                refine o_g (.s rfl rfl rfl) rfl ?_
                refine p_fa fa_84_0 rfl rfl ?_
                refine o_g (.s rfl rfl rfl) rfl ?_
                refine p_ldc tc_80 rfl (by rfl) rfl ?_
                refine o_g (.s rfl rfl rfl) rfl ?_
                refine p_calle cf_36 (.c rfl .n) rfl (broker_Due _ bb u.b hC.inv.b) fun dv => ?_
                refine o_cat ?_
                refine o_rd dv fun hrd => ?_
                refine o_g (.s rfl rfl rfl) rfl ?_
                refine l_op (x_p (pv_lens (Rd.len hrd) ⟨_, Try.underlying24⟩ (.n rfl) rfl rfl rfl rfl (fun _ => rfl)) rfl rfl ?_)
                refine o_g (.s rfl rfl rfl) rfl ?_
                refine p_neq rfl rfl rfl ?_
                refine l_op (x_p (pv_or (.n rfl) rfl rfl rfl (fun _ => ⟨rfl, fun hc => by first | rfl | (rw [hc]; rfl) | simp_all⟩)) rfl rfl ?_)
                refine p_mv rfl rfl ?_
                refine o_split (t := 50) rfl (fun g7 => ?_) (fun g7 => ?_)
                · exfalso; simp [hC.due] at g7
                · skip
                  refine o_g (.s rfl rfl rfl) rfl ?_
                  refine p_mv rfl rfl ?_
                  refine o_g (.s rfl rfl rfl) rfl ?_
                  refine p_calle cf_35 (.c rfl .n) rfl (town_Mail_o _ tb u bb c0 c1 c2 pb hC.inv) fun mv => ?_
                  refine o_cat ?_
                  refine o_rd mv fun hrm => ?_
                  refine o_g (.s rfl rfl rfl) rfl ?_
                  refine l_op (x_p (pv_lens (Rd.len hrm) ⟨_, Try.underlying24⟩ (.n rfl) rfl rfl rfl rfl (fun _ => rfl)) rfl rfl ?_)
                  refine o_g (.s rfl rfl rfl) rfl ?_
                  refine p_neq rfl rfl rfl ?_
                  refine l_op (x_p (pv_or (.n rfl) rfl rfl rfl (fun _ => ⟨rfl, fun hc => by first | rfl | (rw [hc]; rfl) | simp_all⟩)) rfl rfl ?_)
                  refine o_keep (.c 4 rfl (.c 5 rfl (.c 55 rfl .n))) ?_
                  refine r_cond _ rfl (fun h8 => ?_) (fun h8 => ?_)
                  · exfalso; simp [hC.post] at h8
                  · skip
                    refine r_skip ?_
                    refine r_seq ?_
                    refine r_seq ?_
                    refine r_region ?_
                    refine p_as rfl rfl ?_
                    refine o_keep (.c 4 rfl (.c 5 rfl (.c 8 rfl .n))) ?_
                    refine r_block ?_
                    refine r_loop_1 (fun (k : Nat) => [(8, true, .int .i64 (k : Int))]) (.c 4 rfl (.c 5 rfl .n)) (fun (k : Nat) => blk tb (tnC bb u.ws c0 c1 c2 pb) 84 :: brokP bb u.b :: manyP clerkP [c0, c1, c2] u.ks :: postP pb u.post :: blk b2 (ws.map vI) 23 :: H) (fun (k : Nat) => k ≤ u.b.l.length) (fun (k : Nat) => u.b.l.length - k) (0) ?_ (.c 8 rfl .n) ?_ (fun k hI => ?_)
                    · exact Nat.zero_le _
                    · first | exact Ent.rfl | (repeat (first | exact Ent.rfl | refine Ent.c (SelB.ent) ?_ | refine Ent.c (SelS.ent) ?_ | refine Ent.cN ?_ | refine Ent.c (SelX.ent) ?_ | refine Ent.dropR ?_))
                    · skip
                      refine r_seq ?_
                      refine r_seq ?_
                      refine r_region ?_
                      refine p_mv rfl rfl ?_
                      refine p_mv rfl rfl ?_
                      refine p_nil rfl rfl ?_
                      refine p_fa fa_84_0 rfl rfl ?_
                      refine p_ldc tc_80 rfl (by rfl) rfl ?_
                      refine p_callv cf_39 (.c rfl .n) rfl ((broker_Len _ bb u.b hC.inv.b).q) ?_
                      refine p_lss rfl rfl rfl ?_
                      refine o_keep (.c 4 rfl (.c 5 rfl (.c 8 rfl (.c 62 rfl .n)))) ?_
                      refine r_cond _ rfl (fun h9 => ?_) (fun h9 => ?_)
                      · skip
                        have hk : k < u.b.l.length := by have := of_decide_eq_true h9; omega
                        have hd := hC.st (n := (k : Int)) (by omega) (by omega)
                        refine r_skip ?_
                        refine r_seq ?_
                        refine r_block ?_
                        refine r_seq ?_
                        refine r_region ?_
                        refine p_mv rfl rfl ?_
                        refine p_nil rfl rfl ?_
                        refine p_fa fa_84_0 rfl rfl ?_
                        refine p_ldc tc_80 rfl (by rfl) rfl ?_
                        refine p_mv rfl rfl ?_
                        refine p_callv cf_41 (.c rfl (.c rfl .n)) rfl ((broker_State _ bb u.b hC.inv.b k).q) ?_
                        refine p_neq rfl rfl rfl ?_
                        refine p_mv rfl rfl ?_
                        refine l_op (x_p (pv_mv (.s rfl rfl rfl) rfl rfl (by first | exact fun _ => rfl | exact id | exact fun h => (Bool.and_eq_true_iff.1 h).1 | simp_all)) rfl rfl ?_)
                        refine l_op (x_p (pv_nilp (.s rfl rfl rfl) rfl rfl (by first | exact fun _ => rfl | exact id | exact fun h => (Bool.and_eq_true_iff.1 h).1 | simp_all)) rfl rfl ?_)
                        refine l_op (x_p (pv_fa fa_84_0 (.s rfl rfl rfl) rfl rfl (by first | exact fun _ => rfl | exact id | exact fun h => (Bool.and_eq_true_iff.1 h).1 | simp_all)) rfl rfl ?_)
                        refine l_op (x_r (q_ldc tc_80 (.s rfl rfl rfl) rfl rfl (by first | exact fun _ => rfl | exact id | exact fun h => (Bool.and_eq_true_iff.1 h).1 | simp_all) (by rfl)) rfl rfl ?_)
                        refine l_op (x_p (pv_mv (.s rfl rfl rfl) rfl rfl (by first | exact fun _ => rfl | exact id | exact fun h => (Bool.and_eq_true_iff.1 h).1 | simp_all)) rfl rfl ?_)
                        refine l_op (x_q (rq_call cf_41 (.s rfl rfl rfl) rfl (.c rfl (by first | exact fun _ => rfl | exact id | exact fun h => (Bool.and_eq_true_iff.1 h).1 | simp_all) (.c rfl (by first | exact fun _ => rfl | exact id | exact fun h => (Bool.and_eq_true_iff.1 h).1 | simp_all) .n)) (fun hg => (broker_State _ bb u.b hC.inv.b k).q)) rfl rfl ?_)
                        refine l_op (x_p (pv_neq (.s rfl rfl rfl) rfl rfl rfl (by refine fun h => ⟨?_, ?_⟩ <;> first | rfl | exact h | exact (Bool.and_eq_true_iff.1 h).1 | simp_all)) rfl rfl ?_)
                        refine l_op (x_p (pv_and (.n rfl) rfl rfl rfl (fun _ => ⟨rfl, fun hc => by first | rfl | (rw [hc]; rfl) | simp_all⟩)) rfl rfl ?_)
                        refine o_keep (.c 4 rfl (.c 5 rfl (.c 8 rfl (.c 80 rfl .n)))) ?_
                        refine r_cond _ rfl (fun h10 => ?_) (fun h10 => ?_)
                        · exfalso; rcases hd with q | q <;> simp [q] at h10
                        · skip
                          refine r_skip ?_
                          refine r_end ?_
                          refine r_region ?_
                          refine p_mv rfl rfl ?_
                          refine p_add rfl rfl (by omega) rfl ?_
                          refine p_as rfl rfl ?_
                          refine o_keep (.c 4 rfl (.c 5 rfl (.c 8 rfl .n))) ?_
                          refine r_back_1 (k + 1) ?_ ?_ (Keep.app (.c 8 rfl .n) (.c 4 rfl (.c 5 rfl .n))) ?_
                          · omega
                          · omega
                          · first | exact Ent.rfl | (repeat (first | exact Ent.rfl | refine Ent.c (SelB.ent) ?_ | refine Ent.c (SelS.ent) ?_ | refine Ent.cN ?_ | refine Ent.c (SelX.ent) ?_ | refine Ent.dropR ?_))
                      · skip
                        refine r_exit rfl ?_
                        refine r_seq ?_
                        refine r_seq ?_
                        refine r_region ?_
                        refine p_as rfl rfl ?_
                        refine o_keep (.c 4 rfl (.c 5 rfl (.c 9 rfl .n))) ?_
                        refine r_block ?_
                        refine r_loop_1 (fun (s : Nat) => [(9, true, .int .i64 (s : Int))]) (.c 4 rfl (.c 5 rfl .n)) (fun (s : Nat) => blk tb (tnC bb u.ws c0 c1 c2 pb) 84 :: brokP bb u.b :: manyP clerkP [c0, c1, c2] u.ks :: postP pb u.post :: blk b2 (ws.map vI) 23 :: H) (fun (s : Nat) => s ≤ 3) (fun (s : Nat) => 3 - s) (0) ?_ (.c 9 rfl .n) ?_ (fun s hI => ?_)
                        · exact Nat.zero_le _
                        · first | exact Ent.rfl | (repeat (first | exact Ent.rfl | refine Ent.c (SelB.ent) ?_ | refine Ent.c (SelS.ent) ?_ | refine Ent.cN ?_ | refine Ent.c (SelX.ent) ?_ | refine Ent.dropR ?_))
                        · skip
                          refine r_seq ?_
                          refine r_seq ?_
                          refine r_region ?_
                          refine p_mv rfl rfl ?_
                          refine p_lss rfl rfl rfl ?_
                          refine o_keep (.c 4 rfl (.c 5 rfl (.c 9 rfl (.c 82 rfl .n)))) ?_
                          refine r_cond _ rfl (fun h11 => ?_) (fun h11 => ?_)
                          · skip
                            have hs3 : s < 3 := by have := of_decide_eq_true h11; omega
                            obtain ⟨k, hk3⟩ := getlt (l := u.ks) (i := s) (by have := hC.inv.len; omega)
                            obtain ⟨hK, _, _⟩ := hC.inv.k s k hk3
                            refine r_skip ?_
                            refine r_seq ?_
                            refine r_block ?_
                            refine r_seq ?_
                            refine r_region ?_
                            refine p_mv rfl rfl ?_
                            refine p_mv rfl rfl ?_
                            refine p_callv cf_44 (.c rfl (.c rfl .n)) rfl ((town_Clerk_s _ tb bb u.ws c0 c1 c2 pb s s rfl hs3).q) ?_
                            refine p_as rfl rfl ?_
                            refine o_keep (.c 4 rfl (.c 5 rfl (.c 9 rfl (.c 10 rfl .n)))) ?_
                            refine r_seq ?_
                            refine r_many (P := clerkP) (bs := [c0, c1, c2]) s (cAt_get hs3) hk3 ?_
                            refine r_ex fun kb => ?_
                            refine r_cat ?_
                            refine r_sel (keepP kb k) ?_
                            refine r_ex2 fun sb lv => ?_
                            refine r_cat ?_
                            refine r_rd lv fun hrl => ?_
                            refine r_region ?_
                            refine p_mv rfl rfl ?_
                            refine l_op (x_p (pv_peqn Try.underlying26 (.n rfl) rfl rfl rfl (fun _ => ⟨rfl, rfl⟩)) rfl rfl ?_)
                            refine p_mv rfl rfl ?_
                            refine o_split (t := 90) rfl (fun g12 => ?_) (fun g12 => ?_)
                            · simp at g12
                            · skip
                              refine o_g (.s rfl rfl rfl) rfl ?_
                              refine p_mv rfl rfl ?_
                              refine o_g (.s rfl rfl rfl) rfl ?_
                              refine p_nil rfl rfl ?_
                              refine o_g (.s rfl rfl rfl) rfl ?_
                              refine p_fa fa_40_0 rfl rfl ?_
                              refine o_g (.s rfl rfl rfl) rfl ?_
                              refine p_ldc tc_38 rfl (by rfl) rfl ?_
                              refine o_g (.s rfl rfl rfl) rfl ?_
                              refine p_nil rfl rfl ?_
                              refine o_g (.s rfl rfl rfl) rfl ?_
                              refine p_fa fa_44_0 rfl rfl ?_
                              refine o_g (.s rfl rfl rfl) rfl ?_
                              refine p_ldc tc_41 rfl (by rfl) rfl ?_
                              refine o_g (.s rfl rfl rfl) rfl ?_
                              refine p_calle cf_18 (.c rfl .n) rfl (shop_Holds _ sb k.shop (by have := hK.sh.holds_le; omega) (by have := hK.sh.over_le; omega)) fun hv => ?_
                              refine o_cat ?_
                              refine o_rd hv fun hrh => ?_
                              refine o_g (.s rfl rfl rfl) rfl ?_
                              refine l_op (x_p (pv_lens (Rd.len hrh) ⟨_, Try.underlying45⟩ (.n rfl) rfl rfl rfl rfl (fun _ => rfl)) rfl rfl ?_)
                              refine o_g (.s rfl rfl rfl) rfl ?_
                              refine p_neq rfl rfl rfl ?_
                              refine l_op (x_p (pv_or (.n rfl) rfl rfl rfl (fun _ => ⟨rfl, fun hc => by first | rfl | (rw [hc]; rfl) | simp_all⟩)) rfl rfl ?_)
                              refine o_keep (.c 4 rfl (.c 5 rfl (.c 9 rfl (.c 101 rfl .n)))) ?_
                              refine r_cond _ rfl (fun h13 => ?_) (fun h13 => ?_)
                              · exfalso; simp [hC.holds hk3] at h13
                              · skip
                                refine r_skip ?_
                                refine r_end ?_
                                refine r_region ?_
                                refine p_mv rfl rfl ?_
                                refine p_add rfl rfl (by omega) rfl ?_
                                refine p_as rfl rfl ?_
                                refine o_keep (.c 4 rfl (.c 5 rfl (.c 9 rfl .n))) ?_
                                refine r_back_1 (s + 1) ?_ ?_ (Keep.app (.c 9 rfl .n) (.c 4 rfl (.c 5 rfl .n))) ?_
                                · omega
                                · omega
                                · refine Ent.tr (keepP_close (b := kb) (k := k) sb lv rfl rfl) ?_; refine Ent.tr (clerkP_close (b := cAt c0 c1 c2 s) (k := k) kb rfl) ?_; refine Ent.tr (Ent.mono (SelX.ent (X := restP clerkP [c0, c1, c2] u.ks s))) ?_; refine Ent.tr (many_back (cAt_get hs3) hk3) ?_; first | exact Ent.rfl | (repeat (first | exact Ent.rfl | refine Ent.c (SelB.ent) ?_ | refine Ent.c (SelS.ent) ?_ | refine Ent.cN ?_ | refine Ent.c (SelX.ent) ?_ | refine Ent.dropR ?_))
                          · skip
                            refine r_exit rfl ?_
                            refine r_seq ?_
                            refine r_region ?_
                            refine p_mv rfl rfl ?_
                            refine p_callc cf_42 (.c rfl .n) rfl (town_Serial_o _ tb u bb c0 c1 c2 pb hC.inv) ?_
                            refine p_mv rfl rfl ?_
                            refine p_ext rfl rfl rfl ?_
                            refine p_ext rfl rfl rfl ?_
                            refine p_alloc zr_23 rfl fun b11 => ?_
                            refine p_store (.ofA ta_23) rfl rfl rfl (by first | rfl | exact (by first | rfl | assumption | (simp only [List.drop_zero, List.length_map]; assumption) | (simp [*]; done))) (by first | rfl | exact (by first | rfl | simp [vI, Value.oneCell'])) (Ins.whole (by first | rfl | (simp only [List.length_map, List.length_cons, List.length_nil]; omega) | (simp [*]; done) | (simp [*]; rfl))) ?_
                            refine p_as rfl rfl ?_
                            refine o_keep (.c 4 rfl (.c 5 rfl (.c 11 rfl (.c 12 rfl .n)))) ?_
                            refine r_seq ?_
                            refine r_plan _ [] mo (.c 5 rfl (.c 11 rfl (.c 12 rfl .n))) Ent.rfl ?_
                            refine qm_q (i := 0) (l := [.k 12]) rfl rfl rfl rfl (by kernel_rfl) rfl (fun He => PV.rq (pv_mv (.n rfl) rfl rfl (fun _ => rfl))) ?_
                            refine qm_q (i := 1) (l := [.o 0]) rfl rfl rfl rfl (by kernel_rfl) rfl (fun He => PV.rq (pv_to (pv_eql (.n rfl) rfl rfl rfl (fun _ => ⟨rfl, rfl⟩)) (show _ = Value.bool true from bool_eq (by simp [hser])))) ?_
                            refine qm_q (i := 2) (l := [.o 1]) rfl rfl rfl rfl (by kernel_rfl) rfl (fun He => PV.rq (pv_mv (.n rfl) rfl rfl (fun _ => rfl))) ?_
                            refine qm_q (i := 3) (l := [.k 11, .o 2]) rfl rfl rfl rfl (by kernel_rfl) rfl (fun He => RV.rq (rv_ung (.s rfl rfl rfl) rfl (q_lda ta_23 (.n rfl) rfl rfl (fun _ => rfl) (by exact (Tk.all (by first | rfl | assumption | (simp only [List.drop_zero, List.length_map]; assumption) | (simp [*]; done))))))) ?_
                            refine qm_q (i := 4) (l := [.k 5, .o 2]) rfl rfl rfl rfl (by kernel_rfl) rfl (fun He => PV.rq (pv_ung (.s rfl rfl rfl) rfl (pv_mv (.n rfl) rfl rfl (fun _ => rfl)))) ?_
                            refine qm_q (i := 5) (l := [.o 4, .o 2]) rfl rfl rfl rfl (by kernel_rfl) rfl (fun He => rq_ung (.s rfl rfl rfl) rfl (rq_call cf_33 (.n rfl) rfl (.c rfl (fun _ => rfl) .n) (fun hg => (town_World_o _ tb u bb c0 c1 c2 pb hC.inv).q))) ?_
                            refine qm_q (i := 6) (l := [.o 3, .o 5, .o 2]) rfl rfl rfl rfl (by kernel_rfl) rfl (fun He => PV.rq (pv_ung (.s rfl rfl rfl) rfl (pv_to (pv_aeq (eq_World hs6 hw6) (.n rfl) rfl rfl rfl (fun _ => ⟨rfl, rfl⟩)) (show _ = Value.bool true from bool_eq (by simp [hser]))))) ?_
                            refine qm_q (i := 7) (l := [.o 2, .o 6]) rfl rfl rfl rfl (by kernel_rfl) rfl (fun He => PV.rq (pv_and (.n rfl) rfl rfl rfl (fun _ => ⟨rfl, fun hc => by first | rfl | (rw [hc]; rfl) | simp_all⟩))) ?_
                            refine qm_q (i := 8) (l := [.o 7]) rfl rfl rfl rfl (by kernel_rfl) rfl (fun He => PV.rq (pv_as (.n rfl) rfl rfl (fun _ => rfl))) ?_
                            refine qm_n (by kernel_rfl) (by kernel_rfl) (by kernel_rfl) (by kernel_rfl) (.c 4 rfl .n) ?_
                            refine r_retv hF rfl (.c (.t rfl) .n) ?_ ?_
                            · first | exact Ent.rfl | (repeat (first | exact Ent.rfl | refine Ent.c (SelB.ent) ?_ | refine Ent.c (SelS.ent) ?_ | refine Ent.cN ?_ | refine Ent.c (SelX.ent) ?_ | refine Ent.dropR ?_))
                            · rfl

end Go.Proofs.Ytmakdilmibjpbac
