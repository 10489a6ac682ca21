/- The walks of TownSum: written by a program of ours (gen.py) over the engine. -/
import Derived.Test.YtmakdilmibjpbacPlain
import Derived.Test.YtmakdilmibjpbacFacts
import Derived.Test.YtmakdilmibjpbacTownW
namespace Go.Proofs.Ytmakdilmibjpbac
open Go Go.RowKit
set_option linter.unusedVariables false
set_option linter.unusedSimpArgs false
set_option maxRecDepth 20000

def sumV : List Want → Int
  | [] => 0
  | w :: l => (if dlt w.dl = 0 then w.dl else 0) + sumV l
theorem sumV_app : ∀ (a b : List Want), sumV (a ++ b) = sumV a + sumV b
  | [], b => by simp [sumV]
  | w :: a, b => by simp only [List.cons_append, sumV, sumV_app a b]; omega
theorem sumV_S {l : List Want} {q : Nat} {w : Want} (h : l[q]? = some w) : sumV (l.take (q + 1)) = sumV (l.take q) + (if dlt w.dl = 0 then w.dl else 0) := by
  rw [take_S h, sumV_app]; simp [sumV]
theorem sumV_ok : ∀ {l : List Want}, (∀ w ∈ l, wantF w = 0) → sumV l = sumW l
  | [], _ => rfl
  | w :: l, h => by
    have h1 := h w (by simp)
    have h2 : dlt w.dl = 0 := by
      unfold wantF at h1
      split at h1
      · omega
      · exact h1
    simp only [sumV, sumW, if_pos h2]
    rw [sumV_ok fun v hv => h v (List.mem_cons_of_mem _ hv)]
theorem sum_step {t : TownS} {x : StepS} (hT : TInv t) (h : SumZ t.b) (hk : x.kind = 1 → sumV x.wants = 0) : SumZ (stepT t x).1.b := by
  by_cases h1 : x.kind = 1
  · rw [stepT_1 h1]
    exact h.begin hT.b fun hc => by rw [← sumV_ok ((checkL_ok _).1 hc).2.2.1]; exact hk h1
  · exact h.of fun n => step_wants hT x h1 n
theorem deliver_wsN (t : TownS) (n : Int) : (deliverT t n).1.ws = t.ws := by
  unfold deliverT
  repeat' split
  all_goals rfl
theorem step_ws (t : TownS) (x : StepS) : (stepT t x).1.ws = t.ws := by
  unfold stepT
  repeat' split
  all_goals first | rfl | exact deliver_wsN _ _
def sumP (ws : List Int) : Nat → Int
  | 0 => 0
  | k + 1 => sumP ws k + ws.getD k 0
theorem sumP_6 (ws : List Int) : sumP ws 6 = sumI6 ws := by simp only [sumP, sumI6]; omega
theorem newK_bd {s : Int} {ws : List Int} {k : KeepS} (h : newK s ws = some k) : (0 ≤ ws.getD (s * 2).toNat 0 ∧ ws.getD (s * 2).toNat 0 ≤ 100) ∧ (0 ≤ ws.getD (s * 2 + 1).toNat 0 ∧ ws.getD (s * 2 + 1).toNat 0 ≤ 100) := by
  obtain ⟨_, _, _, _, hs⟩ := KInv.new h
  obtain ⟨h1, _, _, _, e0, e1⟩ := newS_ok hs
  have a := chk_ok h1.k0; have b := chk_ok h1.k1
  rw [e0] at a; rw [e1] at b
  exact ⟨⟨a.1, a.2.1⟩, ⟨b.1, b.2.1⟩⟩
theorem new_bd {ws : List Int} {t : TownS} (h : newT ws = some t) : ∀ j : Nat, j < 6 → 0 ≤ ws.getD j 0 ∧ ws.getD j 0 ≤ 100 := by
  unfold newT at h
  split at h
  · rename_i a b c ha hb hc
    obtain ⟨a1, a2⟩ := newK_bd ha; obtain ⟨b1, b2⟩ := newK_bd hb; obtain ⟨c1, c2⟩ := newK_bd hc
    intro j hj
    rcases (show j = 0 ∨ j = 1 ∨ j = 2 ∨ j = 3 ∨ j = 4 ∨ j = 5 by omega) with rfl | rfl | rfl | rfl | rfl | rfl
    · exact a1
    · exact a2
    · exact b1
    · exact b2
    · exact c1
    · exact c2
  · cases h
theorem world_bd {t : TownS} (hT : TInv t) : ∀ j : Nat, j < 6 → 0 ≤ (worldT t).getD j 0 ∧ (worldT t).getD j 0 ≤ 100 := by
  intro j hj
  obtain ⟨k, hk⟩ := getlt (l := t.ks) (i := j / 2) (by have := hT.len; omega)
  obtain ⟨hK, _, _⟩ := hT.k _ _ hk
  obtain ⟨h1, h2⟩ := worldT_get hT.len hk
  have a := chk_ok hK.sh.k0; have b := chk_ok hK.sh.k1
  rcases (show j = 2 * (j / 2) ∨ j = 2 * (j / 2) + 1 by omega) with e | e
  · rw [e, h1]; exact ⟨a.1, a.2.1⟩
  · rw [e, h2]; exact ⟨b.1, b.2.1⟩
theorem sumz_new {ws : List Int} {t : TownS} (hws : ws.length = 6) (h : newT ws = some t) : SumZ t.b := by
  obtain ⟨_, _, _, hb⟩ := TInv.new hws h
  intro n
  have : wantsB t.b n = [] := by unfold wantsB; rw [hb]; split <;> simp
  rw [this]; rfl

theorem law_TownSum (M : Amb) (H : List HP) (ws : List Int) (hws : ws.length = 6) (xs : List TStep) (sv : Value) (hs : Rd M [] sv 3 (xs.map rTS)) (hx : ∀ x ∈ xs, Rd M [] x.wv 2 (x.wants.map rW)) : FnV Try.prog M H 6 [.agg (ws.map vI).toArray, sv] (.bool true) := by
  refine fn_intro Try.func6 rfl Try.ntmps6 rfl fun F hF => ?_
  refine r_seq ?_
  refine r_region ?_
  refine p_box rfl rfl rfl fun b2 => ?_
  refine p_as rfl rfl ?_
  refine o_keep (.c 1 rfl (.c 2 rfl (.c 4 rfl .n))) ?_
  refine r_seq ?_
  refine r_seq ?_
  refine r_region ?_
  refine p_callv cf_27 (.n) rfl (law_townBegun _ _) ?_
  refine p_not rfl rfl ?_
  refine o_keep (.c 1 rfl (.c 2 rfl (.c 4 rfl (.c 14 rfl .n)))) ?_
  refine r_cond _ rfl (fun h1 => ?_) (fun h1 => ?_)
  · simp at h1
  · skip
    refine r_skip ?_
    refine r_seq ?_
    refine r_seq ?_
    refine r_region ?_
    refine p_mv rfl rfl ?_
    refine p_callv cf_28 (.c rfl .n) rfl ((law_great _ xs sv hs hx).q) ?_
    refine o_keep (.c 1 rfl (.c 2 rfl (.c 4 rfl (.c 16 rfl .n)))) ?_
    refine r_cond _ rfl (fun h2 => ?_) (fun h2 => ?_)
    · skip
      refine r_seq ?_
      refine r_region ?_
      refine p_as rfl rfl ?_
      refine o_keep (.c 1 rfl (.c 2 rfl (.c 4 rfl .n))) ?_
      refine r_retv hF rfl (.c (.t rfl) .n) ?_ ?_
      · first | exact Ent.rfl | (repeat (first | exact Ent.rfl | refine Ent.c (SelB.ent) ?_ | refine Ent.c (SelS.ent) ?_ | refine Ent.cN ?_ | refine Ent.c (SelX.ent) ?_ | refine Ent.dropR ?_))
      · first | rfl | exact bool_eq (by simp [hfin])
    · skip
      have hgr := great_no h2
      refine r_skip ?_
      refine r_seq ?_
      rcases hn : newT ws with _ | t0
      · skip
        refine r_region ?_
        refine p_lda ta_23 rfl (by exact (Tk.all (by first | rfl | assumption | (simp only [List.drop_zero, List.length_map]; assumption) | (simp [*]; done)))) rfl ?_
        refine p_callc cf_29 (.c rfl .n) rfl (town_New_none _ ws hws hn) ?_
        refine p_as rfl rfl ?_
        refine o_keep (.c 1 rfl (.c 2 rfl (.c 4 rfl (.c 5 rfl .n)))) ?_
        refine r_seq ?_
        refine r_seq ?_
        refine r_region ?_
        refine p_mv rfl rfl ?_
        refine l_op (x_p (pv_peqn Try.underlying68 (.n rfl) rfl rfl rfl (fun _ => ⟨rfl, rfl⟩)) rfl rfl ?_)
        refine o_keep (.c 1 rfl (.c 2 rfl (.c 4 rfl (.c 5 rfl (.c 20 rfl .n))))) ?_
        refine r_cond _ rfl (fun h3 => ?_) (fun h3 => ?_)
        · skip
          refine r_seq ?_
          refine r_region ?_
          refine p_as rfl rfl ?_
          refine o_keep (.c 1 rfl (.c 2 rfl (.c 4 rfl (.c 5 rfl .n)))) ?_
          refine r_retv hF rfl (.c (.t rfl) .n) ?_ ?_
          · first | exact Ent.rfl | (repeat (first | exact Ent.rfl | refine Ent.c (SelB.ent) ?_ | refine Ent.c (SelS.ent) ?_ | refine Ent.cN ?_ | refine Ent.c (SelX.ent) ?_ | refine Ent.dropR ?_))
          · first | rfl | exact bool_eq (by simp [hfin])
        · simp at h3
      · skip
        refine r_region ?_
        refine p_lda ta_23 rfl (by exact (Tk.all (by first | rfl | assumption | (simp only [List.drop_zero, List.length_map]; assumption) | (simp [*]; done)))) rfl ?_
        refine p_calle cf_29 (.c rfl .n) rfl (town_New_some _ ws hws hn) fun tb => ?_
        refine o_cat ?_
        refine p_as rfl rfl ?_
        refine o_keep (.c 1 rfl (.c 2 rfl (.c 4 rfl (.c 5 rfl .n)))) ?_
        refine r_seq ?_
        refine r_seq ?_
        refine r_region ?_
        refine p_mv rfl rfl ?_
        refine l_op (x_p (pv_peqn Try.underlying68 (.n rfl) rfl rfl rfl (fun _ => ⟨rfl, rfl⟩)) rfl rfl ?_)
        refine o_keep (.c 1 rfl (.c 2 rfl (.c 4 rfl (.c 5 rfl (.c 20 rfl .n))))) ?_
        refine r_cond _ rfl (fun h4 => ?_) (fun h4 => ?_)
        · simp at h4
        · skip
          refine r_skip ?_
          refine r_seq ?_
          refine r_seq ?_
          refine r_region ?_
          refine p_as rfl rfl ?_
          refine o_keep (.c 1 rfl (.c 2 rfl (.c 4 rfl (.c 5 rfl (.c 6 rfl .n))))) ?_
          refine r_block ?_
          refine r_loop_2 (fun (i : Nat) (t : TownS) => [(6, true, .int .i64 (i : Int))]) (.c 1 rfl (.c 2 rfl (.c 4 rfl (.c 5 rfl .n)))) (fun (i : Nat) (t : TownS) => townP tb t :: blk b2 (ws.map vI) 23 :: H) (fun (i : Nat) (t : TownS) => i ≤ xs.length ∧ TInv t ∧ SumZ t.b ∧ t.ws = ws) (fun (i : Nat) (t : TownS) => xs.length - i) (0) (t0) ?_ (.c 6 rfl .n) ?_ (fun i t hI => ?_)
          · exact ⟨Nat.zero_le _, (TInv.new hws hn).1, sumz_new hws hn, (TInv.new hws hn).2.1⟩
          · first | exact Ent.rfl | (repeat (first | exact Ent.rfl | refine Ent.c (SelB.ent) ?_ | refine Ent.c (SelS.ent) ?_ | refine Ent.cN ?_ | refine Ent.c (SelX.ent) ?_ | refine Ent.dropR ?_))
          · skip
            obtain ⟨hil, hT, hZ, hW⟩ := hI
            refine r_seq ?_
            refine r_seq ?_
            refine r_region ?_
            refine p_mv rfl rfl ?_
            refine p_mv rfl rfl ?_
            refine l_op (x_p (pv_lens hs.len ⟨_, Try.underlying66⟩ (.n rfl) rfl rfl rfl rfl (fun _ => rfl)) rfl rfl ?_)
            refine p_lss rfl rfl rfl ?_
            refine o_keep (.c 1 rfl (.c 2 rfl (.c 4 rfl (.c 5 rfl (.c 6 rfl (.c 24 rfl .n)))))) ?_
            refine r_cond _ rfl (fun h5 => ?_) (fun h5 => ?_)
            · skip
              obtain ⟨x, hxi⟩ := getlt (l := xs) (i := i) (by have := of_decide_eq_true h5; omega)
              have hil2 := (List.getElem?_eq_some_iff.1 hxi).1
              have hxm := List.mem_of_getElem? hxi
              have hxr := hx x hxm
              have hxw := hgr.2 x hxm
              refine r_skip ?_
              refine r_seq ?_
              refine r_block ?_
              refine r_seq ?_
              refine r_region ?_
              refine p_as rfl rfl ?_
              refine o_keep (.c 1 rfl (.c 2 rfl (.c 4 rfl (.c 5 rfl (.c 6 rfl (.c 7 rfl .n)))))) ?_
              refine r_seq ?_
              refine r_seq ?_
              refine r_region ?_
              refine p_as rfl rfl ?_
              refine o_keep (.c 1 rfl (.c 2 rfl (.c 4 rfl (.c 5 rfl (.c 6 rfl (.c 7 rfl (.c 8 rfl .n))))))) ?_
              refine r_block ?_
              refine r_loop_2 (fun (q : Nat) (a : Int) => [(8, true, .int .i64 (q : Int)), (7, true, .int .i64 a)]) (.c 1 rfl (.c 2 rfl (.c 4 rfl (.c 5 rfl (.c 6 rfl .n))))) (fun (q : Nat) (a : Int) => townP tb t :: blk b2 (ws.map vI) 23 :: H) (fun (q : Nat) (a : Int) => q ≤ x.wants.length ∧ a = sumV (x.wants.take q) ∧ -100 * (q : Int) ≤ a ∧ a ≤ 100 * (q : Int)) (fun (q : Nat) (a : Int) => x.wants.length - q) (0) (0) ?_ (.c 8 rfl (.c 7 rfl .n)) ?_ (fun q a hI => ?_)
              · exact ⟨Nat.zero_le _, rfl, by simp, by simp⟩
              · first | exact Ent.rfl | (repeat (first | exact Ent.rfl | refine Ent.c (SelB.ent) ?_ | refine Ent.c (SelS.ent) ?_ | refine Ent.cN ?_ | refine Ent.c (SelX.ent) ?_ | refine Ent.dropR ?_))
              · skip
                obtain ⟨hq0, ha, ha1, ha2⟩ := hI
                refine r_seq ?_
                refine r_seq ?_
                refine r_region ?_
                refine p_mv rfl rfl ?_
                refine p_mv rfl rfl ?_
                refine p_mv rfl rfl ?_
                refine p_idx Try.underlying66 (.ofA ta_72) hs rfl (mapget hxi) rfl rfl rfl ?_
                refine p_faat fa_72_2 (Rd.sh hs (mapget hxi)) rfl rfl ?_
                refine p_ldat 2 tc_70 (Rd.ent hs (by repeat (first | exact Ent.rfl | exact Ent.one Ent.h | exact Ent.one (SelS.ent) | exact Ent.nil | exact Ent.left | refine Ent.dropR ?_ | refine Ent.tr Ent.skip ?_))) (mapget hxi) rfl rfl rfl rfl ?_
                refine l_op (x_p (pv_lens hxr.len ⟨_, Try.underlying70⟩ (.n rfl) rfl rfl rfl rfl (fun _ => rfl)) rfl rfl ?_)
                refine p_lss rfl rfl rfl ?_
                refine o_keep (.c 1 rfl (.c 2 rfl (.c 4 rfl (.c 5 rfl (.c 6 rfl (.c 7 rfl (.c 8 rfl (.c 34 rfl .n)))))))) ?_
                refine r_cond _ rfl (fun h6 => ?_) (fun h6 => ?_)
                · skip
                  obtain ⟨w, hwq⟩ := getlt (l := x.wants) (i := q) (by have := of_decide_eq_true h6; omega)
                  have hq2 := (List.getElem?_eq_some_iff.1 hwq).1
                  have hsv := sumV_S hwq
                  refine r_skip ?_
                  refine r_seq ?_
                  refine r_block ?_
                  refine r_seq ?_
                  refine r_region ?_
                  refine p_mv rfl rfl ?_
                  refine p_mv rfl rfl ?_
                  refine p_idx Try.underlying66 (.ofA ta_72) hs rfl (mapget hxi) rfl rfl rfl ?_
                  refine p_faat fa_72_2 (Rd.sh hs (mapget hxi)) rfl rfl ?_
                  refine p_ldat 2 tc_70 (Rd.ent hs (by repeat (first | exact Ent.rfl | exact Ent.one Ent.h | exact Ent.one (SelS.ent) | exact Ent.nil | exact Ent.left | refine Ent.dropR ?_ | refine Ent.tr Ent.skip ?_))) (mapget hxi) rfl rfl rfl rfl ?_
                  refine p_mv rfl rfl ?_
                  refine p_idx Try.underlying70 (.ofA ta_29) hxr rfl (mapget hwq) rfl rfl rfl ?_
                  refine p_faat fa_29_1 (Rd.sh hxr (mapget hwq)) rfl rfl ?_
                  refine p_ldat 1 tc_3 (Rd.ent hxr (by repeat (first | exact Ent.rfl | exact Ent.one Ent.h | exact Ent.one (SelS.ent) | exact Ent.nil | exact Ent.left | refine Ent.dropR ?_ | refine Ent.tr Ent.skip ?_))) (mapget hwq) rfl rfl rfl rfl ?_
                  refine p_callv cf_30 (.c rfl .n) rfl (ref_DeltaFault _ _ _) ?_
                  refine p_eql rfl rfl rfl ?_
                  refine o_keep (.c 1 rfl (.c 2 rfl (.c 4 rfl (.c 5 rfl (.c 6 rfl (.c 7 rfl (.c 8 rfl (.c 47 rfl .n)))))))) ?_
                  refine r_cond _ rfl (fun h7 => ?_) (fun h7 => ?_)
                  · skip
                    have hd : dlt w.dl = 0 := of_decide_eq_true h7
                    have hdb := dlt_ok hd
                    rw [if_pos hd] at hsv
                    refine r_region ?_
                    refine p_mv rfl rfl ?_
                    refine p_mv rfl rfl ?_
                    refine p_mv rfl rfl ?_
                    refine p_idx Try.underlying66 (.ofA ta_72) hs rfl (mapget hxi) rfl rfl rfl ?_
                    refine p_faat fa_72_2 (Rd.sh hs (mapget hxi)) rfl rfl ?_
                    refine p_ldat 2 tc_70 (Rd.ent hs (by repeat (first | exact Ent.rfl | exact Ent.one Ent.h | exact Ent.one (SelS.ent) | exact Ent.nil | exact Ent.left | refine Ent.dropR ?_ | refine Ent.tr Ent.skip ?_))) (mapget hxi) rfl rfl rfl rfl ?_
                    refine p_mv rfl rfl ?_
                    refine p_idx Try.underlying70 (.ofA ta_29) hxr rfl (mapget hwq) rfl rfl rfl ?_
                    refine p_faat fa_29_1 (Rd.sh hxr (mapget hwq)) rfl rfl ?_
                    refine p_ldat 1 tc_3 (Rd.ent hxr (by repeat (first | exact Ent.rfl | exact Ent.one Ent.h | exact Ent.one (SelS.ent) | exact Ent.nil | exact Ent.left | refine Ent.dropR ?_ | refine Ent.tr Ent.skip ?_))) (mapget hwq) rfl rfl rfl rfl ?_
                    refine p_add rfl rfl (by omega) rfl ?_
                    refine p_as rfl rfl ?_
                    refine o_keep (.c 1 rfl (.c 2 rfl (.c 4 rfl (.c 5 rfl (.c 6 rfl (.c 7 rfl (.c 8 rfl .n))))))) ?_
                    refine r_end ?_
                    refine r_region ?_
                    refine p_mv rfl rfl ?_
                    refine p_add rfl rfl (by omega) rfl ?_
                    refine p_as rfl rfl ?_
                    refine o_keep (.c 1 rfl (.c 2 rfl (.c 4 rfl (.c 5 rfl (.c 6 rfl (.c 7 rfl (.c 8 rfl .n))))))) ?_
                    refine r_back_2 (q + 1) (a + w.dl) ?_ ?_ (Keep.app (.c 8 rfl (.c 7 rfl .n)) (.c 1 rfl (.c 2 rfl (.c 4 rfl (.c 5 rfl (.c 6 rfl .n)))))) ?_
                    · exact ⟨by omega, by rw [hsv, ← ha], by omega, by omega⟩
                    · omega
                    · first | exact Ent.rfl | (repeat (first | exact Ent.rfl | refine Ent.c (SelB.ent) ?_ | refine Ent.c (SelS.ent) ?_ | refine Ent.cN ?_ | refine Ent.c (SelX.ent) ?_ | refine Ent.dropR ?_))
                  · skip
                    have hd : ¬ dlt w.dl = 0 := of_decide_eq_false h7
                    rw [if_neg hd] at hsv
                    refine r_skip ?_
                    refine r_end ?_
                    refine r_region ?_
                    refine p_mv rfl rfl ?_
                    refine p_add rfl rfl (by omega) rfl ?_
                    refine p_as rfl rfl ?_
                    refine o_keep (.c 1 rfl (.c 2 rfl (.c 4 rfl (.c 5 rfl (.c 6 rfl (.c 7 rfl (.c 8 rfl .n))))))) ?_
                    refine r_back_2 (q + 1) (a) ?_ ?_ (Keep.app (.c 8 rfl (.c 7 rfl .n)) (.c 1 rfl (.c 2 rfl (.c 4 rfl (.c 5 rfl (.c 6 rfl .n)))))) ?_
                    · exact ⟨by omega, by rw [hsv, ← ha]; omega, by omega, by omega⟩
                    · omega
                    · first | exact Ent.rfl | (repeat (first | exact Ent.rfl | refine Ent.c (SelB.ent) ?_ | refine Ent.c (SelS.ent) ?_ | refine Ent.cN ?_ | refine Ent.c (SelX.ent) ?_ | refine Ent.dropR ?_))
                · skip
                  have hqe : x.wants.length ≤ q := by have := of_decide_eq_false h6; omega
                  rw [List.take_of_length_le hqe] at ha
                  refine r_exit rfl ?_
                  refine r_seq ?_
                  refine r_seq ?_
                  refine r_region ?_
                  refine p_mv rfl rfl ?_
                  refine p_mv rfl rfl ?_
                  refine p_idx Try.underlying66 (.ofA ta_72) hs rfl (mapget hxi) rfl rfl rfl ?_
                  refine p_faat fa_72_0 (Rd.sh hs (mapget hxi)) rfl rfl ?_
                  refine p_ldat 0 tc_3 (Rd.ent hs (by repeat (first | exact Ent.rfl | exact Ent.one Ent.h | exact Ent.one (SelS.ent) | exact Ent.nil | exact Ent.left | refine Ent.dropR ?_ | refine Ent.tr Ent.skip ?_))) (mapget hxi) rfl rfl rfl rfl ?_
                  refine p_eql rfl rfl rfl ?_
                  refine p_mv rfl rfl ?_
                  refine l_op (x_p (pv_mv (.s rfl rfl rfl) rfl rfl (by first | exact fun _ => rfl | exact id | exact fun h => (Bool.and_eq_true_iff.1 h).1 | simp_all)) rfl rfl ?_)
                  refine l_op (x_p (pv_neq (.s rfl rfl rfl) rfl rfl rfl (by refine fun h => ⟨?_, ?_⟩ <;> first | rfl | exact h | exact (Bool.and_eq_true_iff.1 h).1 | simp_all)) rfl rfl ?_)
                  refine l_op (x_p (pv_and (.n rfl) rfl rfl rfl (fun _ => ⟨rfl, fun hc => by first | rfl | (rw [hc]; rfl) | simp_all⟩)) rfl rfl ?_)
                  refine o_keep (.c 1 rfl (.c 2 rfl (.c 4 rfl (.c 5 rfl (.c 6 rfl (.c 68 rfl .n)))))) ?_
                  refine r_cond _ rfl (fun h8 => ?_) (fun h8 => ?_)
                  · skip
                    refine r_exit rfl ?_
                    refine r_region ?_
                    refine p_mv rfl rfl ?_
                    refine p_add rfl rfl (by omega) rfl ?_
                    refine p_as rfl rfl ?_
                    refine o_keep (.c 1 rfl (.c 2 rfl (.c 4 rfl (.c 5 rfl (.c 6 rfl .n))))) ?_
                    refine r_back_2 (i + 1) (t) ?_ ?_ (Keep.app (.c 6 rfl .n) (.c 1 rfl (.c 2 rfl (.c 4 rfl (.c 5 rfl .n))))) ?_
                    · exact ⟨by omega, hT, hZ, hW⟩
                    · omega
                    · first | exact Ent.rfl | (repeat (first | exact Ent.rfl | refine Ent.c (SelB.ent) ?_ | refine Ent.c (SelS.ent) ?_ | refine Ent.cN ?_ | refine Ent.c (SelX.ent) ?_ | refine Ent.dropR ?_))
                  · skip
                    have hk1 : x.kind = 1 → sumV x.wants = 0 := fun h1 => by simp [h1] at h8; omega
                    refine r_skip ?_
                    refine r_region ?_
                    refine p_mv rfl rfl ?_
                    refine p_mv rfl rfl ?_
                    refine p_mv rfl rfl ?_
                    refine p_idx Try.underlying66 (.ofA ta_72) hs rfl (mapget hxi) rfl rfl rfl ?_
                    refine p_ldats 0 ta_72 (Rd.ent hs (by repeat (first | exact Ent.rfl | exact Ent.one Ent.h | exact Ent.one (SelS.ent) | exact Ent.nil | exact Ent.left | refine Ent.dropR ?_ | refine Ent.tr Ent.skip ?_))) (mapget hxi) rfl rfl (.s (.s (.s .z))) rfl ?_
                    refine o_ent (SelX.ent (X := townP tb t)) ?_
                    refine p_call cf_31 (.c rfl (.c rfl .n)) rfl (town_Step _ _ tb t hT x hxr.all (by omega)) ?_
                    rintro _ _ ⟨rfl, rfl⟩
                    refine o_keep (.c 1 rfl (.c 2 rfl (.c 4 rfl (.c 5 rfl (.c 6 rfl .n))))) ?_
                    refine r_end ?_
                    refine r_region ?_
                    refine p_mv rfl rfl ?_
                    refine p_add rfl rfl (by omega) rfl ?_
                    refine p_as rfl rfl ?_
                    refine o_keep (.c 1 rfl (.c 2 rfl (.c 4 rfl (.c 5 rfl (.c 6 rfl .n))))) ?_
                    refine r_back_2 (i + 1) ((stepT t x.s).1) ?_ ?_ (Keep.app (.c 6 rfl .n) (.c 1 rfl (.c 2 rfl (.c 4 rfl (.c 5 rfl .n))))) ?_
                    · exact ⟨by omega, hT.step _, sum_step hT hZ hk1, (step_ws _ _).trans hW⟩
                    · omega
                    · first | exact Ent.rfl | (repeat (first | exact Ent.rfl | refine Ent.c (SelB.ent) ?_ | refine Ent.c (SelS.ent) ?_ | refine Ent.cN ?_ | refine Ent.c (SelX.ent) ?_ | refine Ent.dropR ?_))
            · skip
              refine r_exit rfl ?_
              refine r_seq ?_
              refine r_region ?_
              refine p_mv rfl rfl ?_
              refine p_callc cf_32 (.c rfl .n) rfl (town_Calm _ tb t hT) ?_
              refine o_keep (.c 2 rfl (.c 4 rfl (.c 5 rfl .n))) ?_
              have hsum := hT.sum hZ
              have hU := hT.calm.1.inv
              generalize hu : (calmT t).1 = u at hsum hU ⊢
              have hw6 := worldT_len hU.len
              have hub := world_bd hU
              have hwb := new_bd hn
              refine r_seq ?_
              refine r_region ?_
              refine p_as rfl rfl ?_
              refine p_as rfl rfl ?_
              refine o_keep (.c 2 rfl (.c 4 rfl (.c 5 rfl (.c 9 rfl (.c 10 rfl .n))))) ?_
              refine r_seq ?_
              refine r_region ?_
              refine p_mv rfl rfl ?_
              refine p_callv cf_33 (.c rfl .n) rfl ((town_World _ tb u hU).q) ?_
              refine p_alloc zr_23 rfl fun b11 => ?_
              refine p_store (.ofA ta_23) rfl rfl rfl (by first | rfl | exact (by first | rfl | assumption | (simp only [List.drop_zero, List.length_map]; assumption) | (simp [*]; done))) (by first | rfl | exact (by first | rfl | simp [vI, Value.oneCell'])) (Ins.whole (by first | rfl | (simp only [List.length_map, List.length_cons, List.length_nil]; omega) | (simp [*]; done) | (simp [*]; rfl))) ?_
              refine o_keep (.c 2 rfl (.c 4 rfl (.c 9 rfl (.c 10 rfl (.c 11 rfl .n))))) ?_
              refine r_seq ?_
              refine r_seq ?_
              refine r_region ?_
              refine p_as rfl rfl ?_
              refine o_keep (.c 2 rfl (.c 4 rfl (.c 9 rfl (.c 10 rfl (.c 11 rfl (.c 12 rfl .n)))))) ?_
              refine r_block ?_
              refine r_loop_3 (fun (k : Nat) (a b : Int) => [(12, true, .int .i64 (k : Int)), (9, true, .int .i64 a), (10, true, .int .i64 b)]) (.c 2 rfl (.c 4 rfl (.c 11 rfl .n))) (fun (k : Nat) (a b : Int) => blk b11 ((worldT u).map vI) 23 :: townP tb u :: blk b2 (ws.map vI) 23 :: H) (fun (k : Nat) (a b : Int) => k ≤ 6 ∧ a = sumP ws k ∧ b = sumP (worldT u) k ∧ 0 ≤ a ∧ a ≤ 100 * (k : Int) ∧ 0 ≤ b ∧ b ≤ 100 * (k : Int)) (fun (k : Nat) (a b : Int) => 6 - k) (0) (0) (0) ?_ (.c 12 rfl (.c 9 rfl (.c 10 rfl .n))) ?_ (fun k a b hI => ?_)
              · exact ⟨Nat.zero_le _, rfl, rfl, by simp, by simp, by simp, by simp⟩
              · first | exact Ent.rfl | (repeat (first | exact Ent.rfl | refine Ent.c (SelB.ent) ?_ | refine Ent.c (SelS.ent) ?_ | refine Ent.cN ?_ | refine Ent.c (SelX.ent) ?_ | refine Ent.dropR ?_))
              · skip
                obtain ⟨hk0, ha, hb, ha1, ha2, hb3, hb4⟩ := hI
                refine r_seq ?_
                refine r_seq ?_
                refine r_region ?_
                refine p_mv rfl rfl ?_
                refine p_lss rfl rfl rfl ?_
                refine o_keep (.c 2 rfl (.c 4 rfl (.c 9 rfl (.c 10 rfl (.c 11 rfl (.c 12 rfl (.c 80 rfl .n))))))) ?_
                refine r_cond _ rfl (fun h9 => ?_) (fun h9 => ?_)
                · skip
                  have hk6 : k < 6 := by have := of_decide_eq_true h9; omega
                  have hb1 := hwb k hk6
                  have hb2 := hub k hk6
                  refine r_skip ?_
                  refine r_seq ?_
                  refine r_block ?_
                  refine r_plan _ [] mo (.c 2 rfl (.c 4 rfl (.c 9 rfl (.c 10 rfl (.c 11 rfl (.c 12 rfl .n)))))) Ent.rfl ?_
                  refine qm_q (i := 0) (l := [.k 9]) rfl rfl rfl rfl (by kernel_rfl) rfl (fun He => PV.rq (pv_mv (.n rfl) rfl rfl (fun _ => rfl))) ?_
                  refine qm_q (i := 1) (l := [.k 12]) rfl rfl rfl rfl (by kernel_rfl) rfl (fun He => PV.rq (pv_mv (.n rfl) rfl rfl (fun _ => rfl))) ?_
                  refine qm_q (i := 2) (l := [.k 2, .o 1]) rfl rfl rfl rfl (by kernel_rfl) rfl (fun He => PV.rq (pv_aidx (i := k) Try.underlying23 (.ofC tc_3) (fun hg => ⟨rfl, hk6⟩) (.n rfl) rfl rfl rfl (fun _ => ⟨rfl, rfl⟩))) ?_
                  refine qm_q (i := 3) (l := [.o 2]) rfl rfl rfl rfl (by kernel_rfl) rfl (fun He => RV.rq (q_ldci (i := k) tc_3 (.n rfl) rfl rfl (fun _ => rfl) (by omega) (wget (by omega)))) ?_
                  refine qm_q (i := 4) (l := [.o 0, .o 3]) rfl rfl rfl rfl (by kernel_rfl) rfl (fun He => PV.rq (pv_add (fun _ => by omega) (.n rfl) rfl rfl rfl (fun _ => ⟨rfl, rfl⟩))) ?_
                  refine qm_q (i := 5) (l := [.k 10]) rfl rfl rfl rfl (by kernel_rfl) rfl (fun He => PV.rq (pv_mv (.n rfl) rfl rfl (fun _ => rfl))) ?_
                  refine qm_q (i := 6) (l := [.k 12]) rfl rfl rfl rfl (by kernel_rfl) rfl (fun He => PV.rq (pv_mv (.n rfl) rfl rfl (fun _ => rfl))) ?_
                  refine qm_q (i := 7) (l := [.k 11, .o 6]) rfl rfl rfl rfl (by kernel_rfl) rfl (fun He => PV.rq (pv_aidx (i := k) Try.underlying23 (.ofC tc_3) (fun hg => ⟨rfl, hk6⟩) (.n rfl) rfl rfl rfl (fun _ => ⟨rfl, rfl⟩))) ?_
                  refine qm_q (i := 8) (l := [.o 7]) rfl rfl rfl rfl (by kernel_rfl) rfl (fun He => RV.rq (q_ldci (i := k) tc_3 (.n rfl) rfl rfl (fun _ => rfl) (by omega) (wget (by omega)))) ?_
                  refine qm_q (i := 9) (l := [.o 5, .o 8]) rfl rfl rfl rfl (by kernel_rfl) rfl (fun He => PV.rq (pv_add (fun _ => by omega) (.n rfl) rfl rfl rfl (fun _ => ⟨rfl, rfl⟩))) ?_
                  refine qm_q (i := 10) (l := [.o 4]) rfl rfl rfl rfl (by kernel_rfl) rfl (fun He => PV.rq (pv_as (.n rfl) rfl rfl (fun _ => rfl))) ?_
                  refine qm_q (i := 11) (l := [.o 9]) rfl rfl rfl rfl (by kernel_rfl) rfl (fun He => PV.rq (pv_as (.n rfl) rfl rfl (fun _ => rfl))) ?_
                  refine qm_n (by kernel_rfl) (by kernel_rfl) (by kernel_rfl) (by kernel_rfl) (.c 2 rfl (.c 4 rfl (.c 9 rfl (.c 10 rfl (.c 11 rfl (.c 12 rfl .n)))))) ?_
                  refine r_end ?_
                  refine r_region ?_
                  refine p_mv rfl rfl ?_
                  refine p_add rfl rfl (by omega) rfl ?_
                  refine p_as rfl rfl ?_
                  refine o_keep (.c 2 rfl (.c 4 rfl (.c 9 rfl (.c 10 rfl (.c 11 rfl (.c 12 rfl .n)))))) ?_
                  refine r_back_3 (k + 1) (a + ws.getD k 0) (b + (worldT u).getD k 0) ?_ ?_ (Keep.app (.c 12 rfl (.c 9 rfl (.c 10 rfl .n))) (.c 2 rfl (.c 4 rfl (.c 11 rfl .n)))) ?_
                  · exact ⟨by omega, by rw [ha]; rfl, by rw [hb]; rfl, by omega, by omega, by omega, by omega⟩
                  · omega
                  · first | exact Ent.rfl | (repeat (first | exact Ent.rfl | refine Ent.c (SelB.ent) ?_ | refine Ent.c (SelS.ent) ?_ | refine Ent.cN ?_ | refine Ent.c (SelX.ent) ?_ | refine Ent.dropR ?_))
                · skip
                  obtain rfl : k = 6 := by have := of_decide_eq_false h9; omega
                  have hfin : a = b := by rw [ha, hb, sumP_6, sumP_6, hsum, hW]
                  refine r_exit rfl ?_
                  refine r_seq ?_
                  refine r_region ?_
                  refine p_mv rfl rfl ?_
                  refine p_mv rfl rfl ?_
                  refine p_eql rfl rfl rfl ?_
                  refine p_as rfl rfl ?_
                  refine o_keep (.c 4 rfl .n) ?_
                  refine r_retv hF rfl (.c (.t rfl) .n) ?_ ?_
                  · first | exact Ent.rfl | (repeat (first | exact Ent.rfl | refine Ent.c (SelB.ent) ?_ | refine Ent.c (SelS.ent) ?_ | refine Ent.cN ?_ | refine Ent.c (SelX.ent) ?_ | refine Ent.dropR ?_))
                  · first | rfl | exact bool_eq (by simp [hfin])

end Go.Proofs.Ytmakdilmibjpbac
