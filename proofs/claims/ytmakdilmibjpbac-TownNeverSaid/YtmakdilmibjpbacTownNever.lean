/- The walks of TownNever: written by a program of ours (gen.py) over the engine. -/
import Derived.Test.YtmakdilmibjpbacPlain
import Derived.Test.YtmakdilmibjpbacFacts
import Derived.Test.YtmakdilmibjpbacTownW
namespace Go.Proofs.Ytmakdilmibjpbac
open Go Go.RowKit
set_option linter.unusedVariables false
set_option linter.unusedSimpArgs false
set_option maxRecDepth 20000

def stO (t : TownS) (s : Nat) : List Int := (List.range 6).map fun j => if j / 2 < s then wp t j else (worldT t).getD j 0
def stV (t : TownS) (s : Nat) (k : KeepS) (q : Nat) : List Int := (List.range 6).map fun j => if j / 2 < s then wp t j else if j / 2 = s then valS k.shop j + pendH t.b j (k.shop.holds.take q) else (worldT t).getD j 0
theorem map6_ext {f g : Nat → Int} (h : ∀ j, j < 6 → f j = g j) : (List.range 6).map f = (List.range 6).map g := List.map_congr_left fun j hj => h j (List.mem_range.1 hj)
theorem stO_len {t : TownS} {s : Nat} : (stO t s).length = 6 := by simp [stO]
theorem stV_len {t : TownS} {s : Nat} {k : KeepS} {q : Nat} : (stV t s k q).length = 6 := by simp [stV]
theorem stV_get {t : TownS} {s : Nat} {k : KeepS} {q j : Nat} (hj : j < 6) : (stV t s k q).getD j 0 = if j / 2 < s then wp t j else if j / 2 = s then valS k.shop j + pendH t.b j (k.shop.holds.take q) else (worldT t).getD j 0 := by
  unfold stV
  rw [List.getD_eq_getElem?_getD, List.getElem?_map, List.getElem?_range hj]; rfl
theorem world_map {t : TownS} (hT : TInv t) : worldT t = (List.range 6).map fun j => (worldT t).getD j 0 :=
  wext (worldT_len hT.len) (by simp) fun j hj => by
    conv => rhs; rw [List.getD_eq_getElem?_getD, List.getElem?_map, List.getElem?_range hj]
    rfl
theorem stO_0 {t : TownS} (hT : TInv t) : stO t 0 = worldT t := (map6_ext fun j hj => by rw [if_neg (by omega)]).trans (world_map hT).symm
theorem stO_3 {t : TownS} (hT : TInv t) : stO t 3 = (serialT t).1 := by
  rw [hT.ser]
  exact map6_ext fun j hj => by rw [if_pos (by omega)]
theorem world_val {t : TownS} (hT : TInv t) {s j : Nat} {k : KeepS} (hk : t.ks[s]? = some k) (hj : j / 2 = s) : (worldT t).getD j 0 = valS k.shop j := by
  obtain ⟨h1, h2⟩ := worldT_get hT.len hk
  unfold valS
  rcases (show j = 2 * s ∨ j = 2 * s + 1 by omega) with e | e
  · rw [if_pos (by omega), e, h1]
  · rw [if_neg (by omega), e, h2]
theorem stV_0 {t : TownS} (hT : TInv t) {s : Nat} {k : KeepS} (hk : t.ks[s]? = some k) : stV t s k 0 = stO t s := map6_ext fun j hj => by
  by_cases h1 : j / 2 < s
  · rw [if_pos h1, if_pos h1]
  · rw [if_neg h1, if_neg h1]
    by_cases h2 : j / 2 = s
    · rw [if_pos h2, world_val hT hk h2]; simp [pendH]
    · rw [if_neg h2]
theorem stV_full {t : TownS} {s : Nat} {k : KeepS} (hk : t.ks[s]? = some k) : stV t s k k.shop.holds.length = stO t (s + 1) := map6_ext fun j hj => by
  by_cases h1 : j / 2 < s
  · rw [if_pos h1, if_pos (by omega)]
  · rw [if_neg h1]
    by_cases h2 : j / 2 = s
    · rw [if_pos h2, if_pos (by omega), List.take_length]; unfold wp; rw [h2, hk]
    · rw [if_neg h2, if_neg (by omega)]
theorem stV_no {t : TownS} {s q : Nat} {k : KeepS} {z : Hld} (h : k.shop.holds[q]? = some z) (hz : stateB t.b z.deal ≠ 1) : stV t s k (q + 1) = stV t s k q := map6_ext fun j hj => by
  rw [take_S h, pendH_app]
  have e : pendH t.b j [z] = 0 := by simp [pendH, hz]
  rw [e, Int.add_zero]
theorem stV_yes {t : TownS} {s q i : Nat} {k : KeepS} {z : Hld} (h : k.shop.holds[q]? = some z) (hz : stateB t.b z.deal = 1) (hc : z.ctr = (i : Int)) (hi : i / 2 = s) (h6 : i < 6) : (stV t s k q).set i ((stV t s k q).getD i 0 + z.dl) = stV t s k (q + 1) :=
  wext (by simp [stV_len]) stV_len fun j hj => by
    rw [stV_get hj]
    by_cases e : i = j
    · subst e
      rw [List.getD_eq_getElem?_getD, List.getElem?_set_self (by rw [stV_len]; exact h6), stV_get h6, if_neg (by omega), if_pos hi, if_neg (by omega), if_pos hi, take_S h, pendH_app]
      have e : pendH t.b i [z] = z.dl := by simp [pendH, hz, hc]
      rw [e]; simp only [Option.getD_some]; omega
    · rw [List.getD_eq_getElem?_getD, List.getElem?_set_ne e, ← List.getD_eq_getElem?_getD, stV_get hj, take_S h, pendH_app]
      have e : pendH t.b j [z] = 0 := by
        simp only [pendH, hc]
        rw [if_neg (fun q => e (by omega))]; rfl
      rw [e, Int.add_zero]
theorem pend_bd {b : BrokS} {c : Int} : ∀ {l : List Hld}, (∀ h ∈ l, dlt h.dl = 0) → -(100 * (l.length : Int)) ≤ pendH b c l ∧ pendH b c l ≤ 100 * (l.length : Int)
  | [], _ => by simp [pendH]
  | h :: l, hh => by
    have h1 := dlt_ok (hh h (by simp))
    have h2 := pend_bd (b := b) (c := c) (l := l) fun x hx => hh x (List.mem_cons_of_mem _ hx)
    simp only [pendH, List.length_cons]
    split <;> omega
theorem stV_bd {t : TownS} {s q j : Nat} {k : KeepS} (hK : KInv k) (hj : j < 6) (hs : j / 2 = s) : -1600 ≤ (stV t s k q).getD j 0 ∧ (stV t s k q).getD j 0 ≤ 1700 := by
  rw [stV_get hj, if_neg (by omega), if_pos hs]
  have h1 := pend_bd (b := t.b) (c := (j : Int)) (l := k.shop.holds.take q) fun h hh => (hK.sh.h h (List.mem_of_mem_take hh)).2.2.1
  have h2 := hK.sh.holds_le
  have h3 : (k.shop.holds.take q).length ≤ 16 := Nat.le_trans (by simp; omega) h2
  have a := chk_ok hK.sh.k0; have b := chk_ok hK.sh.k1
  have h4 : 0 ≤ valS k.shop j ∧ valS k.shop j ≤ 100 := by unfold valS; split <;> omega
  omega

theorem law_TownNever (M : Amb) (H : List HP) (ws : List Int) (hws : ws.length = 6) (xs : List TStep) (sv : Value) (hs : Rd M [] sv 3 (xs.map rTS)) (hx : ∀ x ∈ xs, Rd M [] x.wv 2 (x.wants.map rW)) : FnV Try.prog M H 13 [.agg (ws.map vI).toArray, sv] (.bool true) := by
  refine fn_intro Try.func13 rfl Try.ntmps13 rfl fun F hF => ?_
  refine r_seq ?_
  refine r_region ?_
  refine p_box rfl rfl rfl fun b2 => ?_
  refine p_as rfl rfl ?_
  refine o_keep (.c 1 rfl (.c 2 rfl (.c 4 rfl .n))) ?_
  refine r_seq ?_
  refine r_seq ?_
  refine r_region ?_
  refine p_callv cf_27 (.n) rfl (law_townBegun _ _) ?_
  refine p_not rfl rfl ?_
  refine o_keep (.c 1 rfl (.c 2 rfl (.c 4 rfl (.c 18 rfl .n)))) ?_
  refine r_cond _ rfl (fun h1 => ?_) (fun h1 => ?_)
  · simp at h1
  · skip
    refine r_skip ?_
    refine r_seq ?_
    refine r_seq ?_
    refine r_region ?_
    refine p_mv rfl rfl ?_
    refine p_callv cf_28 (.c rfl .n) rfl ((law_great _ xs sv hs hx).q) ?_
    refine o_keep (.c 1 rfl (.c 2 rfl (.c 4 rfl (.c 20 rfl .n)))) ?_
    refine r_cond _ rfl (fun h2 => ?_) (fun h2 => ?_)
    · skip
      refine r_seq ?_
      refine r_region ?_
      refine p_as rfl rfl ?_
      refine o_keep (.c 1 rfl (.c 2 rfl (.c 4 rfl .n))) ?_
      refine r_retv hF rfl (.c (.t rfl) .n) ?_ ?_
      · first | exact Ent.rfl | (repeat (first | exact Ent.rfl | refine Ent.c (SelB.ent) ?_ | refine Ent.c (SelS.ent) ?_ | refine Ent.cN ?_ | refine Ent.c (SelX.ent) ?_ | refine Ent.dropR ?_))
      · rfl
    · skip
      have hgr := great_no h2
      refine r_skip ?_
      refine r_seq ?_
      rcases hn : newT ws with _ | t0
      · skip
        refine r_region ?_
        refine p_lda ta_23 rfl (by exact (Tk.all (by first | rfl | assumption | (simp only [List.drop_zero, List.length_map]; assumption) | (simp [*]; done)))) rfl ?_
        refine p_callc cf_29 (.c rfl .n) rfl (town_New_none _ ws hws hn) ?_
        refine p_as rfl rfl ?_
        refine o_keep (.c 1 rfl (.c 4 rfl (.c 5 rfl .n))) ?_
        refine r_seq ?_
        refine r_seq ?_
        refine r_region ?_
        refine p_mv rfl rfl ?_
        refine l_op (x_p (pv_peqn Try.underlying68 (.n rfl) rfl rfl rfl (fun _ => ⟨rfl, rfl⟩)) rfl rfl ?_)
        refine o_keep (.c 1 rfl (.c 4 rfl (.c 5 rfl (.c 24 rfl .n)))) ?_
        refine r_cond _ rfl (fun h3 => ?_) (fun h3 => ?_)
        · skip
          refine r_seq ?_
          refine r_region ?_
          refine p_as rfl rfl ?_
          refine o_keep (.c 1 rfl (.c 4 rfl (.c 5 rfl .n))) ?_
          refine r_retv hF rfl (.c (.t rfl) .n) ?_ ?_
          · first | exact Ent.rfl | (repeat (first | exact Ent.rfl | refine Ent.c (SelB.ent) ?_ | refine Ent.c (SelS.ent) ?_ | refine Ent.cN ?_ | refine Ent.c (SelX.ent) ?_ | refine Ent.dropR ?_))
          · rfl
        · simp at h3
      · skip
        refine r_region ?_
        refine p_lda ta_23 rfl (by exact (Tk.all (by first | rfl | assumption | (simp only [List.drop_zero, List.length_map]; assumption) | (simp [*]; done)))) rfl ?_
        refine p_calle cf_29 (.c rfl .n) rfl (town_New_some _ ws hws hn) fun tb => ?_
        refine o_cat ?_
        refine p_as rfl rfl ?_
        refine o_keep (.c 1 rfl (.c 4 rfl (.c 5 rfl .n))) ?_
        refine r_seq ?_
        refine r_seq ?_
        refine r_region ?_
        refine p_mv rfl rfl ?_
        refine l_op (x_p (pv_peqn Try.underlying68 (.n rfl) rfl rfl rfl (fun _ => ⟨rfl, rfl⟩)) rfl rfl ?_)
        refine o_keep (.c 1 rfl (.c 4 rfl (.c 5 rfl (.c 24 rfl .n)))) ?_
        refine r_cond _ rfl (fun h4 => ?_) (fun h4 => ?_)
        · simp at h4
        · skip
          refine r_skip ?_
          refine r_seq ?_
          refine r_seq ?_
          refine r_region ?_
          refine p_as rfl rfl ?_
          refine o_keep (.c 1 rfl (.c 4 rfl (.c 5 rfl (.c 6 rfl .n)))) ?_
          refine r_block ?_
          refine r_loop_2 (fun (i : Nat) (t : TownS) => [(6, true, .int .i64 (i : Int))]) (.c 1 rfl (.c 4 rfl (.c 5 rfl .n))) (fun (i : Nat) (t : TownS) => townP tb t :: blk b2 (ws.map vI) 23 :: H) (fun (i : Nat) (t : TownS) => i ≤ xs.length ∧ TInv t) (fun (i : Nat) (t : TownS) => xs.length - i) (0) (t0) ?_ (.c 6 rfl .n) ?_ (fun i t hI => ?_)
          · exact ⟨Nat.zero_le _, (TInv.new hws hn).1⟩
          · first | exact Ent.rfl | (repeat (first | exact Ent.rfl | refine Ent.c (SelB.ent) ?_ | refine Ent.c (SelS.ent) ?_ | refine Ent.cN ?_ | refine Ent.c (SelX.ent) ?_ | refine Ent.dropR ?_))
          · skip
            obtain ⟨hil, hT⟩ := hI
            refine r_seq ?_
            refine r_seq ?_
            refine r_region ?_
            refine p_mv rfl rfl ?_
            refine p_mv rfl rfl ?_
            refine l_op (x_p (pv_lens hs.len ⟨_, Try.underlying66⟩ (.n rfl) rfl rfl rfl rfl (fun _ => rfl)) rfl rfl ?_)
            refine p_lss rfl rfl rfl ?_
            refine o_keep (.c 1 rfl (.c 4 rfl (.c 5 rfl (.c 6 rfl (.c 28 rfl .n))))) ?_
            refine r_cond _ rfl (fun h5 => ?_) (fun h5 => ?_)
            · skip
              obtain ⟨x, hxi⟩ := getlt (l := xs) (i := i) (by have := of_decide_eq_true h5; omega)
              have hil2 := (List.getElem?_eq_some_iff.1 hxi).1
              have hxm := List.mem_of_getElem? hxi
              have hxr := hx x hxm
              have hxw := hgr.2 x hxm
              obtain ⟨t1, n1, hst⟩ := step_ex t x.s
              have hT1 := step_inv hT hst
              have hw6 := worldT_len hT1.len
              have hs6 : (serialT t1).1.length = 6 := by rw [hT1.ser]; simp
              have hser : (serialT t1).2 = 0 := by rw [hT1.ser]
              refine r_skip ?_
              refine r_seq ?_
              refine r_block ?_
              refine r_seq ?_
              refine r_region ?_
              refine p_mv rfl rfl ?_
              refine p_mv rfl rfl ?_
              refine p_mv rfl rfl ?_
              refine p_idx Try.underlying66 (.ofA ta_72) hs rfl (mapget hxi) rfl rfl rfl ?_
              refine p_ldats 0 ta_72 (Rd.ent hs (by repeat (first | exact Ent.rfl | exact Ent.one Ent.h | exact Ent.one (SelS.ent) | exact Ent.nil | exact Ent.left | refine Ent.dropR ?_ | refine Ent.tr Ent.skip ?_))) (mapget hxi) rfl rfl (.s (.s (.s .z))) rfl ?_
              refine o_ent (SelX.ent (X := townP tb t)) ?_
              refine p_callc cf_31 (.c rfl (.c rfl .n)) rfl (town_StepC _ tb t hT x hst hxr (by omega)) ?_
              refine o_keep (.c 1 rfl (.c 4 rfl (.c 5 rfl (.c 6 rfl .n)))) ?_
              refine r_seq ?_
              refine r_seq ?_
              refine r_sel (townP tb t1) ?_
              refine r_town fun bb c0 c1 c2 pb => ?_
              refine r_cat ?_
              refine r_region ?_
              refine p_as rfl rfl ?_
              refine o_keep (.c 1 rfl (.c 4 rfl (.c 5 rfl (.c 6 rfl (.c 7 rfl .n))))) ?_
              refine r_block ?_
              refine r_loop_1 (fun (s : Nat) => [(7, true, .int .i64 (s : Int))]) (.c 1 rfl (.c 4 rfl (.c 5 rfl (.c 6 rfl .n)))) (fun (s : Nat) => blk tb (tnC bb t1.ws c0 c1 c2 pb) 84 :: brokP bb t1.b :: manyP clerkP [c0, c1, c2] t1.ks :: postP pb t1.post :: blk b2 (ws.map vI) 23 :: H) (fun (s : Nat) => s ≤ 3) (fun (s : Nat) => 3 - s) (0) ?_ (.c 7 rfl .n) ?_ (fun s hI => ?_)
              · exact Nat.zero_le _
              · first | exact Ent.rfl | (repeat (first | exact Ent.rfl | refine Ent.c (SelB.ent) ?_ | refine Ent.c (SelS.ent) ?_ | refine Ent.cN ?_ | refine Ent.c (SelX.ent) ?_ | refine Ent.dropR ?_))
              · skip
                refine r_seq ?_
                refine r_seq ?_
                refine r_region ?_
                refine p_mv rfl rfl ?_
                refine p_lss rfl rfl rfl ?_
                refine o_keep (.c 1 rfl (.c 4 rfl (.c 5 rfl (.c 6 rfl (.c 7 rfl (.c 38 rfl .n)))))) ?_
                refine r_cond _ rfl (fun h6 => ?_) (fun h6 => ?_)
                · skip
                  have hs3 : s < 3 := by have := of_decide_eq_true h6; omega
                  obtain ⟨k, hk3⟩ := getlt (l := t1.ks) (i := s) (by have := hT1.len; omega)
                  obtain ⟨hK, hkn, _⟩ := hT1.k s k hk3
                  have hkno := hK.no
                  have hh16 := hK.sh.holds_le
                  have hk0 : chk ⟨k.shop.c0.v, k.shop.c0.o, k.shop.c0.i⟩ = 0 := hK.sh.k0
                  have hk1 : chk ⟨k.shop.c1.v, k.shop.c1.o, k.shop.c1.i⟩ = 0 := hK.sh.k1
                  have hc0 := chk_ok hk0
                  have hc1 := chk_ok hk1
                  dsimp only at hc0 hc1
                  refine r_skip ?_
                  refine r_seq ?_
                  refine r_block ?_
                  refine r_seq ?_
                  refine r_region ?_
                  refine p_mv rfl rfl ?_
                  refine p_mv rfl rfl ?_
                  refine p_callv cf_44 (.c rfl (.c rfl .n)) rfl ((town_Clerk_s _ tb bb t1.ws c0 c1 c2 pb s s rfl hs3).q) ?_
                  refine p_as rfl rfl ?_
                  refine o_keep (.c 1 rfl (.c 4 rfl (.c 5 rfl (.c 6 rfl (.c 7 rfl (.c 8 rfl .n)))))) ?_
                  refine r_seq ?_
                  refine r_seq ?_
                  refine r_region ?_
                  refine p_mv rfl rfl ?_
                  refine l_op (x_p (pv_peqn Try.underlying26 (.n rfl) rfl rfl rfl (fun _ => ⟨rfl, rfl⟩)) rfl rfl ?_)
                  refine o_keep (.c 1 rfl (.c 4 rfl (.c 5 rfl (.c 6 rfl (.c 7 rfl (.c 8 rfl (.c 45 rfl .n))))))) ?_
                  refine r_cond _ rfl (fun h7 => ?_) (fun h7 => ?_)
                  · simp at h7
                  · skip
                    refine r_skip ?_
                    refine r_seq ?_
                    refine r_many (P := clerkP) (bs := [c0, c1, c2]) s (cAt_get hs3) hk3 ?_
                    refine r_ex fun kb => ?_
                    refine r_cat ?_
                    refine r_sel (keepP kb k) ?_
                    refine r_ex2 fun sb lv => ?_
                    refine r_cat ?_
                    refine r_rd lv fun hrl => ?_
                    refine r_region ?_
                    refine p_mv rfl rfl ?_
                    refine p_nil rfl rfl ?_
                    refine p_fa fa_40_0 rfl rfl ?_
                    refine p_ldc tc_38 rfl (by rfl) rfl ?_
                    refine p_nil rfl rfl ?_
                    refine p_fa fa_44_0 rfl rfl ?_
                    refine p_ldc tc_41 rfl (by rfl) rfl ?_
                    refine p_callv cf_17 (.c rfl .n) rfl ((shop_Counts _ sb k.shop).q) ?_
                    refine p_alloc zr_36 rfl fun b9 => ?_
                    refine p_store (.ofA ta_36) rfl rfl rfl rfl rfl (by repeat constructor) ?_
                    refine o_keep (.c 1 rfl (.c 4 rfl (.c 5 rfl (.c 6 rfl (.c 7 rfl (.c 9 rfl .n)))))) ?_
                    refine r_seq ?_
                    refine r_region ?_
                    refine p_as rfl rfl ?_
                    refine o_keep (.c 1 rfl (.c 4 rfl (.c 5 rfl (.c 6 rfl (.c 7 rfl (.c 9 rfl (.c 10 rfl .n))))))) ?_
                    refine r_block ?_
                    refine r_loop_1 (fun (j : Nat) => [(10, true, .int .i64 (j : Int))]) (.c 1 rfl (.c 4 rfl (.c 5 rfl (.c 6 rfl (.c 7 rfl (.c 9 rfl .n)))))) (fun (j : Nat) => blk tb (tnC bb t1.ws c0 c1 c2 pb) 84 :: brokP bb t1.b :: restP clerkP [c0, c1, c2] t1.ks s :: postP pb t1.post :: blk (cAt c0 c1 c2 s) [ptr kb, .int .i64 k.no] 40 :: blk kb (kpC k sb lv) 44 :: sl lv 101 5 (k.l.map rR) :: shopP sb k.shop :: blk b9 (cntL k.shop.c0 ++ cntL k.shop.c1) 36 :: blk b2 (ws.map vI) 23 :: H) (fun (j : Nat) => j ≤ 2) (fun (j : Nat) => 2 - j) (0) ?_ (.c 10 rfl .n) ?_ (fun j hI => ?_)
                    · exact Nat.zero_le _
                    · first | exact Ent.rfl | (repeat (first | exact Ent.rfl | refine Ent.c (SelB.ent) ?_ | refine Ent.c (SelS.ent) ?_ | refine Ent.cN ?_ | refine Ent.c (SelX.ent) ?_ | refine Ent.dropR ?_))
                    · skip
                      refine r_seq ?_
                      refine r_seq ?_
                      refine r_region ?_
                      refine p_mv rfl rfl ?_
                      refine p_lss rfl rfl rfl ?_
                      refine o_keep (.c 1 rfl (.c 4 rfl (.c 5 rfl (.c 6 rfl (.c 7 rfl (.c 9 rfl (.c 10 rfl (.c 55 rfl .n)))))))) ?_
                      refine r_cond _ rfl (fun h8 => ?_) (fun h8 => ?_)
                      · skip
                        have hj2 : j < 2 := by have := of_decide_eq_true h8; omega
                        refine r_skip ?_
                        refine r_seq ?_
                        refine r_block ?_
                        refine r_seq ?_
                        rcases (show j = 0 ∨ j = 1 by omega) with rfl | rfl
                        · skip
                          refine r_region ?_
                          refine p_mv rfl rfl ?_
                          refine l_op (x_p (pv_aidx (i := 0) Try.underlying36 (.ofA ta_35) (fun hg => ⟨rfl, by decide⟩) (.n rfl) rfl rfl rfl (fun _ => ⟨rfl, rfl⟩)) rfl rfl ?_)
                          refine l_op (x_r (q_lda ta_35 (.n rfl) rfl rfl (fun _ => rfl) (by exact (.s (.s (.s .z))))) rfl rfl ?_)
                          refine p_callv cf_45 (.c rfl .n) rfl (count_Check _ _ _ _ _) ?_
                          refine p_neq rfl rfl rfl ?_
                          refine p_mv rfl rfl ?_
                          refine l_op (x_p (pv_mv (.s rfl rfl rfl) rfl rfl (by first | exact fun _ => rfl | exact id | exact fun h => (Bool.and_eq_true_iff.1 h).1 | simp_all)) rfl rfl ?_)
                          refine l_op (x_p (pv_aidx (i := 0) Try.underlying36 (.ofA ta_35) (fun hg => ⟨rfl, by decide⟩) (.s rfl rfl rfl) rfl rfl rfl (by refine fun h => ⟨?_, ?_⟩ <;> first | rfl | exact h | exact (Bool.and_eq_true_iff.1 h).1 | simp_all)) rfl rfl ?_)
                          refine l_op (x_r (q_lda ta_35 (.s rfl rfl rfl) rfl rfl (by first | exact fun _ => rfl | exact id | exact fun h => (Bool.and_eq_true_iff.1 h).1 | simp_all) (by exact (.s (.s (.s .z))))) rfl rfl ?_)
                          refine l_op (x_q (rq_call cf_46 (.s rfl rfl rfl) rfl (.c rfl (by first | exact fun _ => rfl | exact id | exact fun h => (Bool.and_eq_true_iff.1 h).1 | simp_all) .n) (fun hg => count_Low _ _ _ _ _ (by omega))) rfl rfl ?_)
                          refine l_op (x_p (pv_lss (.s rfl rfl rfl) rfl rfl rfl (by refine fun h => ⟨?_, ?_⟩ <;> first | rfl | exact h | exact (Bool.and_eq_true_iff.1 h).1 | simp_all)) rfl rfl ?_)
                          refine l_op (x_p (pv_or (.n rfl) rfl rfl rfl (fun _ => ⟨rfl, fun hc => by first | rfl | (rw [hc]; rfl) | simp_all⟩)) rfl rfl ?_)
                          refine p_mv rfl rfl ?_
                          refine l_op (x_p (pv_mv (.s rfl rfl rfl) rfl rfl (by first | exact fun _ => rfl | exact id | exact fun h => (Bool.and_eq_true_iff.1 h).1 | simp_all)) rfl rfl ?_)
                          refine l_op (x_p (pv_aidx (i := 0) Try.underlying36 (.ofA ta_35) (fun hg => ⟨rfl, by decide⟩) (.s rfl rfl rfl) rfl rfl rfl (by refine fun h => ⟨?_, ?_⟩ <;> first | rfl | exact h | exact (Bool.and_eq_true_iff.1 h).1 | simp_all)) rfl rfl ?_)
                          refine l_op (x_r (q_lda ta_35 (.s rfl rfl rfl) rfl rfl (by first | exact fun _ => rfl | exact id | exact fun h => (Bool.and_eq_true_iff.1 h).1 | simp_all) (by exact (.s (.s (.s .z))))) rfl rfl ?_)
                          refine l_op (x_q (rq_call cf_47 (.s rfl rfl rfl) rfl (.c rfl (by first | exact fun _ => rfl | exact id | exact fun h => (Bool.and_eq_true_iff.1 h).1 | simp_all) .n) (fun hg => count_High _ _ _ _ _ (by omega))) rfl rfl ?_)
                          refine l_op (x_p (pv_gtr (.s rfl rfl rfl) rfl rfl rfl (by refine fun h => ⟨?_, ?_⟩ <;> first | rfl | exact h | exact (Bool.and_eq_true_iff.1 h).1 | simp_all)) rfl rfl ?_)
                          refine l_op (x_p (pv_or (.n rfl) rfl rfl rfl (fun _ => ⟨rfl, fun hc => by first | rfl | (rw [hc]; rfl) | simp_all⟩)) rfl rfl ?_)
                          refine o_keep (.c 1 rfl (.c 4 rfl (.c 5 rfl (.c 6 rfl (.c 7 rfl (.c 9 rfl (.c 10 rfl (.c 76 rfl .n)))))))) ?_
                          refine r_cond _ rfl (fun h9 => ?_) (fun h9 => ?_)
                          · exfalso; simp [hk0] at h9; omega
                          · skip
                            refine r_skip ?_
                            refine r_end ?_
                            refine r_region ?_
                            refine p_mv rfl rfl ?_
                            refine p_add rfl rfl (by omega) rfl ?_
                            refine p_as rfl rfl ?_
                            refine o_keep (.c 1 rfl (.c 4 rfl (.c 5 rfl (.c 6 rfl (.c 7 rfl (.c 9 rfl (.c 10 rfl .n))))))) ?_
                            refine r_back_1 (0 + 1) ?_ ?_ (Keep.app (.c 10 rfl .n) (.c 1 rfl (.c 4 rfl (.c 5 rfl (.c 6 rfl (.c 7 rfl (.c 9 rfl .n))))))) ?_
                            · omega
                            · omega
                            · first | exact Ent.rfl | (repeat (first | exact Ent.rfl | refine Ent.c (SelB.ent) ?_ | refine Ent.c (SelS.ent) ?_ | refine Ent.cN ?_ | refine Ent.c (SelX.ent) ?_ | refine Ent.dropR ?_))
                        · skip
                          refine r_region ?_
                          refine p_mv rfl rfl ?_
                          refine l_op (x_p (pv_aidx (i := 1) Try.underlying36 (.ofA ta_35) (fun hg => ⟨rfl, by decide⟩) (.n rfl) rfl rfl rfl (fun _ => ⟨rfl, rfl⟩)) rfl rfl ?_)
                          refine l_op (x_r (q_lda ta_35 (.n rfl) rfl rfl (fun _ => rfl) (by exact (.s (.s (.s .z))))) rfl rfl ?_)
                          refine p_callv cf_45 (.c rfl .n) rfl (count_Check _ _ _ _ _) ?_
                          refine p_neq rfl rfl rfl ?_
                          refine p_mv rfl rfl ?_
                          refine l_op (x_p (pv_mv (.s rfl rfl rfl) rfl rfl (by first | exact fun _ => rfl | exact id | exact fun h => (Bool.and_eq_true_iff.1 h).1 | simp_all)) rfl rfl ?_)
                          refine l_op (x_p (pv_aidx (i := 1) Try.underlying36 (.ofA ta_35) (fun hg => ⟨rfl, by decide⟩) (.s rfl rfl rfl) rfl rfl rfl (by refine fun h => ⟨?_, ?_⟩ <;> first | rfl | exact h | exact (Bool.and_eq_true_iff.1 h).1 | simp_all)) rfl rfl ?_)
                          refine l_op (x_r (q_lda ta_35 (.s rfl rfl rfl) rfl rfl (by first | exact fun _ => rfl | exact id | exact fun h => (Bool.and_eq_true_iff.1 h).1 | simp_all) (by exact (.s (.s (.s .z))))) rfl rfl ?_)
                          refine l_op (x_q (rq_call cf_46 (.s rfl rfl rfl) rfl (.c rfl (by first | exact fun _ => rfl | exact id | exact fun h => (Bool.and_eq_true_iff.1 h).1 | simp_all) .n) (fun hg => count_Low _ _ _ _ _ (by omega))) rfl rfl ?_)
                          refine l_op (x_p (pv_lss (.s rfl rfl rfl) rfl rfl rfl (by refine fun h => ⟨?_, ?_⟩ <;> first | rfl | exact h | exact (Bool.and_eq_true_iff.1 h).1 | simp_all)) rfl rfl ?_)
                          refine l_op (x_p (pv_or (.n rfl) rfl rfl rfl (fun _ => ⟨rfl, fun hc => by first | rfl | (rw [hc]; rfl) | simp_all⟩)) rfl rfl ?_)
                          refine p_mv rfl rfl ?_
                          refine l_op (x_p (pv_mv (.s rfl rfl rfl) rfl rfl (by first | exact fun _ => rfl | exact id | exact fun h => (Bool.and_eq_true_iff.1 h).1 | simp_all)) rfl rfl ?_)
                          refine l_op (x_p (pv_aidx (i := 1) Try.underlying36 (.ofA ta_35) (fun hg => ⟨rfl, by decide⟩) (.s rfl rfl rfl) rfl rfl rfl (by refine fun h => ⟨?_, ?_⟩ <;> first | rfl | exact h | exact (Bool.and_eq_true_iff.1 h).1 | simp_all)) rfl rfl ?_)
                          refine l_op (x_r (q_lda ta_35 (.s rfl rfl rfl) rfl rfl (by first | exact fun _ => rfl | exact id | exact fun h => (Bool.and_eq_true_iff.1 h).1 | simp_all) (by exact (.s (.s (.s .z))))) rfl rfl ?_)
                          refine l_op (x_q (rq_call cf_47 (.s rfl rfl rfl) rfl (.c rfl (by first | exact fun _ => rfl | exact id | exact fun h => (Bool.and_eq_true_iff.1 h).1 | simp_all) .n) (fun hg => count_High _ _ _ _ _ (by omega))) rfl rfl ?_)
                          refine l_op (x_p (pv_gtr (.s rfl rfl rfl) rfl rfl rfl (by refine fun h => ⟨?_, ?_⟩ <;> first | rfl | exact h | exact (Bool.and_eq_true_iff.1 h).1 | simp_all)) rfl rfl ?_)
                          refine l_op (x_p (pv_or (.n rfl) rfl rfl rfl (fun _ => ⟨rfl, fun hc => by first | rfl | (rw [hc]; rfl) | simp_all⟩)) rfl rfl ?_)
                          refine o_keep (.c 1 rfl (.c 4 rfl (.c 5 rfl (.c 6 rfl (.c 7 rfl (.c 9 rfl (.c 10 rfl (.c 76 rfl .n)))))))) ?_
                          refine r_cond _ rfl (fun h10 => ?_) (fun h10 => ?_)
                          · exfalso; simp [hk1] at h10; omega
                          · skip
                            refine r_skip ?_
                            refine r_end ?_
                            refine r_region ?_
                            refine p_mv rfl rfl ?_
                            refine p_add rfl rfl (by omega) rfl ?_
                            refine p_as rfl rfl ?_
                            refine o_keep (.c 1 rfl (.c 4 rfl (.c 5 rfl (.c 6 rfl (.c 7 rfl (.c 9 rfl (.c 10 rfl .n))))))) ?_
                            refine r_back_1 (1 + 1) ?_ ?_ (Keep.app (.c 10 rfl .n) (.c 1 rfl (.c 4 rfl (.c 5 rfl (.c 6 rfl (.c 7 rfl (.c 9 rfl .n))))))) ?_
                            · omega
                            · omega
                            · first | exact Ent.rfl | (repeat (first | exact Ent.rfl | refine Ent.c (SelB.ent) ?_ | refine Ent.c (SelS.ent) ?_ | refine Ent.cN ?_ | refine Ent.c (SelX.ent) ?_ | refine Ent.dropR ?_))
                      · skip
                        refine r_exit rfl ?_
                        refine r_end ?_
                        refine r_region ?_
                        refine p_mv rfl rfl ?_
                        refine p_add rfl rfl (by omega) rfl ?_
                        refine p_as rfl rfl ?_
                        refine o_keep (.c 1 rfl (.c 4 rfl (.c 5 rfl (.c 6 rfl (.c 7 rfl .n))))) ?_
                        refine r_back_1 (s + 1) ?_ ?_ (Keep.app (.c 7 rfl .n) (.c 1 rfl (.c 4 rfl (.c 5 rfl (.c 6 rfl .n))))) ?_
                        · omega
                        · omega
                        · refine Ent.tr (keepP_close (b := kb) (k := k) sb lv rfl rfl) ?_; refine Ent.tr (clerkP_close (b := cAt c0 c1 c2 s) (k := k) kb rfl) ?_; refine Ent.tr (Ent.mono (SelX.ent (X := restP clerkP [c0, c1, c2] t1.ks s))) ?_; refine Ent.tr (many_back (cAt_get hs3) hk3) ?_; first | exact Ent.rfl | (repeat (first | exact Ent.rfl | refine Ent.c (SelB.ent) ?_ | refine Ent.c (SelS.ent) ?_ | refine Ent.cN ?_ | refine Ent.c (SelX.ent) ?_ | refine Ent.dropR ?_))
                · skip
                  refine r_exit rfl ?_
                  refine r_seq ?_
                  refine r_region ?_
                  refine p_mv rfl rfl ?_
                  refine p_callc cf_42 (.c rfl .n) rfl (town_Serial_o _ tb t1 bb c0 c1 c2 pb hT1) ?_
                  refine p_mv rfl rfl ?_
                  refine p_ext rfl rfl rfl ?_
                  refine p_ext rfl rfl rfl ?_
                  refine p_alloc zr_23 rfl fun b11 => ?_
                  refine p_store (.ofA ta_23) rfl rfl rfl (by first | rfl | exact (by first | rfl | assumption | (simp only [List.drop_zero, List.length_map]; assumption) | (simp [*]; done))) (by first | rfl | exact (by first | rfl | simp [vI, Value.oneCell'])) (Ins.whole (by first | rfl | (simp only [List.length_map, List.length_cons, List.length_nil]; omega) | (simp [*]; done) | (simp [*]; rfl))) ?_
                  refine p_as rfl rfl ?_
                  refine o_keep (.c 1 rfl (.c 4 rfl (.c 5 rfl (.c 6 rfl (.c 11 rfl (.c 12 rfl .n)))))) ?_
                  refine r_seq ?_
                  refine r_seq ?_
                  refine r_region ?_
                  refine p_mv rfl rfl ?_
                  refine p_neq rfl rfl rfl ?_
                  refine o_keep (.c 1 rfl (.c 4 rfl (.c 5 rfl (.c 6 rfl (.c 11 rfl (.c 83 rfl .n)))))) ?_
                  refine r_cond _ rfl (fun h11 => ?_) (fun h11 => ?_)
                  · exfalso; simp [hser] at h11
                  · skip
                    refine r_skip ?_
                    refine r_seq ?_
                    refine r_region ?_
                    refine p_mv rfl rfl ?_
                    refine p_callv cf_33 (.c rfl .n) rfl ((town_World_o _ tb t1 bb c0 c1 c2 pb hT1).q) ?_
                    refine p_alloc zr_23 rfl fun b13 => ?_
                    refine p_store (.ofA ta_23) rfl rfl rfl (by first | rfl | exact (by first | rfl | assumption | (simp only [List.drop_zero, List.length_map]; assumption) | (simp [*]; done))) (by first | rfl | exact (by first | rfl | simp [vI, Value.oneCell'])) (Ins.whole (by first | rfl | (simp only [List.length_map, List.length_cons, List.length_nil]; omega) | (simp [*]; done) | (simp [*]; rfl))) ?_
                    refine o_keep (.c 1 rfl (.c 4 rfl (.c 5 rfl (.c 6 rfl (.c 11 rfl (.c 13 rfl .n)))))) ?_
                    rw [← stO_0 hT1]
                    refine r_seq ?_
                    refine r_seq ?_
                    refine r_region ?_
                    refine p_as rfl rfl ?_
                    refine o_keep (.c 1 rfl (.c 4 rfl (.c 5 rfl (.c 6 rfl (.c 11 rfl (.c 13 rfl (.c 14 rfl .n))))))) ?_
                    refine r_block ?_
                    refine r_loop_1 (fun (s : Nat) => [(14, true, .int .i64 (s : Int))]) (.c 1 rfl (.c 4 rfl (.c 5 rfl (.c 6 rfl (.c 11 rfl (.c 13 rfl .n)))))) (fun (s : Nat) => blk tb (tnC bb t1.ws c0 c1 c2 pb) 84 :: brokP bb t1.b :: manyP clerkP [c0, c1, c2] t1.ks :: postP pb t1.post :: blk b13 ((stO t1 s).map vI) 23 :: blk b11 ((serialT t1).1.map vI) 23 :: blk b2 (ws.map vI) 23 :: H) (fun (s : Nat) => s ≤ 3) (fun (s : Nat) => 3 - s) (0) ?_ (.c 14 rfl .n) ?_ (fun s hI => ?_)
                    · exact Nat.zero_le _
                    · first | exact Ent.rfl | (repeat (first | exact Ent.rfl | refine Ent.c (SelB.ent) ?_ | refine Ent.c (SelS.ent) ?_ | refine Ent.cN ?_ | refine Ent.c (SelX.ent) ?_ | refine Ent.dropR ?_))
                    · skip
                      refine r_seq ?_
                      refine r_seq ?_
                      refine r_region ?_
                      refine p_mv rfl rfl ?_
                      refine p_lss rfl rfl rfl ?_
                      refine o_keep (.c 1 rfl (.c 4 rfl (.c 5 rfl (.c 6 rfl (.c 11 rfl (.c 13 rfl (.c 14 rfl (.c 87 rfl .n)))))))) ?_
                      refine r_cond _ rfl (fun h12 => ?_) (fun h12 => ?_)
                      · skip
                        have hs3 : s < 3 := by have := of_decide_eq_true h12; omega
                        obtain ⟨k, hk3⟩ := getlt (l := t1.ks) (i := s) (by have := hT1.len; omega)
                        obtain ⟨hK, hkn, _⟩ := hT1.k s k hk3
                        have hkno := hK.no
                        have hh16 := hK.sh.holds_le
                        have hk0 : chk ⟨k.shop.c0.v, k.shop.c0.o, k.shop.c0.i⟩ = 0 := hK.sh.k0
                        have hk1 : chk ⟨k.shop.c1.v, k.shop.c1.o, k.shop.c1.i⟩ = 0 := hK.sh.k1
                        have hc0 := chk_ok hk0
                        have hc1 := chk_ok hk1
                        dsimp only at hc0 hc1
                        rw [← stV_0 hT1 hk3]
                        refine r_skip ?_
                        refine r_seq ?_
                        refine r_block ?_
                        refine r_seq ?_
                        refine r_many (P := clerkP) (bs := [c0, c1, c2]) s (cAt_get hs3) hk3 ?_
                        refine r_ex fun kb => ?_
                        refine r_cat ?_
                        refine r_sel (keepP kb k) ?_
                        refine r_ex2 fun sb lv => ?_
                        refine r_cat ?_
                        refine r_rd lv fun hrl => ?_
                        refine r_region ?_
                        refine p_mv rfl rfl ?_
                        refine p_mv rfl rfl ?_
                        refine p_callv cf_44 (.c rfl (.c rfl .n)) rfl ((town_Clerk_s _ tb bb t1.ws c0 c1 c2 pb s s rfl hs3).q) ?_
                        refine p_nil rfl rfl ?_
                        refine p_fa fa_40_0 rfl rfl ?_
                        refine p_ldc tc_38 rfl (by rfl) rfl ?_
                        refine p_nil rfl rfl ?_
                        refine p_fa fa_44_0 rfl rfl ?_
                        refine p_ldc tc_41 rfl (by rfl) rfl ?_
                        refine p_calle cf_18 (.c rfl .n) rfl (shop_Holds _ sb k.shop (by have := hK.sh.holds_le; omega) (by have := hK.sh.over_le; omega)) fun hv => ?_
                        refine o_cat ?_
                        refine o_rd hv fun hrh => ?_
                        refine p_as rfl rfl ?_
                        refine o_keep (.c 1 rfl (.c 4 rfl (.c 5 rfl (.c 6 rfl (.c 11 rfl (.c 13 rfl (.c 14 rfl (.c 15 rfl .n)))))))) ?_
                        refine r_seq ?_
                        refine r_region ?_
                        refine p_as rfl rfl ?_
                        refine o_keep (.c 1 rfl (.c 4 rfl (.c 5 rfl (.c 6 rfl (.c 11 rfl (.c 13 rfl (.c 14 rfl (.c 15 rfl (.c 16 rfl .n))))))))) ?_
                        refine r_block ?_
                        refine r_loop_1 (fun (q : Nat) => [(16, true, .int .i64 (q : Int))]) (.c 1 rfl (.c 4 rfl (.c 5 rfl (.c 6 rfl (.c 11 rfl (.c 13 rfl (.c 14 rfl (.c 15 rfl .n)))))))) (fun (q : Nat) => blk tb (tnC bb t1.ws c0 c1 c2 pb) 84 :: brokP bb t1.b :: restP clerkP [c0, c1, c2] t1.ks s :: postP pb t1.post :: blk (cAt c0 c1 c2 s) [ptr kb, .int .i64 k.no] 40 :: blk kb (kpC k sb lv) 44 :: sl lv 101 5 (k.l.map rR) :: shopP sb k.shop :: sl hv 54 3 (k.shop.holds.map rH) :: blk b13 ((stV t1 s k q).map vI) 23 :: blk b11 ((serialT t1).1.map vI) 23 :: blk b2 (ws.map vI) 23 :: H) (fun (q : Nat) => q ≤ k.shop.holds.length) (fun (q : Nat) => k.shop.holds.length - q) (0) ?_ (.c 16 rfl .n) ?_ (fun q hI => ?_)
                        · exact Nat.zero_le _
                        · first | exact Ent.rfl | (repeat (first | exact Ent.rfl | refine Ent.c (SelB.ent) ?_ | refine Ent.c (SelS.ent) ?_ | refine Ent.cN ?_ | refine Ent.c (SelX.ent) ?_ | refine Ent.dropR ?_))
                        · skip
                          refine r_seq ?_
                          refine r_seq ?_
                          refine r_region ?_
                          refine p_mv rfl rfl ?_
                          refine p_mv rfl rfl ?_
                          refine l_op (x_p (pv_lens (Rd.len hrh) ⟨_, Try.underlying45⟩ (.n rfl) rfl rfl rfl rfl (fun _ => rfl)) rfl rfl ?_)
                          refine p_lss rfl rfl rfl ?_
                          refine o_keep (.c 1 rfl (.c 4 rfl (.c 5 rfl (.c 6 rfl (.c 11 rfl (.c 13 rfl (.c 14 rfl (.c 15 rfl (.c 16 rfl (.c 103 rfl .n)))))))))) ?_
                          refine r_cond _ rfl (fun h13 => ?_) (fun h13 => ?_)
                          · skip
                            obtain ⟨z, hzq⟩ := getlt (l := k.shop.holds) (i := q) (by have := of_decide_eq_true h13; omega)
                            have hq2 := (List.getElem?_eq_some_iff.1 hzq).1
                            obtain ⟨_, _, hzd, hzc, _⟩ := hK.sh.h z (List.mem_of_getElem? hzq)
                            have hzb := dlt_ok hzd
                            obtain ⟨ci, hci⟩ : ∃ ci : Nat, z.ctr = (ci : Int) := ⟨z.ctr.toNat, by omega⟩
                            have hci6 : ci < 6 := by omega
                            have hcs : ci / 2 = s := by omega
                            have hbd := stV_bd (t := t1) (q := q) hK hci6 hcs
                            have hshop : shopOf z.ctr = (s : Int) := by rw [shopOf_ok (by omega) (by omega)]; omega
                            refine r_skip ?_
                            refine r_seq ?_
                            refine r_block ?_
                            refine r_seq ?_
                            refine r_plan _ [] mo (.c 1 rfl (.c 4 rfl (.c 5 rfl (.c 6 rfl (.c 11 rfl (.c 13 rfl (.c 14 rfl (.c 15 rfl (.c 16 rfl .n))))))))) Ent.rfl ?_
                            refine qm_q (i := 0) (l := [.k 5]) rfl rfl rfl rfl (by kernel_rfl) rfl (fun He => PV.rq (pv_mv (.n rfl) rfl rfl (fun _ => rfl))) ?_
                            refine qm_q (i := 1) (l := [.o 0]) rfl rfl rfl rfl (by kernel_rfl) rfl (fun He => PV.rq (pv_nilp (.n rfl) rfl rfl (fun _ => rfl))) ?_
                            refine qm_q (i := 2) (l := [.o 1]) rfl rfl rfl rfl (by kernel_rfl) rfl (fun He => PV.rq (pv_fa fa_84_0 (.n rfl) rfl rfl (fun _ => rfl))) ?_
                            refine qm_q (i := 3) (l := [.o 2]) rfl rfl rfl rfl (by kernel_rfl) rfl (fun He => RV.rq (q_ldc tc_80 (.n rfl) rfl rfl (fun _ => rfl) (by rfl))) ?_
                            refine qm_q (i := 4) (l := [.k 15]) rfl rfl rfl rfl (by kernel_rfl) rfl (fun He => PV.rq (pv_mv (.n rfl) rfl rfl (fun _ => rfl))) ?_
                            refine qm_q (i := 5) (l := [.k 16]) rfl rfl rfl rfl (by kernel_rfl) rfl (fun He => PV.rq (pv_mv (.n rfl) rfl rfl (fun _ => rfl))) ?_
                            refine qm_q (i := 6) (l := [.o 4, .o 5]) rfl rfl rfl rfl (by kernel_rfl) rfl (fun He => PV.rq (pv_idx Try.underlying45 (.ofA ta_54) hrh (fun hg => ⟨rfl, (mapget hzq)⟩) (.n rfl) rfl rfl rfl (fun _ => ⟨rfl, rfl⟩))) ?_
                            refine qm_q (i := 7) (l := [.o 6]) rfl rfl rfl rfl (by kernel_rfl) rfl (fun He => PV.rq (pv_faat fa_54_0 (fun hg => Rd.sh hrh (mapget hzq)) (.n rfl) rfl rfl (fun _ => rfl))) ?_
                            refine qm_q (i := 8) (l := [.o 7]) rfl rfl rfl rfl (by kernel_rfl) rfl (fun He => RV.rq (rv_ldat (j := 0) tc_3 (Rd.ent hrh (by repeat (first | exact Ent.rfl | exact Ent.one Ent.h | exact Ent.one (SelS.ent) | exact Ent.nil | exact Ent.left | refine Ent.dropR ?_ | refine Ent.tr Ent.skip ?_))) (fun hg => (mapget hzq)) (.n rfl) rfl rfl (fun _ => rfl) rfl (fun _ => rfl))) ?_
                            refine qm_q (i := 9) (l := [.o 3, .o 8]) rfl rfl rfl rfl (by kernel_rfl) rfl (fun He => rq_call cf_41 (.n rfl) rfl (.c rfl (fun _ => rfl) (.c rfl (fun _ => rfl) .n)) (fun hg => (broker_State _ bb t1.b hT1.b z.deal).q)) ?_
                            refine qm_q (i := 10) (l := [.o 9]) rfl rfl rfl rfl (by kernel_rfl) rfl (fun He => PV.rq (pv_eql (.n rfl) rfl rfl rfl (fun _ => ⟨rfl, rfl⟩))) ?_
                            refine qm_q (i := 11) (l := [.o 10]) rfl rfl rfl rfl (by kernel_rfl) rfl (fun He => PV.rq (pv_mv (.n rfl) rfl rfl (fun _ => rfl))) ?_
                            refine qm_q (i := 12) (l := [.k 15, .o 11]) rfl rfl rfl rfl (by kernel_rfl) rfl (fun He => PV.rq (pv_mv (.s rfl rfl rfl) rfl rfl (by first | exact fun _ => rfl | exact id | exact fun h => (Bool.and_eq_true_iff.1 h).1 | simp_all))) ?_
                            refine qm_q (i := 13) (l := [.k 16, .o 11]) rfl rfl rfl rfl (by kernel_rfl) rfl (fun He => PV.rq (pv_mv (.s rfl rfl rfl) rfl rfl (by first | exact fun _ => rfl | exact id | exact fun h => (Bool.and_eq_true_iff.1 h).1 | simp_all))) ?_
                            refine qm_q (i := 14) (l := [.o 12, .o 13, .o 11]) rfl rfl rfl rfl (by kernel_rfl) rfl (fun He => PV.rq (pv_idx Try.underlying45 (.ofA ta_54) hrh (fun hg => ⟨rfl, (mapget hzq)⟩) (.s rfl rfl rfl) rfl rfl rfl (by refine fun h => ⟨?_, ?_⟩ <;> first | rfl | exact h | exact (Bool.and_eq_true_iff.1 h).1 | simp_all))) ?_
                            refine qm_q (i := 15) (l := [.o 14, .o 11]) rfl rfl rfl rfl (by kernel_rfl) rfl (fun He => PV.rq (pv_faat fa_54_1 (fun hg => Rd.sh hrh (mapget hzq)) (.s rfl rfl rfl) rfl rfl (by first | exact fun _ => rfl | exact id | exact fun h => (Bool.and_eq_true_iff.1 h).1 | simp_all))) ?_
                            refine qm_q (i := 16) (l := [.o 15, .o 11]) rfl rfl rfl rfl (by kernel_rfl) rfl (fun He => RV.rq (rv_ldat (j := 1) tc_3 (Rd.ent hrh (by repeat (first | exact Ent.rfl | exact Ent.one Ent.h | exact Ent.one (SelS.ent) | exact Ent.nil | exact Ent.left | refine Ent.dropR ?_ | refine Ent.tr Ent.skip ?_))) (fun hg => (mapget hzq)) (.s rfl rfl rfl) rfl rfl (by first | exact fun _ => rfl | exact id | exact fun h => (Bool.and_eq_true_iff.1 h).1 | simp_all) rfl (fun _ => rfl))) ?_
                            refine qm_q (i := 17) (l := [.o 16, .o 11]) rfl rfl rfl rfl (by kernel_rfl) rfl (fun He => rq_call cf_48 (.s rfl rfl rfl) rfl (.c rfl (by first | exact fun _ => rfl | exact id | exact fun h => (Bool.and_eq_true_iff.1 h).1 | simp_all) .n) (fun hg => ref_ShopOf _ _ z.ctr)) ?_
                            refine qm_q (i := 18) (l := [.k 14, .o 11]) rfl rfl rfl rfl (by kernel_rfl) rfl (fun He => PV.rq (pv_mv (.s rfl rfl rfl) rfl rfl (by first | exact fun _ => rfl | exact id | exact fun h => (Bool.and_eq_true_iff.1 h).1 | simp_all))) ?_
                            refine qm_q (i := 19) (l := [.o 17, .o 18, .o 11]) rfl rfl rfl rfl (by kernel_rfl) rfl (fun He => PV.rq (pv_eql (.s rfl rfl rfl) rfl rfl rfl (by refine fun h => ⟨?_, ?_⟩ <;> first | rfl | exact h | exact (Bool.and_eq_true_iff.1 h).1 | simp_all))) ?_
                            refine qm_q (i := 20) (l := [.o 11, .o 19]) rfl rfl rfl rfl (by kernel_rfl) rfl (fun He => PV.rq (pv_and (.n rfl) rfl rfl rfl (fun _ => ⟨rfl, fun hc => by first | rfl | (rw [hc]; rfl) | simp_all⟩))) ?_
                            refine qm_n (by kernel_rfl) (by kernel_rfl) (by kernel_rfl) (by kernel_rfl) (.c 1 rfl (.c 4 rfl (.c 5 rfl (.c 6 rfl (.c 11 rfl (.c 13 rfl (.c 14 rfl (.c 15 rfl (.c 16 rfl (.c 126 rfl .n)))))))))) ?_
                            refine r_cond _ rfl (fun h14 => ?_) (fun h14 => ?_)
                            · skip
                              have hsv := stV_yes (t := t1) (s := s) hzq (by simp at h14; exact h14.1) hci hcs hci6
                              refine r_plan _ [] mo (.c 1 rfl (.c 4 rfl (.c 5 rfl (.c 6 rfl (.c 11 rfl (.c 13 rfl (.c 14 rfl (.c 15 rfl (.c 16 rfl .n))))))))) Ent.rfl ?_
                              refine qm_q (i := 0) (l := [.k 15]) rfl rfl rfl rfl (by kernel_rfl) rfl (fun He => PV.rq (pv_mv (.n rfl) rfl rfl (fun _ => rfl))) ?_
                              refine qm_q (i := 1) (l := [.k 16]) rfl rfl rfl rfl (by kernel_rfl) rfl (fun He => PV.rq (pv_mv (.n rfl) rfl rfl (fun _ => rfl))) ?_
                              refine qm_q (i := 2) (l := [.o 0, .o 1]) rfl rfl rfl rfl (by kernel_rfl) rfl (fun He => PV.rq (pv_idx Try.underlying45 (.ofA ta_54) hrh (fun hg => ⟨rfl, (mapget hzq)⟩) (.n rfl) rfl rfl rfl (fun _ => ⟨rfl, rfl⟩))) ?_
                              refine qm_q (i := 3) (l := [.o 2]) rfl rfl rfl rfl (by kernel_rfl) rfl (fun He => PV.rq (pv_faat fa_54_1 (fun hg => Rd.sh hrh (mapget hzq)) (.n rfl) rfl rfl (fun _ => rfl))) ?_
                              refine qm_q (i := 4) (l := [.o 3]) rfl rfl rfl rfl (by kernel_rfl) rfl (fun He => RV.rq (rv_ldat (j := 1) tc_3 (Rd.ent hrh (by repeat (first | exact Ent.rfl | exact Ent.one Ent.h | exact Ent.one (SelS.ent) | exact Ent.nil | exact Ent.left | refine Ent.dropR ?_ | refine Ent.tr Ent.skip ?_))) (fun hg => (mapget hzq)) (.n rfl) rfl rfl (fun _ => rfl) rfl (fun _ => rfl))) ?_
                              refine qm_q (i := 5) (l := [.k 13, .o 4]) rfl rfl rfl rfl (by kernel_rfl) rfl (fun He => PV.rq (pv_aidx (i := ci) Try.underlying23 (.ofC tc_3) (fun hg => ⟨hci, hci6⟩) (.n rfl) rfl rfl rfl (fun _ => ⟨rfl, rfl⟩))) ?_
                              refine qm_q (i := 6) (l := [.o 5]) rfl rfl rfl rfl (by kernel_rfl) rfl (fun He => RV.rq (q_ldci (i := ci) tc_3 (.n rfl) rfl rfl (fun _ => rfl) (by omega) (wget (by rw [stV_len]; exact hci6)))) ?_
                              refine qm_q (i := 7) (l := [.k 15]) rfl rfl rfl rfl (by kernel_rfl) rfl (fun He => PV.rq (pv_mv (.n rfl) rfl rfl (fun _ => rfl))) ?_
                              refine qm_q (i := 8) (l := [.k 16]) rfl rfl rfl rfl (by kernel_rfl) rfl (fun He => PV.rq (pv_mv (.n rfl) rfl rfl (fun _ => rfl))) ?_
                              refine qm_q (i := 9) (l := [.o 7, .o 8]) rfl rfl rfl rfl (by kernel_rfl) rfl (fun He => PV.rq (pv_idx Try.underlying45 (.ofA ta_54) hrh (fun hg => ⟨rfl, (mapget hzq)⟩) (.n rfl) rfl rfl rfl (fun _ => ⟨rfl, rfl⟩))) ?_
                              refine qm_q (i := 10) (l := [.o 9]) rfl rfl rfl rfl (by kernel_rfl) rfl (fun He => PV.rq (pv_faat fa_54_2 (fun hg => Rd.sh hrh (mapget hzq)) (.n rfl) rfl rfl (fun _ => rfl))) ?_
                              refine qm_q (i := 11) (l := [.o 10]) rfl rfl rfl rfl (by kernel_rfl) rfl (fun He => RV.rq (rv_ldat (j := 2) tc_3 (Rd.ent hrh (by repeat (first | exact Ent.rfl | exact Ent.one Ent.h | exact Ent.one (SelS.ent) | exact Ent.nil | exact Ent.left | refine Ent.dropR ?_ | refine Ent.tr Ent.skip ?_))) (fun hg => (mapget hzq)) (.n rfl) rfl rfl (fun _ => rfl) rfl (fun _ => rfl))) ?_
                              refine qm_q (i := 12) (l := [.o 6, .o 11]) rfl rfl rfl rfl (by kernel_rfl) rfl (fun He => PV.rq (pv_add (fun _ => by omega) (.n rfl) rfl rfl rfl (fun _ => ⟨rfl, rfl⟩))) ?_
                              refine qm_q (i := 13) (l := [.k 13, .o 4]) rfl rfl rfl rfl (by kernel_rfl) rfl (fun He => PV.rq (pv_aidx (i := ci) Try.underlying23 (.ofC tc_3) (fun hg => ⟨hci, hci6⟩) (.n rfl) rfl rfl rfl (fun _ => ⟨rfl, rfl⟩))) ?_
                              refine qb_store (.ofC tc_3) (i := 14) [.o 13, .o 12] (by kernel_rfl) (by kernel_rfl) rfl rfl rfl (by kernel_rfl) (by kernel_rfl) (by kernel_rfl) ⟨_, .n rfl, rfl⟩ rfl rfl rfl rfl rfl rfl (Ins.atm' (f := vI) (i := ci) (by omega) (by rw [stV_len]; exact hci6)) ?_
                              refine qm_n (by kernel_rfl) (by kernel_rfl) (by kernel_rfl) (by kernel_rfl) (.c 1 rfl (.c 4 rfl (.c 5 rfl (.c 6 rfl (.c 11 rfl (.c 13 rfl (.c 14 rfl (.c 15 rfl (.c 16 rfl .n))))))))) ?_
                              refine r_end ?_
                              refine r_region ?_
                              refine p_mv rfl rfl ?_
                              refine p_add rfl rfl (by omega) rfl ?_
                              refine p_as rfl rfl ?_
                              refine o_keep (.c 1 rfl (.c 4 rfl (.c 5 rfl (.c 6 rfl (.c 11 rfl (.c 13 rfl (.c 14 rfl (.c 15 rfl (.c 16 rfl .n))))))))) ?_
                              refine r_back_1 (q + 1) ?_ ?_ (Keep.app (.c 16 rfl .n) (.c 1 rfl (.c 4 rfl (.c 5 rfl (.c 6 rfl (.c 11 rfl (.c 13 rfl (.c 14 rfl (.c 15 rfl .n))))))))) ?_
                              · omega
                              · omega
                              · rw [← hsv]; first | exact Ent.rfl | (repeat (first | exact Ent.rfl | refine Ent.c (SelB.ent) ?_ | refine Ent.c (SelS.ent) ?_ | refine Ent.cN ?_ | refine Ent.c (SelX.ent) ?_ | refine Ent.dropR ?_))
                            · skip
                              have hsv := stV_no (t := t1) (s := s) hzq (by simpa [hshop] using h14)
                              refine r_skip ?_
                              refine r_end ?_
                              refine r_region ?_
                              refine p_mv rfl rfl ?_
                              refine p_add rfl rfl (by omega) rfl ?_
                              refine p_as rfl rfl ?_
                              refine o_keep (.c 1 rfl (.c 4 rfl (.c 5 rfl (.c 6 rfl (.c 11 rfl (.c 13 rfl (.c 14 rfl (.c 15 rfl (.c 16 rfl .n))))))))) ?_
                              refine r_back_1 (q + 1) ?_ ?_ (Keep.app (.c 16 rfl .n) (.c 1 rfl (.c 4 rfl (.c 5 rfl (.c 6 rfl (.c 11 rfl (.c 13 rfl (.c 14 rfl (.c 15 rfl .n))))))))) ?_
                              · omega
                              · omega
                              · rw [hsv]; first | exact Ent.rfl | (repeat (first | exact Ent.rfl | refine Ent.c (SelB.ent) ?_ | refine Ent.c (SelS.ent) ?_ | refine Ent.cN ?_ | refine Ent.c (SelX.ent) ?_ | refine Ent.dropR ?_))
                          · skip
                            obtain rfl : q = k.shop.holds.length := by have := of_decide_eq_false h13; omega
                            rw [stV_full hk3]
                            refine r_exit rfl ?_
                            refine r_end ?_
                            refine r_region ?_
                            refine p_mv rfl rfl ?_
                            refine p_add rfl rfl (by omega) rfl ?_
                            refine p_as rfl rfl ?_
                            refine o_keep (.c 1 rfl (.c 4 rfl (.c 5 rfl (.c 6 rfl (.c 11 rfl (.c 13 rfl (.c 14 rfl .n))))))) ?_
                            refine r_back_1 (s + 1) ?_ ?_ (Keep.app (.c 14 rfl .n) (.c 1 rfl (.c 4 rfl (.c 5 rfl (.c 6 rfl (.c 11 rfl (.c 13 rfl .n))))))) ?_
                            · omega
                            · omega
                            · refine Ent.tr (keepP_close (b := kb) (k := k) sb lv rfl rfl) ?_; refine Ent.tr (clerkP_close (b := cAt c0 c1 c2 s) (k := k) kb rfl) ?_; refine Ent.tr (Ent.mono (SelX.ent (X := restP clerkP [c0, c1, c2] t1.ks s))) ?_; refine Ent.tr (many_back (cAt_get hs3) hk3) ?_; first | exact Ent.rfl | (repeat (first | exact Ent.rfl | refine Ent.c (SelB.ent) ?_ | refine Ent.c (SelS.ent) ?_ | refine Ent.cN ?_ | refine Ent.c (SelX.ent) ?_ | refine Ent.dropR ?_))
                      · skip
                        obtain rfl : s = 3 := by have := of_decide_eq_false h12; omega
                        refine r_exit rfl ?_
                        refine r_seq ?_
                        refine r_region ?_
                        refine p_lda ta_23 rfl (by exact (Tk.all (by first | rfl | assumption | (simp only [List.drop_zero, List.length_map]; assumption) | (simp [*]; done)))) rfl ?_
                        refine p_lda ta_23 rfl (by exact (Tk.all (by first | rfl | assumption | (simp only [List.drop_zero, List.length_map]; assumption) | (simp [*]; done)))) rfl ?_
                        refine l_op (x_p (pv_ane (eq_World stO_len hs6) (.n rfl) rfl rfl rfl (fun _ => ⟨rfl, rfl⟩)) rfl rfl ?_)
                        refine o_keep (.c 1 rfl (.c 4 rfl (.c 5 rfl (.c 6 rfl (.c 143 rfl .n))))) ?_
                        refine r_cond _ rfl (fun h15 => ?_) (fun h15 => ?_)
                        · exfalso; simp [stO_3 hT1] at h15
                        · skip
                          refine r_ent (townP_close (b := tb) (t := t1) bb c0 c1 c2 pb rfl) ?_
                          refine r_skip ?_
                          refine r_end ?_
                          refine r_region ?_
                          refine p_mv rfl rfl ?_
                          refine p_add rfl rfl (by omega) rfl ?_
                          refine p_as rfl rfl ?_
                          refine o_keep (.c 1 rfl (.c 4 rfl (.c 5 rfl (.c 6 rfl .n)))) ?_
                          refine r_back_2 (i + 1) (t1) ?_ ?_ (Keep.app (.c 6 rfl .n) (.c 1 rfl (.c 4 rfl (.c 5 rfl .n)))) ?_
                          · exact ⟨by omega, hT1⟩
                          · omega
                          · first | exact Ent.rfl | (repeat (first | exact Ent.rfl | refine Ent.c (SelB.ent) ?_ | refine Ent.c (SelS.ent) ?_ | refine Ent.cN ?_ | refine Ent.c (SelX.ent) ?_ | refine Ent.dropR ?_))
            · skip
              refine r_exit rfl ?_
              refine r_seq ?_
              refine r_region ?_
              refine p_as rfl rfl ?_
              refine o_keep (.c 4 rfl .n) ?_
              refine r_retv hF rfl (.c (.t rfl) .n) ?_ ?_
              · first | exact Ent.rfl | (repeat (first | exact Ent.rfl | refine Ent.c (SelB.ent) ?_ | refine Ent.c (SelS.ent) ?_ | refine Ent.cN ?_ | refine Ent.c (SelX.ent) ?_ | refine Ent.dropR ?_))
              · rfl

end Go.Proofs.Ytmakdilmibjpbac
