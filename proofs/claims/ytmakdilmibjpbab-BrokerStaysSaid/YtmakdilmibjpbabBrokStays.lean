/- The walks of BrokStays: written by a program of ours (gen.py) over the engine. -/
import Derived.Test.YtmakdilmibjpbabPlain
import Derived.Test.YtmakdilmibjpbabFacts
import Derived.Test.YtmakdilmibjpbabBookW4
import Derived.Test.YtmakdilmibjpbabBrokLaws
import Derived.Test.YtmakdilmibjpbabAnn
namespace Go.Proofs.Ytmakdilmibjpbab
open Go Go.RowKit
set_option linter.unusedVariables false
set_option linter.unusedSimpArgs false
set_option maxRecDepth 20000

def stL (s : BrokS) : List Int := (List.range s.l.length).map fun k => stateB s (k : Nat)
def stP (s s1 : BrokS) (n : Nat) : List Int := (List.range (max n s.l.length)).map fun k => if k < n then stateB s1 (k : Nat) else stateB s (k : Nat)
theorem stL_len {s : BrokS} : (stL s).length = s.l.length := by simp [stL]
theorem stP_len {s s1 : BrokS} {n : Nat} : (stP s s1 n).length = max n s.l.length := by simp [stP]
theorem stP_0 {s s1 : BrokS} : stP s s1 0 = stL s := by
  unfold stP stL
  rw [Nat.max_eq_right (Nat.zero_le _)]
  exact List.map_congr_left fun k hk => by rw [if_neg (Nat.not_lt_zero _)]
theorem stP_all {s s1 : BrokS} (h : s.l.length ≤ s1.l.length) : stP s s1 s1.l.length = stL s1 := by
  unfold stP stL
  rw [Nat.max_eq_left h]
  exact List.map_congr_left fun k hk => by rw [if_pos (List.mem_range.1 hk)]
theorem stP_at {s s1 : BrokS} {n : Nat} (h : n < s.l.length) : (stP s s1 n)[n]? = some (stateB s (n : Nat)) := by
  unfold stP
  rw [List.getElem?_map, List.getElem?_range (by omega)]
  simp
theorem stP_ext {s s1 : BrokS} {n : Nat} {l : List Int} (hl : l.length = max (n + 1) s.l.length) (h : ∀ k, k < l.length → k ≠ n → l[k]? = (stP s s1 n)[k]?) : l.set n (stateB s1 (n : Nat)) = stP s s1 (n + 1) := by
  refine List.ext_getElem? fun k => ?_
  by_cases hk : k < l.length
  · have e2 : (stP s s1 (n + 1))[k]? = some (if k < n + 1 then stateB s1 (k : Nat) else stateB s (k : Nat)) := by
      unfold stP; rw [List.getElem?_map, List.getElem?_range (by omega)]; rfl
    rw [e2]
    by_cases e : k = n
    · subst e; rw [List.getElem?_set_self hk, if_pos (by omega)]
    · rw [List.getElem?_set_ne (by omega), h k hk e]
      unfold stP
      rw [List.getElem?_map, List.getElem?_range (by omega)]
      simp only [Option.map_some]
      by_cases h1 : k < n
      · rw [if_pos h1, if_pos (by omega)]
      · rw [if_neg h1, if_neg (by omega)]
  · rw [List.getElem?_eq_none (by simp; omega), List.getElem?_eq_none (by rw [stP_len]; omega)]
theorem stP_old {s s1 : BrokS} {n : Nat} (h : n < s.l.length) : n < (stP s s1 n).length ∧ (stP s s1 n).set n (stateB s1 (n : Nat)) = stP s s1 (n + 1) :=
  ⟨by rw [stP_len]; omega, stP_ext (by rw [stP_len]; omega) fun _ _ _ => rfl⟩
theorem stP_new {s s1 : BrokS} {n : Nat} {z : Int} (h : s.l.length ≤ n) : n < (stP s s1 n ++ [z]).length ∧ (stP s s1 n ++ [z]).set n (stateB s1 (n : Nat)) = stP s s1 (n + 1) := by
  have e : (stP s s1 n).length = n := by rw [stP_len]; omega
  refine ⟨by simp [e], stP_ext (by simp [e]; omega) fun k hk hn => ?_⟩
  rw [List.getElem?_append_left (by simp [e] at hk; omega)]
theorem StaysR.le {s s1 : BrokS} (h : StaysR s s1) : s.order.length ≤ s1.order.length ∧ s1.order.length ≤ s.order.length + 1 ∧ s1.order.take s.order.length = s.order := by
  rcases h.ord with e | ⟨q, e, _⟩
  · rw [e]; exact ⟨Nat.le_refl _, by omega, List.take_length⟩
  · rw [e]; exact ⟨by simp, by simp, by simp⟩
theorem StaysR.more {s s1 : BrokS} (h : StaysR s s1) (hl : s.order.length < s1.order.length) : ∃ q, s1.order[s.order.length]? = some q ∧ s.order.contains q = false := by
  rcases h.ord with e | ⟨q, e, hq⟩
  · rw [e] at hl; omega
  · exact ⟨q, by rw [e]; simp, by simpa using hq⟩
theorem rd_pre {M : Amb} {H : List HP} {v : Value} {l k : List Int} {n : Nat} (h : Rd M H v 1 (l.map rI)) (hn : n ≤ l.length) (e : l.take n = k) : Rd M H (resl v 1 0 n) 1 (k.map rI) := by
  have := h.resl (l := 0) (h := n) (Nat.zero_le _) (by simpa using hn)
  rwa [List.drop_zero, ← List.map_take, e] at this

theorem law_BrokerStays (M : Amb) (H : List HP) (xs : List BkStep) (sv : Value) (hs : Rd M [] sv 10 (xs.map rBk)) (hx : ∀ x ∈ xs, Rd M [] x.wv 2 (x.wants.map rW)) : FnV Try.prog M H 8 [sv] (.bool true) := by
  refine fn_intro Try.func8 rfl Try.ntmps8 rfl fun F hF => ?_
  refine r_seq ?_
  refine r_region ?_
  refine p_as rfl rfl ?_
  refine o_keep (.c 0 rfl (.c 2 rfl .n)) ?_
  refine r_seq ?_
  refine r_seq ?_
  refine r_region ?_
  refine p_callv cf_14 (.n) rfl (law_brokerBegun _ _) ?_
  refine p_not rfl rfl ?_
  refine o_keep (.c 0 rfl (.c 2 rfl (.c 12 rfl .n))) ?_
  refine r_cond _ rfl (fun h1 => ?_) (fun h1 => ?_)
  · simp at h1
  · skip
    refine r_skip ?_
    refine r_seq ?_
    refine r_seq ?_
    refine r_region ?_
    refine p_mv rfl rfl ?_
    refine p_callv cf_37 (.c rfl .n) rfl ((law_greatB _ xs sv hs hx).q) ?_
    refine o_keep (.c 0 rfl (.c 2 rfl (.c 14 rfl .n))) ?_
    refine r_cond _ rfl (fun h2 => ?_) (fun h2 => ?_)
    · skip
      refine r_seq ?_
      refine r_region ?_
      refine p_as rfl rfl ?_
      refine o_keep (.c 0 rfl (.c 2 rfl .n)) ?_
      refine r_retv hF rfl (.c (.t rfl) .n) ?_ ?_
      · first | exact Ent.rfl | (repeat (first | exact Ent.rfl | refine Ent.c (SelB.ent) ?_ | refine Ent.c (SelS.ent) ?_ | refine Ent.cN ?_ | refine Ent.c (SelX.ent) ?_ | refine Ent.dropR ?_))
      · rfl
    · skip
      have hgr := great_no h2
      refine r_skip ?_
      refine r_seq ?_
      refine r_region ?_
      refine p_calle cf_15 (.n) rfl (broker_New _) fun bk => ?_
      refine o_cat ?_
      refine p_as rfl rfl ?_
      refine o_keep (.c 0 rfl (.c 2 rfl (.c 3 rfl .n))) ?_
      refine r_seq ?_
      refine r_region ?_
      refine p_build zr_77 pl_77 (.n) rfl ?_
      refine p_box rfl rfl rfl fun b17 => ?_
      refine p_as rfl rfl ?_
      refine o_keep (.c 0 rfl (.c 2 rfl (.c 3 rfl (.c 4 rfl .n)))) ?_
      refine r_ent (Ent.tr (show Ent _ (manyP bdealP [] brk0.l :: _) from many_nil) (Ent.tr (Ent.slN (E := 3) (sz := 1)) (Ent.slN (E := 86) (sz := 4)))) ?_
      refine r_ent (bookP_close (b := b17) (T := 77) (rest := []) (s := brk0) (.slice Option.none 0 0) (.slice Option.none 0 0) [] rfl rfl rfl rfl) ?_
      refine r_seq ?_
      refine r_region ?_
      refine p_as rfl rfl ?_
      refine o_keep (.c 0 rfl (.c 2 rfl (.c 3 rfl (.c 4 rfl (.c 5 rfl .n))))) ?_
      refine r_seq ?_
      refine r_seq ?_
      refine r_region ?_
      refine p_as rfl rfl ?_
      refine o_keep (.c 0 rfl (.c 2 rfl (.c 3 rfl (.c 4 rfl (.c 5 rfl (.c 6 rfl .n)))))) ?_
      refine r_block ?_
      refine r_loop_3 (fun (i : Nat) (s : BrokS) (sv2 : Value) => [(6, true, .int .i64 (i : Int)), (5, true, sv2)]) (.c 0 rfl (.c 2 rfl (.c 3 rfl (.c 4 rfl .n)))) (fun (i : Nat) (s : BrokS) (sv2 : Value) => sl sv2 3 1 ((stL s).map rI) :: brokP bk s :: bookP b17 77 [] s :: H) (fun (i : Nat) (s : BrokS) (sv2 : Value) => i ≤ xs.length ∧ BInv s) (fun (i : Nat) (s : BrokS) (sv2 : Value) => xs.length - i) (0) (brk0) (.slice Option.none 0 0) ?_ (.c 6 rfl (.c 5 rfl .n)) ?_ (fun i s sv2 hI => ?_)
      · exact ⟨Nat.zero_le _, BInv.new⟩
      · show Ent _ (sl _ _ _ [] :: _); refine Ent.cN ?_; first | exact Ent.rfl | (repeat (first | exact Ent.rfl | refine Ent.c (SelB.ent) ?_ | refine Ent.c (SelS.ent) ?_ | refine Ent.cN ?_ | refine Ent.c (SelX.ent) ?_ | refine Ent.dropR ?_))
      · skip
        obtain ⟨hil, hI⟩ := hI
        refine r_rd sv2 fun hrs => ?_
        refine r_seq ?_
        refine r_seq ?_
        refine r_region ?_
        refine p_mv rfl rfl ?_
        refine p_mv rfl rfl ?_
        refine l_op (x_p (pv_lens hs.len ⟨_, Try.underlying72⟩ (.n rfl) rfl rfl rfl rfl (fun _ => rfl)) rfl rfl ?_)
        refine p_lss rfl rfl rfl ?_
        refine o_keep (.c 0 rfl (.c 2 rfl (.c 3 rfl (.c 4 rfl (.c 5 rfl (.c 6 rfl (.c 21 rfl .n))))))) ?_
        refine r_cond _ rfl (fun h3 => ?_) (fun h3 => ?_)
        · skip
          obtain ⟨x, hxi⟩ := getlt (l := xs) (i := i) (by have := of_decide_eq_true h3; omega)
          have hil2 := (List.getElem?_eq_some_iff.1 hxi).1
          have hxm := List.mem_of_getElem? hxi
          have hxr := hx x hxm
          have hxw := hgr.2 x hxm
          obtain ⟨s1, hs1⟩ : ∃ s1, stepBk s x = s1 := ⟨_, rfl⟩
          have hI1 : BInv s1 := hs1 ▸ hI.stp x
          have hor1 := hI1.ord_le
          have hl1 := hI1.len
          have hdu1 := due_le hI1
          have hsr : StaysR s s1 := hs1 ▸ hI.stays x
          have hle := hsr.le
          have hor0 := hI.ord_le
          have hl0 := hI.len
          refine r_skip ?_
          refine r_seq ?_
          refine r_block ?_
          refine r_seq ?_
          refine r_region ?_
          refine p_mv rfl rfl ?_
          refine p_calle cf_22 (.c rfl .n) rfl (broker_Done _ bk s hI (by omega)) fun o1 => ?_
          refine o_cat ?_
          refine o_rd o1 fun hro1 => ?_
          refine p_as rfl rfl ?_
          refine o_keep (.c 0 rfl (.c 2 rfl (.c 3 rfl (.c 4 rfl (.c 5 rfl (.c 6 rfl (.c 7 rfl .n))))))) ?_
          refine r_seq ?_
          refine r_region ?_
          refine p_mv rfl rfl ?_
          refine p_mv rfl rfl ?_
          refine p_mv rfl rfl ?_
          refine p_mv rfl rfl ?_
          refine p_idx Try.underlying72 (.ofA ta_80) hs rfl (mapget hxi) rfl rfl rfl ?_
          refine p_ldats 0 ta_80 (Rd.ent hs (by repeat (first | exact Ent.rfl | exact Ent.one Ent.h | exact Ent.one (SelS.ent) | exact Ent.nil | exact Ent.left | refine Ent.dropR ?_ | refine Ent.tr Ent.skip ?_))) (mapget hxi) rfl rfl (.s (.s (.s (.s (.s (.s (.s (.s (.s (.s .z)))))))))) rfl ?_
          refine p_callc cf_38 (.c rfl (.c rfl (.c rfl .n))) rfl (law_bstepE _ bk b17 s hI x hs1 hxr (by omega)) ?_
          refine o_keep (.c 0 rfl (.c 2 rfl (.c 3 rfl (.c 4 rfl (.c 5 rfl (.c 6 rfl (.c 7 rfl .n))))))) ?_
          refine r_seq ?_
          refine r_region ?_
          refine p_mv rfl rfl ?_
          refine p_calle cf_22 (.c rfl .n) rfl (broker_Done _ bk s1 hI1 (by omega)) fun o2 => ?_
          refine o_cat ?_
          refine o_rd o2 fun hro2 => ?_
          refine p_as rfl rfl ?_
          refine o_keep (.c 0 rfl (.c 2 rfl (.c 3 rfl (.c 4 rfl (.c 5 rfl (.c 6 rfl (.c 7 rfl (.c 8 rfl .n)))))))) ?_
          refine r_seq ?_
          refine r_seq ?_
          refine r_region ?_
          refine p_mv rfl rfl ?_
          refine l_op (x_p (pv_lens (Rd.len hro2) ⟨_, Try.underlying23⟩ (.n rfl) rfl rfl rfl rfl (fun _ => rfl)) rfl rfl ?_)
          refine p_mv rfl rfl ?_
          refine l_op (x_p (pv_lens (Rd.len hro1) ⟨_, Try.underlying23⟩ (.n rfl) rfl rfl rfl rfl (fun _ => rfl)) rfl rfl ?_)
          refine p_lss rfl rfl rfl ?_
          refine p_mv rfl rfl ?_
          refine o_split (t := 40) rfl (fun g4 => ?_) (fun g4 => ?_)
          · exfalso; simp at g4; omega
          · skip
            refine o_g (.s rfl rfl rfl) rfl ?_
            refine p_mv rfl rfl ?_
            refine o_g (.s rfl rfl rfl) rfl ?_
            refine p_mv rfl rfl ?_
            refine o_g (.s rfl rfl rfl) rfl ?_
            refine l_op (x_p (pv_lens (Rd.len hro1) ⟨_, Try.underlying23⟩ (.n rfl) rfl rfl rfl rfl (fun _ => rfl)) rfl rfl ?_)
            refine o_g (.s rfl rfl rfl) rfl ?_
            refine l_op (x_p (pv_slc (l := 0) (h := s.order.length) Try.underlying23 (.ofC tc_3) hro2 (Nat.zero_le _) (by rw [List.length_map]; exact hle.1) rfl rfl rfl (.inl ⟨rfl, rfl, rfl⟩) (.inr ⟨_, _, rfl, rfl, rfl⟩)) rfl rfl ?_)
            refine o_g (.s rfl rfl rfl) rfl ?_
            refine p_mv rfl rfl ?_
            refine o_g (.s rfl rfl rfl) rfl ?_
            refine p_callv cf_39 (.c rfl (.c rfl .n)) rfl (ref_SameInts _ _ (resl o2 1 0 s.order.length) o1 s.order s.order (rd_pre hro2.own hle.1 hle.2.2) hro1.own (by omega)) ?_
            refine o_g (.s rfl rfl rfl) rfl ?_
            refine p_not rfl rfl ?_
            refine l_op (x_p (pv_or (.n rfl) rfl rfl rfl (fun _ => ⟨rfl, fun hc => by first | rfl | (rw [hc]; rfl) | simp_all⟩)) rfl rfl ?_)
            refine p_mv rfl rfl ?_
            refine l_op (x_p (pv_mv (.s rfl rfl rfl) rfl rfl (by first | exact fun _ => rfl | exact id | exact fun h => (Bool.and_eq_true_iff.1 h).1 | simp_all)) rfl rfl ?_)
            refine l_op (x_p (pv_lens (Rd.len hro2) ⟨_, Try.underlying23⟩ (.s rfl rfl rfl) rfl rfl rfl rfl (by first | exact fun _ => rfl | exact id | exact fun h => (Bool.and_eq_true_iff.1 h).1 | simp_all)) rfl rfl ?_)
            refine l_op (x_p (pv_mv (.s rfl rfl rfl) rfl rfl (by first | exact fun _ => rfl | exact id | exact fun h => (Bool.and_eq_true_iff.1 h).1 | simp_all)) rfl rfl ?_)
            refine l_op (x_p (pv_lens (Rd.len hro1) ⟨_, Try.underlying23⟩ (.s rfl rfl rfl) rfl rfl rfl rfl (by first | exact fun _ => rfl | exact id | exact fun h => (Bool.and_eq_true_iff.1 h).1 | simp_all)) rfl rfl ?_)
            refine l_op (x_p (pv_add (by intro hg; simp at hg; omega) (.s rfl rfl rfl) rfl rfl rfl (by refine fun h => ⟨?_, ?_⟩ <;> first | rfl | exact h | exact (Bool.and_eq_true_iff.1 h).1 | simp_all)) rfl rfl ?_)
            refine l_op (x_p (pv_gtr (.s rfl rfl rfl) rfl rfl rfl (by refine fun h => ⟨?_, ?_⟩ <;> first | rfl | exact h | exact (Bool.and_eq_true_iff.1 h).1 | simp_all)) rfl rfl ?_)
            refine l_op (x_p (pv_or (.n rfl) rfl rfl rfl (fun _ => ⟨rfl, fun hc => by first | rfl | (rw [hc]; rfl) | simp_all⟩)) rfl rfl ?_)
            refine o_keep (.c 0 rfl (.c 2 rfl (.c 3 rfl (.c 4 rfl (.c 5 rfl (.c 6 rfl (.c 7 rfl (.c 8 rfl (.c 56 rfl .n))))))))) ?_
            refine r_cond _ rfl (fun h5 => ?_) (fun h5 => ?_)
            · exfalso; simp at h5; omega
            · skip
              refine r_skip ?_
              refine r_seq ?_
              refine r_seq ?_
              refine r_region ?_
              refine p_mv rfl rfl ?_
              refine p_callv cf_17 (.c rfl .n) rfl ((broker_Len _ bk s1 hI1).q) ?_
              refine p_mv rfl rfl ?_
              refine l_op (x_p (pv_lens (Rd.len hrs) ⟨_, Try.underlying23⟩ (.n rfl) rfl rfl rfl rfl (fun _ => rfl)) rfl rfl ?_)
              refine p_lss rfl rfl rfl ?_
              refine o_keep (.c 0 rfl (.c 2 rfl (.c 3 rfl (.c 4 rfl (.c 5 rfl (.c 6 rfl (.c 7 rfl (.c 8 rfl (.c 61 rfl .n))))))))) ?_
              refine r_cond _ rfl (fun h6 => ?_) (fun h6 => ?_)
              · exfalso; have h9 := of_decide_eq_true h6; rw [stL_len] at h9; have := hsr.len; omega
              · skip
                refine r_skip ?_
                refine r_seq ?_
                refine r_seq ?_
                refine r_region ?_
                refine p_as rfl rfl ?_
                refine o_keep (.c 0 rfl (.c 2 rfl (.c 3 rfl (.c 4 rfl (.c 5 rfl (.c 6 rfl (.c 7 rfl (.c 8 rfl (.c 9 rfl .n))))))))) ?_
                refine r_block ?_
                refine r_loop_2 (fun (n : Nat) (sv3 : Value) => [(9, true, .int .i64 (n : Int)), (5, true, sv3)]) (.c 0 rfl (.c 2 rfl (.c 3 rfl (.c 4 rfl (.c 6 rfl (.c 7 rfl (.c 8 rfl .n))))))) (fun (n : Nat) (sv3 : Value) => sl sv3 3 1 ((stP s s1 n).map rI) :: sl o2 3 1 (s1.order.map rI) :: sl o1 3 1 (s.order.map rI) :: brokP bk s1 :: bookP b17 77 [] s1 :: H) (fun (n : Nat) (sv3 : Value) => n ≤ s1.l.length) (fun (n : Nat) (sv3 : Value) => s1.l.length - n) (0) (sv2) ?_ (.c 9 rfl (.c 5 rfl .n)) ?_ (fun n sv3 hI => ?_)
                · exact Nat.zero_le _
                · rw [stP_0]; first | exact Ent.rfl | (repeat (first | exact Ent.rfl | refine Ent.c (SelB.ent) ?_ | refine Ent.c (SelS.ent) ?_ | refine Ent.cN ?_ | refine Ent.c (SelX.ent) ?_ | refine Ent.dropR ?_))
                · skip
                  have hn0 := hI
                  refine r_rd sv3 fun hr3 => ?_
                  refine r_seq ?_
                  refine r_seq ?_
                  refine r_region ?_
                  refine p_mv rfl rfl ?_
                  refine p_mv rfl rfl ?_
                  refine p_callv cf_17 (.c rfl .n) rfl ((broker_Len _ bk s1 hI1).q) ?_
                  refine p_lss rfl rfl rfl ?_
                  refine o_keep (.c 0 rfl (.c 2 rfl (.c 3 rfl (.c 4 rfl (.c 5 rfl (.c 6 rfl (.c 7 rfl (.c 8 rfl (.c 9 rfl (.c 65 rfl .n)))))))))) ?_
                  refine r_cond _ rfl (fun h7 => ?_) (fun h7 => ?_)
                  · skip
                    have hnl : n < s1.l.length := by have := of_decide_eq_true h7; omega
                    have hst1 := hI1.st (n : Int)
                    have hor := hI1.ord (n : Int)
                    have hkeep := hsr.st (n : Int) (by omega)
                    refine r_skip ?_
                    refine r_seq ?_
                    refine r_block ?_
                    refine r_seq ?_
                    refine r_region ?_
                    refine p_mv rfl rfl ?_
                    refine p_mv rfl rfl ?_
                    refine p_callv cf_21 (.c rfl (.c rfl .n)) rfl ((broker_State _ bk s1 hI1 n).q) ?_
                    refine p_as rfl rfl ?_
                    refine o_keep (.c 0 rfl (.c 2 rfl (.c 3 rfl (.c 4 rfl (.c 5 rfl (.c 6 rfl (.c 7 rfl (.c 8 rfl (.c 9 rfl (.c 10 rfl .n)))))))))) ?_
                    refine r_seq ?_
                    refine r_seq ?_
                    refine r_region ?_
                    refine p_mv rfl rfl ?_
                    refine p_mv rfl rfl ?_
                    refine l_op (x_p (pv_lens (Rd.len hr3) ⟨_, Try.underlying23⟩ (.n rfl) rfl rfl rfl rfl (fun _ => rfl)) rfl rfl ?_)
                    refine p_lss rfl rfl rfl ?_
                    refine p_mv rfl rfl ?_
                    refine o_split (t := 75) rfl (fun g8 => ?_) (fun g8 => ?_)
                    · skip
                      have hq : n < s.l.length := by simp [stP_len] at g8; omega
                      refine o_g (.s rfl rfl rfl) rfl ?_
                      refine p_mv rfl rfl ?_
                      refine o_g (.s rfl rfl rfl) rfl ?_
                      refine p_mv rfl rfl ?_
                      refine o_g (.s rfl rfl rfl) rfl ?_
                      refine p_idx Try.underlying23 (.ofC tc_3) hr3 rfl (mapget (stP_at hq)) rfl rfl rfl ?_
                      refine o_g (.s rfl rfl rfl) rfl ?_
                      refine p_ldat 0 tc_3 (Rd.ent hr3 (by repeat (first | exact Ent.rfl | exact Ent.one Ent.h | exact Ent.one (SelS.ent) | exact Ent.nil | exact Ent.left | refine Ent.dropR ?_ | refine Ent.tr Ent.skip ?_))) (mapget (stP_at hq)) rfl rfl rfl rfl ?_
                      refine o_g (.s rfl rfl rfl) rfl ?_
                      refine p_neq rfl rfl rfl ?_
                      refine l_op (x_p (pv_and (.n rfl) rfl rfl rfl (fun _ => ⟨rfl, fun hc => by first | rfl | (rw [hc]; rfl) | simp_all⟩)) rfl rfl ?_)
                      refine p_mv rfl rfl ?_
                      refine o_split (t := 82) rfl (fun g9 => ?_) (fun g9 => ?_)
                      · skip
                        have hq2 : n < s.l.length := by first | exact hq | (exfalso; simp at g9)
                        have hs0 : stateB s (n : Nat) ≠ 0 := by first | (intro e; simp [e] at g9; done) | (exfalso; simp at g9)
                        refine o_g (.s rfl rfl rfl) rfl ?_
                        refine p_mv rfl rfl ?_
                        refine o_g (.s rfl rfl rfl) rfl ?_
                        refine p_mv rfl rfl ?_
                        refine o_g (.s rfl rfl rfl) rfl ?_
                        refine p_mv rfl rfl ?_
                        refine o_g (.s rfl rfl rfl) rfl ?_
                        refine p_idx Try.underlying23 (.ofC tc_3) hr3 rfl (mapget (stP_at hq2)) rfl rfl rfl ?_
                        refine o_g (.s rfl rfl rfl) rfl ?_
                        refine p_ldat 0 tc_3 (Rd.ent hr3 (by repeat (first | exact Ent.rfl | exact Ent.one Ent.h | exact Ent.one (SelS.ent) | exact Ent.nil | exact Ent.left | refine Ent.dropR ?_ | refine Ent.tr Ent.skip ?_))) (mapget (stP_at hq2)) rfl rfl rfl rfl ?_
                        refine o_g (.s rfl rfl rfl) rfl ?_
                        refine p_neq rfl rfl rfl ?_
                        refine l_op (x_p (pv_and (.n rfl) rfl rfl rfl (fun _ => ⟨rfl, fun hc => by first | rfl | (rw [hc]; rfl) | simp_all⟩)) rfl rfl ?_)
                        refine p_mv rfl rfl ?_
                        refine l_op (x_p (pv_mv (.s rfl rfl rfl) rfl rfl (by first | exact fun _ => rfl | exact id | exact fun h => (Bool.and_eq_true_iff.1 h).1 | simp_all)) rfl rfl ?_)
                        refine l_op (x_p (pv_lss (.s rfl rfl rfl) rfl rfl rfl (by refine fun h => ⟨?_, ?_⟩ <;> first | rfl | exact h | exact (Bool.and_eq_true_iff.1 h).1 | simp_all)) rfl rfl ?_)
                        refine l_op (x_p (pv_or (.n rfl) rfl rfl rfl (fun _ => ⟨rfl, fun hc => by first | rfl | (rw [hc]; rfl) | simp_all⟩)) rfl rfl ?_)
                        refine p_mv rfl rfl ?_
                        refine l_op (x_p (pv_mv (.s rfl rfl rfl) rfl rfl (by first | exact fun _ => rfl | exact id | exact fun h => (Bool.and_eq_true_iff.1 h).1 | simp_all)) rfl rfl ?_)
                        refine l_op (x_p (pv_gtr (.s rfl rfl rfl) rfl rfl rfl (by refine fun h => ⟨?_, ?_⟩ <;> first | rfl | exact h | exact (Bool.and_eq_true_iff.1 h).1 | simp_all)) rfl rfl ?_)
                        refine l_op (x_p (pv_or (.n rfl) rfl rfl rfl (fun _ => ⟨rfl, fun hc => by first | rfl | (rw [hc]; rfl) | simp_all⟩)) rfl rfl ?_)
                        refine o_keep (.c 0 rfl (.c 2 rfl (.c 3 rfl (.c 4 rfl (.c 5 rfl (.c 6 rfl (.c 7 rfl (.c 8 rfl (.c 9 rfl (.c 10 rfl (.c 97 rfl .n))))))))))) ?_
                        refine r_cond _ rfl (fun h10 => ?_) (fun h10 => ?_)
                        · exfalso; simp at h10; first | omega | (have e9 := hkeep (by omega) hs0; omega)
                        · skip
                          refine r_skip ?_
                          refine r_seq ?_
                          refine r_seq ?_
                          refine r_region ?_
                          refine p_mv rfl rfl ?_
                          refine p_mv rfl rfl ?_
                          refine l_op (x_p (pv_lens (Rd.len hr3) ⟨_, Try.underlying23⟩ (.n rfl) rfl rfl rfl rfl (fun _ => rfl)) rfl rfl ?_)
                          refine p_geq rfl rfl rfl ?_
                          refine o_keep (.c 0 rfl (.c 2 rfl (.c 3 rfl (.c 4 rfl (.c 5 rfl (.c 6 rfl (.c 7 rfl (.c 8 rfl (.c 9 rfl (.c 10 rfl (.c 101 rfl .n))))))))))) ?_
                          refine r_cut_2 (fun (sv4 : Value) (l4 : List Int) => [(5, true, sv4)]) (.c 0 rfl (.c 2 rfl (.c 3 rfl (.c 4 rfl (.c 6 rfl (.c 7 rfl (.c 8 rfl (.c 9 rfl (.c 10 rfl .n))))))))) (fun (sv4 : Value) (l4 : List Int) => sl sv4 3 1 ((l4).map rI) :: sl o2 3 1 (s1.order.map rI) :: sl o1 3 1 (s.order.map rI) :: brokP bk s1 :: bookP b17 77 [] s1 :: H) (fun (sv4 : Value) (l4 : List Int) => n < l4.length ∧ l4.set n (stateB s1 n) = stP s s1 (n + 1)) ?_ (fun sv4 l4 hI => ?_)
                          · skip
                            refine r_cond _ rfl (fun h11 => ?_) (fun h11 => ?_)
                            · skip
                              have hge : s.l.length ≤ n := by have := of_decide_eq_true h11; simp [stP_len] at this; omega
                              refine r_region ?_
                              refine p_mv rfl rfl ?_
                              refine p_mv rfl rfl ?_
                              refine p_bslice1 Try.underlying23 (.ofC tc_3) zr_3 rfl rfl rfl rfl rfl rfl rfl fun b104 => ?_
                              refine p_append Try.underlying23 el_3 rfl rfl rfl rfl rfl (Rd.blit rfl rfl) (by simp [stP_len]; omega) fun v105 => ?_
                              refine o_rd v105 fun hr105 => ?_
                              refine p_as rfl rfl ?_
                              refine o_keep (.c 0 rfl (.c 2 rfl (.c 3 rfl (.c 4 rfl (.c 5 rfl (.c 6 rfl (.c 7 rfl (.c 8 rfl (.c 9 rfl (.c 10 rfl .n)))))))))) ?_
                              refine r_join_2 (v105) (stP s s1 n ++ [stateB s1 n]) ?_ (Keep.app (.c 5 rfl .n) (.c 0 rfl (.c 2 rfl (.c 3 rfl (.c 4 rfl (.c 6 rfl (.c 7 rfl (.c 8 rfl (.c 9 rfl (.c 10 rfl .n)))))))))) ?_
                              · exact stP_new hge
                              · rw [List.map_append]; first | exact Ent.rfl | (repeat (first | exact Ent.rfl | refine Ent.c (SelB.ent) ?_ | refine Ent.c (SelS.ent) ?_ | refine Ent.cN ?_ | refine Ent.c (SelX.ent) ?_ | refine Ent.dropR ?_))
                            · skip
                              have hge : n < s.l.length := by have := of_decide_eq_false h11; simp [stP_len] at this; omega
                              refine r_skip ?_
                              refine r_join_2 (sv3) (stP s s1 n) ?_ (Keep.app (.c 5 rfl .n) (.c 0 rfl (.c 2 rfl (.c 3 rfl (.c 4 rfl (.c 6 rfl (.c 7 rfl (.c 8 rfl (.c 9 rfl (.c 10 rfl .n)))))))))) ?_
                              · exact stP_old hge
                              · first | exact Ent.rfl | (repeat (first | exact Ent.rfl | refine Ent.c (SelB.ent) ?_ | refine Ent.c (SelS.ent) ?_ | refine Ent.cN ?_ | refine Ent.c (SelX.ent) ?_ | refine Ent.dropR ?_))
                          obtain ⟨hn4, hl4⟩ := hI
                          obtain ⟨z4, h4⟩ := getlt hn4
                          refine r_rd sv4 fun hr4 => ?_
                          refine r_seq ?_
                          refine r_region ?_
                          refine p_mv rfl rfl ?_
                          refine p_mv rfl rfl ?_
                          refine p_mv rfl rfl ?_
                          refine p_idx Try.underlying23 (.ofC tc_3) hr4 rfl (mapget h4) rfl rfl rfl ?_
                          refine p_stel 0 (.ofC tc_3) rfl (mapget h4) rfl rfl rfl rfl rfl (by repeat constructor) ?_
                          refine o_keep (.c 0 rfl (.c 2 rfl (.c 3 rfl (.c 4 rfl (.c 5 rfl (.c 6 rfl (.c 7 rfl (.c 8 rfl (.c 9 rfl (.c 10 rfl .n)))))))))) ?_
                          refine r_seq ?_
                          refine r_region ?_
                          refine p_mv rfl rfl ?_
                          refine p_eql rfl rfl rfl ?_
                          refine p_mv rfl rfl ?_
                          refine p_mv rfl rfl ?_
                          refine p_callv cf_20 (.c rfl (.c rfl .n)) rfl (ref_In _ _ o2 s1.order (n : Int) hro2.own (by omega)) ?_
                          refine l_op (x_p (pv_bne Try.underlying4 (.n rfl) rfl rfl rfl (fun _ => ⟨rfl, rfl⟩)) rfl rfl ?_)
                          refine o_keep (.c 0 rfl (.c 2 rfl (.c 3 rfl (.c 4 rfl (.c 5 rfl (.c 6 rfl (.c 7 rfl (.c 8 rfl (.c 9 rfl (.c 115 rfl .n)))))))))) ?_
                          refine r_cond _ rfl (fun h12 => ?_) (fun h12 => ?_)
                          · exfalso; simp [hor] at h12
                          · skip
                            refine r_skip ?_
                            refine r_end ?_
                            refine r_region ?_
                            refine p_mv rfl rfl ?_
                            refine p_add rfl rfl (by omega) rfl ?_
                            refine p_as rfl rfl ?_
                            refine o_keep (.c 0 rfl (.c 2 rfl (.c 3 rfl (.c 4 rfl (.c 5 rfl (.c 6 rfl (.c 7 rfl (.c 8 rfl (.c 9 rfl .n))))))))) ?_
                            refine r_back_2 (n + 1) (sv4) ?_ ?_ (Keep.app (.c 9 rfl (.c 5 rfl .n)) (.c 0 rfl (.c 2 rfl (.c 3 rfl (.c 4 rfl (.c 6 rfl (.c 7 rfl (.c 8 rfl .n)))))))) ?_
                            · omega
                            · omega
                            · rw [← hl4, List.map_set]; first | exact Ent.rfl | (repeat (first | exact Ent.rfl | refine Ent.c (SelB.ent) ?_ | refine Ent.c (SelS.ent) ?_ | refine Ent.cN ?_ | refine Ent.c (SelX.ent) ?_ | refine Ent.dropR ?_))
                      · skip
                        refine o_ng (.s rfl rfl rfl) rfl rfl ?_
                        refine o_ng (.s rfl rfl rfl) rfl rfl ?_
                        refine o_ng (.s rfl rfl rfl) rfl rfl ?_
                        refine o_ng (.s rfl rfl rfl) rfl rfl ?_
                        refine o_ng (.s rfl rfl rfl) rfl rfl ?_
                        refine o_ng (.s rfl rfl rfl) rfl rfl ?_
                        refine l_op (x_p (pv_andf (.n rfl) rfl rfl (fun _ => rfl)) rfl rfl ?_)
                        refine p_mv rfl rfl ?_
                        refine l_op (x_p (pv_mv (.s rfl rfl rfl) rfl rfl (by first | exact fun _ => rfl | exact id | exact fun h => (Bool.and_eq_true_iff.1 h).1 | simp_all)) rfl rfl ?_)
                        refine l_op (x_p (pv_lss (.s rfl rfl rfl) rfl rfl rfl (by refine fun h => ⟨?_, ?_⟩ <;> first | rfl | exact h | exact (Bool.and_eq_true_iff.1 h).1 | simp_all)) rfl rfl ?_)
                        refine l_op (x_p (pv_or (.n rfl) rfl rfl rfl (fun _ => ⟨rfl, fun hc => by first | rfl | (rw [hc]; rfl) | simp_all⟩)) rfl rfl ?_)
                        refine p_mv rfl rfl ?_
                        refine l_op (x_p (pv_mv (.s rfl rfl rfl) rfl rfl (by first | exact fun _ => rfl | exact id | exact fun h => (Bool.and_eq_true_iff.1 h).1 | simp_all)) rfl rfl ?_)
                        refine l_op (x_p (pv_gtr (.s rfl rfl rfl) rfl rfl rfl (by refine fun h => ⟨?_, ?_⟩ <;> first | rfl | exact h | exact (Bool.and_eq_true_iff.1 h).1 | simp_all)) rfl rfl ?_)
                        refine l_op (x_p (pv_or (.n rfl) rfl rfl rfl (fun _ => ⟨rfl, fun hc => by first | rfl | (rw [hc]; rfl) | simp_all⟩)) rfl rfl ?_)
                        refine o_keep (.c 0 rfl (.c 2 rfl (.c 3 rfl (.c 4 rfl (.c 5 rfl (.c 6 rfl (.c 7 rfl (.c 8 rfl (.c 9 rfl (.c 10 rfl (.c 97 rfl .n))))))))))) ?_
                        refine r_cond _ rfl (fun h13 => ?_) (fun h13 => ?_)
                        · exfalso; simp at h13; first | omega | (have e9 := hkeep (by omega) hs0; omega)
                        · skip
                          refine r_skip ?_
                          refine r_seq ?_
                          refine r_seq ?_
                          refine r_region ?_
                          refine p_mv rfl rfl ?_
                          refine p_mv rfl rfl ?_
                          refine l_op (x_p (pv_lens (Rd.len hr3) ⟨_, Try.underlying23⟩ (.n rfl) rfl rfl rfl rfl (fun _ => rfl)) rfl rfl ?_)
                          refine p_geq rfl rfl rfl ?_
                          refine o_keep (.c 0 rfl (.c 2 rfl (.c 3 rfl (.c 4 rfl (.c 5 rfl (.c 6 rfl (.c 7 rfl (.c 8 rfl (.c 9 rfl (.c 10 rfl (.c 101 rfl .n))))))))))) ?_
                          refine r_cut_2 (fun (sv4 : Value) (l4 : List Int) => [(5, true, sv4)]) (.c 0 rfl (.c 2 rfl (.c 3 rfl (.c 4 rfl (.c 6 rfl (.c 7 rfl (.c 8 rfl (.c 9 rfl (.c 10 rfl .n))))))))) (fun (sv4 : Value) (l4 : List Int) => sl sv4 3 1 ((l4).map rI) :: sl o2 3 1 (s1.order.map rI) :: sl o1 3 1 (s.order.map rI) :: brokP bk s1 :: bookP b17 77 [] s1 :: H) (fun (sv4 : Value) (l4 : List Int) => n < l4.length ∧ l4.set n (stateB s1 n) = stP s s1 (n + 1)) ?_ (fun sv4 l4 hI => ?_)
                          · skip
                            refine r_cond _ rfl (fun h14 => ?_) (fun h14 => ?_)
                            · skip
                              have hge : s.l.length ≤ n := by have := of_decide_eq_true h14; simp [stP_len] at this; omega
                              refine r_region ?_
                              refine p_mv rfl rfl ?_
                              refine p_mv rfl rfl ?_
                              refine p_bslice1 Try.underlying23 (.ofC tc_3) zr_3 rfl rfl rfl rfl rfl rfl rfl fun b104 => ?_
                              refine p_append Try.underlying23 el_3 rfl rfl rfl rfl rfl (Rd.blit rfl rfl) (by simp [stP_len]; omega) fun v105 => ?_
                              refine o_rd v105 fun hr105 => ?_
                              refine p_as rfl rfl ?_
                              refine o_keep (.c 0 rfl (.c 2 rfl (.c 3 rfl (.c 4 rfl (.c 5 rfl (.c 6 rfl (.c 7 rfl (.c 8 rfl (.c 9 rfl (.c 10 rfl .n)))))))))) ?_
                              refine r_join_2 (v105) (stP s s1 n ++ [stateB s1 n]) ?_ (Keep.app (.c 5 rfl .n) (.c 0 rfl (.c 2 rfl (.c 3 rfl (.c 4 rfl (.c 6 rfl (.c 7 rfl (.c 8 rfl (.c 9 rfl (.c 10 rfl .n)))))))))) ?_
                              · exact stP_new hge
                              · rw [List.map_append]; first | exact Ent.rfl | (repeat (first | exact Ent.rfl | refine Ent.c (SelB.ent) ?_ | refine Ent.c (SelS.ent) ?_ | refine Ent.cN ?_ | refine Ent.c (SelX.ent) ?_ | refine Ent.dropR ?_))
                            · skip
                              have hge : n < s.l.length := by have := of_decide_eq_false h14; simp [stP_len] at this; omega
                              refine r_skip ?_
                              refine r_join_2 (sv3) (stP s s1 n) ?_ (Keep.app (.c 5 rfl .n) (.c 0 rfl (.c 2 rfl (.c 3 rfl (.c 4 rfl (.c 6 rfl (.c 7 rfl (.c 8 rfl (.c 9 rfl (.c 10 rfl .n)))))))))) ?_
                              · exact stP_old hge
                              · first | exact Ent.rfl | (repeat (first | exact Ent.rfl | refine Ent.c (SelB.ent) ?_ | refine Ent.c (SelS.ent) ?_ | refine Ent.cN ?_ | refine Ent.c (SelX.ent) ?_ | refine Ent.dropR ?_))
                          obtain ⟨hn4, hl4⟩ := hI
                          obtain ⟨z4, h4⟩ := getlt hn4
                          refine r_rd sv4 fun hr4 => ?_
                          refine r_seq ?_
                          refine r_region ?_
                          refine p_mv rfl rfl ?_
                          refine p_mv rfl rfl ?_
                          refine p_mv rfl rfl ?_
                          refine p_idx Try.underlying23 (.ofC tc_3) hr4 rfl (mapget h4) rfl rfl rfl ?_
                          refine p_stel 0 (.ofC tc_3) rfl (mapget h4) rfl rfl rfl rfl rfl (by repeat constructor) ?_
                          refine o_keep (.c 0 rfl (.c 2 rfl (.c 3 rfl (.c 4 rfl (.c 5 rfl (.c 6 rfl (.c 7 rfl (.c 8 rfl (.c 9 rfl (.c 10 rfl .n)))))))))) ?_
                          refine r_seq ?_
                          refine r_region ?_
                          refine p_mv rfl rfl ?_
                          refine p_eql rfl rfl rfl ?_
                          refine p_mv rfl rfl ?_
                          refine p_mv rfl rfl ?_
                          refine p_callv cf_20 (.c rfl (.c rfl .n)) rfl (ref_In _ _ o2 s1.order (n : Int) hro2.own (by omega)) ?_
                          refine l_op (x_p (pv_bne Try.underlying4 (.n rfl) rfl rfl rfl (fun _ => ⟨rfl, rfl⟩)) rfl rfl ?_)
                          refine o_keep (.c 0 rfl (.c 2 rfl (.c 3 rfl (.c 4 rfl (.c 5 rfl (.c 6 rfl (.c 7 rfl (.c 8 rfl (.c 9 rfl (.c 115 rfl .n)))))))))) ?_
                          refine r_cond _ rfl (fun h15 => ?_) (fun h15 => ?_)
                          · exfalso; simp [hor] at h15
                          · skip
                            refine r_skip ?_
                            refine r_end ?_
                            refine r_region ?_
                            refine p_mv rfl rfl ?_
                            refine p_add rfl rfl (by omega) rfl ?_
                            refine p_as rfl rfl ?_
                            refine o_keep (.c 0 rfl (.c 2 rfl (.c 3 rfl (.c 4 rfl (.c 5 rfl (.c 6 rfl (.c 7 rfl (.c 8 rfl (.c 9 rfl .n))))))))) ?_
                            refine r_back_2 (n + 1) (sv4) ?_ ?_ (Keep.app (.c 9 rfl (.c 5 rfl .n)) (.c 0 rfl (.c 2 rfl (.c 3 rfl (.c 4 rfl (.c 6 rfl (.c 7 rfl (.c 8 rfl .n)))))))) ?_
                            · omega
                            · omega
                            · rw [← hl4, List.map_set]; first | exact Ent.rfl | (repeat (first | exact Ent.rfl | refine Ent.c (SelB.ent) ?_ | refine Ent.c (SelS.ent) ?_ | refine Ent.cN ?_ | refine Ent.c (SelX.ent) ?_ | refine Ent.dropR ?_))
                    · skip
                      have hq : ¬ n < s.l.length := by simp [stP_len] at g8; omega
                      refine o_ng (.s rfl rfl rfl) rfl rfl ?_
                      refine o_ng (.s rfl rfl rfl) rfl rfl ?_
                      refine o_ng (.s rfl rfl rfl) rfl rfl ?_
                      refine o_ng (.s rfl rfl rfl) rfl rfl ?_
                      refine o_ng (.s rfl rfl rfl) rfl rfl ?_
                      refine l_op (x_p (pv_andf (.n rfl) rfl rfl (fun _ => rfl)) rfl rfl ?_)
                      refine p_mv rfl rfl ?_
                      refine o_split (t := 82) rfl (fun g16 => ?_) (fun g16 => ?_)
                      · skip
                        have hq2 : n < s.l.length := by first | exact hq | (exfalso; simp at g16)
                        have hs0 : stateB s (n : Nat) ≠ 0 := by first | (intro e; simp [e] at g16; done) | (exfalso; simp at g16)
                        refine o_g (.s rfl rfl rfl) rfl ?_
                        refine p_mv rfl rfl ?_
                        refine o_g (.s rfl rfl rfl) rfl ?_
                        refine p_mv rfl rfl ?_
                        refine o_g (.s rfl rfl rfl) rfl ?_
                        refine p_mv rfl rfl ?_
                        refine o_g (.s rfl rfl rfl) rfl ?_
                        refine p_idx Try.underlying23 (.ofC tc_3) hr3 rfl (mapget (stP_at hq2)) rfl rfl rfl ?_
                        refine o_g (.s rfl rfl rfl) rfl ?_
                        refine p_ldat 0 tc_3 (Rd.ent hr3 (by repeat (first | exact Ent.rfl | exact Ent.one Ent.h | exact Ent.one (SelS.ent) | exact Ent.nil | exact Ent.left | refine Ent.dropR ?_ | refine Ent.tr Ent.skip ?_))) (mapget (stP_at hq2)) rfl rfl rfl rfl ?_
                        refine o_g (.s rfl rfl rfl) rfl ?_
                        refine p_neq rfl rfl rfl ?_
                        refine l_op (x_p (pv_and (.n rfl) rfl rfl rfl (fun _ => ⟨rfl, fun hc => by first | rfl | (rw [hc]; rfl) | simp_all⟩)) rfl rfl ?_)
                        refine p_mv rfl rfl ?_
                        refine l_op (x_p (pv_mv (.s rfl rfl rfl) rfl rfl (by first | exact fun _ => rfl | exact id | exact fun h => (Bool.and_eq_true_iff.1 h).1 | simp_all)) rfl rfl ?_)
                        refine l_op (x_p (pv_lss (.s rfl rfl rfl) rfl rfl rfl (by refine fun h => ⟨?_, ?_⟩ <;> first | rfl | exact h | exact (Bool.and_eq_true_iff.1 h).1 | simp_all)) rfl rfl ?_)
                        refine l_op (x_p (pv_or (.n rfl) rfl rfl rfl (fun _ => ⟨rfl, fun hc => by first | rfl | (rw [hc]; rfl) | simp_all⟩)) rfl rfl ?_)
                        refine p_mv rfl rfl ?_
                        refine l_op (x_p (pv_mv (.s rfl rfl rfl) rfl rfl (by first | exact fun _ => rfl | exact id | exact fun h => (Bool.and_eq_true_iff.1 h).1 | simp_all)) rfl rfl ?_)
                        refine l_op (x_p (pv_gtr (.s rfl rfl rfl) rfl rfl rfl (by refine fun h => ⟨?_, ?_⟩ <;> first | rfl | exact h | exact (Bool.and_eq_true_iff.1 h).1 | simp_all)) rfl rfl ?_)
                        refine l_op (x_p (pv_or (.n rfl) rfl rfl rfl (fun _ => ⟨rfl, fun hc => by first | rfl | (rw [hc]; rfl) | simp_all⟩)) rfl rfl ?_)
                        refine o_keep (.c 0 rfl (.c 2 rfl (.c 3 rfl (.c 4 rfl (.c 5 rfl (.c 6 rfl (.c 7 rfl (.c 8 rfl (.c 9 rfl (.c 10 rfl (.c 97 rfl .n))))))))))) ?_
                        refine r_cond _ rfl (fun h17 => ?_) (fun h17 => ?_)
                        · exfalso; simp at h17; first | omega | (have e9 := hkeep (by omega) hs0; omega)
                        · skip
                          refine r_skip ?_
                          refine r_seq ?_
                          refine r_seq ?_
                          refine r_region ?_
                          refine p_mv rfl rfl ?_
                          refine p_mv rfl rfl ?_
                          refine l_op (x_p (pv_lens (Rd.len hr3) ⟨_, Try.underlying23⟩ (.n rfl) rfl rfl rfl rfl (fun _ => rfl)) rfl rfl ?_)
                          refine p_geq rfl rfl rfl ?_
                          refine o_keep (.c 0 rfl (.c 2 rfl (.c 3 rfl (.c 4 rfl (.c 5 rfl (.c 6 rfl (.c 7 rfl (.c 8 rfl (.c 9 rfl (.c 10 rfl (.c 101 rfl .n))))))))))) ?_
                          refine r_cut_2 (fun (sv4 : Value) (l4 : List Int) => [(5, true, sv4)]) (.c 0 rfl (.c 2 rfl (.c 3 rfl (.c 4 rfl (.c 6 rfl (.c 7 rfl (.c 8 rfl (.c 9 rfl (.c 10 rfl .n))))))))) (fun (sv4 : Value) (l4 : List Int) => sl sv4 3 1 ((l4).map rI) :: sl o2 3 1 (s1.order.map rI) :: sl o1 3 1 (s.order.map rI) :: brokP bk s1 :: bookP b17 77 [] s1 :: H) (fun (sv4 : Value) (l4 : List Int) => n < l4.length ∧ l4.set n (stateB s1 n) = stP s s1 (n + 1)) ?_ (fun sv4 l4 hI => ?_)
                          · skip
                            refine r_cond _ rfl (fun h18 => ?_) (fun h18 => ?_)
                            · skip
                              have hge : s.l.length ≤ n := by have := of_decide_eq_true h18; simp [stP_len] at this; omega
                              refine r_region ?_
                              refine p_mv rfl rfl ?_
                              refine p_mv rfl rfl ?_
                              refine p_bslice1 Try.underlying23 (.ofC tc_3) zr_3 rfl rfl rfl rfl rfl rfl rfl fun b104 => ?_
                              refine p_append Try.underlying23 el_3 rfl rfl rfl rfl rfl (Rd.blit rfl rfl) (by simp [stP_len]; omega) fun v105 => ?_
                              refine o_rd v105 fun hr105 => ?_
                              refine p_as rfl rfl ?_
                              refine o_keep (.c 0 rfl (.c 2 rfl (.c 3 rfl (.c 4 rfl (.c 5 rfl (.c 6 rfl (.c 7 rfl (.c 8 rfl (.c 9 rfl (.c 10 rfl .n)))))))))) ?_
                              refine r_join_2 (v105) (stP s s1 n ++ [stateB s1 n]) ?_ (Keep.app (.c 5 rfl .n) (.c 0 rfl (.c 2 rfl (.c 3 rfl (.c 4 rfl (.c 6 rfl (.c 7 rfl (.c 8 rfl (.c 9 rfl (.c 10 rfl .n)))))))))) ?_
                              · exact stP_new hge
                              · rw [List.map_append]; first | exact Ent.rfl | (repeat (first | exact Ent.rfl | refine Ent.c (SelB.ent) ?_ | refine Ent.c (SelS.ent) ?_ | refine Ent.cN ?_ | refine Ent.c (SelX.ent) ?_ | refine Ent.dropR ?_))
                            · skip
                              have hge : n < s.l.length := by have := of_decide_eq_false h18; simp [stP_len] at this; omega
                              refine r_skip ?_
                              refine r_join_2 (sv3) (stP s s1 n) ?_ (Keep.app (.c 5 rfl .n) (.c 0 rfl (.c 2 rfl (.c 3 rfl (.c 4 rfl (.c 6 rfl (.c 7 rfl (.c 8 rfl (.c 9 rfl (.c 10 rfl .n)))))))))) ?_
                              · exact stP_old hge
                              · first | exact Ent.rfl | (repeat (first | exact Ent.rfl | refine Ent.c (SelB.ent) ?_ | refine Ent.c (SelS.ent) ?_ | refine Ent.cN ?_ | refine Ent.c (SelX.ent) ?_ | refine Ent.dropR ?_))
                          obtain ⟨hn4, hl4⟩ := hI
                          obtain ⟨z4, h4⟩ := getlt hn4
                          refine r_rd sv4 fun hr4 => ?_
                          refine r_seq ?_
                          refine r_region ?_
                          refine p_mv rfl rfl ?_
                          refine p_mv rfl rfl ?_
                          refine p_mv rfl rfl ?_
                          refine p_idx Try.underlying23 (.ofC tc_3) hr4 rfl (mapget h4) rfl rfl rfl ?_
                          refine p_stel 0 (.ofC tc_3) rfl (mapget h4) rfl rfl rfl rfl rfl (by repeat constructor) ?_
                          refine o_keep (.c 0 rfl (.c 2 rfl (.c 3 rfl (.c 4 rfl (.c 5 rfl (.c 6 rfl (.c 7 rfl (.c 8 rfl (.c 9 rfl (.c 10 rfl .n)))))))))) ?_
                          refine r_seq ?_
                          refine r_region ?_
                          refine p_mv rfl rfl ?_
                          refine p_eql rfl rfl rfl ?_
                          refine p_mv rfl rfl ?_
                          refine p_mv rfl rfl ?_
                          refine p_callv cf_20 (.c rfl (.c rfl .n)) rfl (ref_In _ _ o2 s1.order (n : Int) hro2.own (by omega)) ?_
                          refine l_op (x_p (pv_bne Try.underlying4 (.n rfl) rfl rfl rfl (fun _ => ⟨rfl, rfl⟩)) rfl rfl ?_)
                          refine o_keep (.c 0 rfl (.c 2 rfl (.c 3 rfl (.c 4 rfl (.c 5 rfl (.c 6 rfl (.c 7 rfl (.c 8 rfl (.c 9 rfl (.c 115 rfl .n)))))))))) ?_
                          refine r_cond _ rfl (fun h19 => ?_) (fun h19 => ?_)
                          · exfalso; simp [hor] at h19
                          · skip
                            refine r_skip ?_
                            refine r_end ?_
                            refine r_region ?_
                            refine p_mv rfl rfl ?_
                            refine p_add rfl rfl (by omega) rfl ?_
                            refine p_as rfl rfl ?_
                            refine o_keep (.c 0 rfl (.c 2 rfl (.c 3 rfl (.c 4 rfl (.c 5 rfl (.c 6 rfl (.c 7 rfl (.c 8 rfl (.c 9 rfl .n))))))))) ?_
                            refine r_back_2 (n + 1) (sv4) ?_ ?_ (Keep.app (.c 9 rfl (.c 5 rfl .n)) (.c 0 rfl (.c 2 rfl (.c 3 rfl (.c 4 rfl (.c 6 rfl (.c 7 rfl (.c 8 rfl .n)))))))) ?_
                            · omega
                            · omega
                            · rw [← hl4, List.map_set]; first | exact Ent.rfl | (repeat (first | exact Ent.rfl | refine Ent.c (SelB.ent) ?_ | refine Ent.c (SelS.ent) ?_ | refine Ent.cN ?_ | refine Ent.c (SelX.ent) ?_ | refine Ent.dropR ?_))
                      · skip
                        refine o_ng (.s rfl rfl rfl) rfl rfl ?_
                        refine o_ng (.s rfl rfl rfl) rfl rfl ?_
                        refine o_ng (.s rfl rfl rfl) rfl rfl ?_
                        refine o_ng (.s rfl rfl rfl) rfl rfl ?_
                        refine o_ng (.s rfl rfl rfl) rfl rfl ?_
                        refine o_ng (.s rfl rfl rfl) rfl rfl ?_
                        refine l_op (x_p (pv_andf (.n rfl) rfl rfl (fun _ => rfl)) rfl rfl ?_)
                        refine p_mv rfl rfl ?_
                        refine l_op (x_p (pv_mv (.s rfl rfl rfl) rfl rfl (by first | exact fun _ => rfl | exact id | exact fun h => (Bool.and_eq_true_iff.1 h).1 | simp_all)) rfl rfl ?_)
                        refine l_op (x_p (pv_lss (.s rfl rfl rfl) rfl rfl rfl (by refine fun h => ⟨?_, ?_⟩ <;> first | rfl | exact h | exact (Bool.and_eq_true_iff.1 h).1 | simp_all)) rfl rfl ?_)
                        refine l_op (x_p (pv_or (.n rfl) rfl rfl rfl (fun _ => ⟨rfl, fun hc => by first | rfl | (rw [hc]; rfl) | simp_all⟩)) rfl rfl ?_)
                        refine p_mv rfl rfl ?_
                        refine l_op (x_p (pv_mv (.s rfl rfl rfl) rfl rfl (by first | exact fun _ => rfl | exact id | exact fun h => (Bool.and_eq_true_iff.1 h).1 | simp_all)) rfl rfl ?_)
                        refine l_op (x_p (pv_gtr (.s rfl rfl rfl) rfl rfl rfl (by refine fun h => ⟨?_, ?_⟩ <;> first | rfl | exact h | exact (Bool.and_eq_true_iff.1 h).1 | simp_all)) rfl rfl ?_)
                        refine l_op (x_p (pv_or (.n rfl) rfl rfl rfl (fun _ => ⟨rfl, fun hc => by first | rfl | (rw [hc]; rfl) | simp_all⟩)) rfl rfl ?_)
                        refine o_keep (.c 0 rfl (.c 2 rfl (.c 3 rfl (.c 4 rfl (.c 5 rfl (.c 6 rfl (.c 7 rfl (.c 8 rfl (.c 9 rfl (.c 10 rfl (.c 97 rfl .n))))))))))) ?_
                        refine r_cond _ rfl (fun h20 => ?_) (fun h20 => ?_)
                        · exfalso; simp at h20; first | omega | (have e9 := hkeep (by omega) hs0; omega)
                        · skip
                          refine r_skip ?_
                          refine r_seq ?_
                          refine r_seq ?_
                          refine r_region ?_
                          refine p_mv rfl rfl ?_
                          refine p_mv rfl rfl ?_
                          refine l_op (x_p (pv_lens (Rd.len hr3) ⟨_, Try.underlying23⟩ (.n rfl) rfl rfl rfl rfl (fun _ => rfl)) rfl rfl ?_)
                          refine p_geq rfl rfl rfl ?_
                          refine o_keep (.c 0 rfl (.c 2 rfl (.c 3 rfl (.c 4 rfl (.c 5 rfl (.c 6 rfl (.c 7 rfl (.c 8 rfl (.c 9 rfl (.c 10 rfl (.c 101 rfl .n))))))))))) ?_
                          refine r_cut_2 (fun (sv4 : Value) (l4 : List Int) => [(5, true, sv4)]) (.c 0 rfl (.c 2 rfl (.c 3 rfl (.c 4 rfl (.c 6 rfl (.c 7 rfl (.c 8 rfl (.c 9 rfl (.c 10 rfl .n))))))))) (fun (sv4 : Value) (l4 : List Int) => sl sv4 3 1 ((l4).map rI) :: sl o2 3 1 (s1.order.map rI) :: sl o1 3 1 (s.order.map rI) :: brokP bk s1 :: bookP b17 77 [] s1 :: H) (fun (sv4 : Value) (l4 : List Int) => n < l4.length ∧ l4.set n (stateB s1 n) = stP s s1 (n + 1)) ?_ (fun sv4 l4 hI => ?_)
                          · skip
                            refine r_cond _ rfl (fun h21 => ?_) (fun h21 => ?_)
                            · skip
                              have hge : s.l.length ≤ n := by have := of_decide_eq_true h21; simp [stP_len] at this; omega
                              refine r_region ?_
                              refine p_mv rfl rfl ?_
                              refine p_mv rfl rfl ?_
                              refine p_bslice1 Try.underlying23 (.ofC tc_3) zr_3 rfl rfl rfl rfl rfl rfl rfl fun b104 => ?_
                              refine p_append Try.underlying23 el_3 rfl rfl rfl rfl rfl (Rd.blit rfl rfl) (by simp [stP_len]; omega) fun v105 => ?_
                              refine o_rd v105 fun hr105 => ?_
                              refine p_as rfl rfl ?_
                              refine o_keep (.c 0 rfl (.c 2 rfl (.c 3 rfl (.c 4 rfl (.c 5 rfl (.c 6 rfl (.c 7 rfl (.c 8 rfl (.c 9 rfl (.c 10 rfl .n)))))))))) ?_
                              refine r_join_2 (v105) (stP s s1 n ++ [stateB s1 n]) ?_ (Keep.app (.c 5 rfl .n) (.c 0 rfl (.c 2 rfl (.c 3 rfl (.c 4 rfl (.c 6 rfl (.c 7 rfl (.c 8 rfl (.c 9 rfl (.c 10 rfl .n)))))))))) ?_
                              · exact stP_new hge
                              · rw [List.map_append]; first | exact Ent.rfl | (repeat (first | exact Ent.rfl | refine Ent.c (SelB.ent) ?_ | refine Ent.c (SelS.ent) ?_ | refine Ent.cN ?_ | refine Ent.c (SelX.ent) ?_ | refine Ent.dropR ?_))
                            · skip
                              have hge : n < s.l.length := by have := of_decide_eq_false h21; simp [stP_len] at this; omega
                              refine r_skip ?_
                              refine r_join_2 (sv3) (stP s s1 n) ?_ (Keep.app (.c 5 rfl .n) (.c 0 rfl (.c 2 rfl (.c 3 rfl (.c 4 rfl (.c 6 rfl (.c 7 rfl (.c 8 rfl (.c 9 rfl (.c 10 rfl .n)))))))))) ?_
                              · exact stP_old hge
                              · first | exact Ent.rfl | (repeat (first | exact Ent.rfl | refine Ent.c (SelB.ent) ?_ | refine Ent.c (SelS.ent) ?_ | refine Ent.cN ?_ | refine Ent.c (SelX.ent) ?_ | refine Ent.dropR ?_))
                          obtain ⟨hn4, hl4⟩ := hI
                          obtain ⟨z4, h4⟩ := getlt hn4
                          refine r_rd sv4 fun hr4 => ?_
                          refine r_seq ?_
                          refine r_region ?_
                          refine p_mv rfl rfl ?_
                          refine p_mv rfl rfl ?_
                          refine p_mv rfl rfl ?_
                          refine p_idx Try.underlying23 (.ofC tc_3) hr4 rfl (mapget h4) rfl rfl rfl ?_
                          refine p_stel 0 (.ofC tc_3) rfl (mapget h4) rfl rfl rfl rfl rfl (by repeat constructor) ?_
                          refine o_keep (.c 0 rfl (.c 2 rfl (.c 3 rfl (.c 4 rfl (.c 5 rfl (.c 6 rfl (.c 7 rfl (.c 8 rfl (.c 9 rfl (.c 10 rfl .n)))))))))) ?_
                          refine r_seq ?_
                          refine r_region ?_
                          refine p_mv rfl rfl ?_
                          refine p_eql rfl rfl rfl ?_
                          refine p_mv rfl rfl ?_
                          refine p_mv rfl rfl ?_
                          refine p_callv cf_20 (.c rfl (.c rfl .n)) rfl (ref_In _ _ o2 s1.order (n : Int) hro2.own (by omega)) ?_
                          refine l_op (x_p (pv_bne Try.underlying4 (.n rfl) rfl rfl rfl (fun _ => ⟨rfl, rfl⟩)) rfl rfl ?_)
                          refine o_keep (.c 0 rfl (.c 2 rfl (.c 3 rfl (.c 4 rfl (.c 5 rfl (.c 6 rfl (.c 7 rfl (.c 8 rfl (.c 9 rfl (.c 115 rfl .n)))))))))) ?_
                          refine r_cond _ rfl (fun h22 => ?_) (fun h22 => ?_)
                          · exfalso; simp [hor] at h22
                          · skip
                            refine r_skip ?_
                            refine r_end ?_
                            refine r_region ?_
                            refine p_mv rfl rfl ?_
                            refine p_add rfl rfl (by omega) rfl ?_
                            refine p_as rfl rfl ?_
                            refine o_keep (.c 0 rfl (.c 2 rfl (.c 3 rfl (.c 4 rfl (.c 5 rfl (.c 6 rfl (.c 7 rfl (.c 8 rfl (.c 9 rfl .n))))))))) ?_
                            refine r_back_2 (n + 1) (sv4) ?_ ?_ (Keep.app (.c 9 rfl (.c 5 rfl .n)) (.c 0 rfl (.c 2 rfl (.c 3 rfl (.c 4 rfl (.c 6 rfl (.c 7 rfl (.c 8 rfl .n)))))))) ?_
                            · omega
                            · omega
                            · rw [← hl4, List.map_set]; first | exact Ent.rfl | (repeat (first | exact Ent.rfl | refine Ent.c (SelB.ent) ?_ | refine Ent.c (SelS.ent) ?_ | refine Ent.cN ?_ | refine Ent.c (SelX.ent) ?_ | refine Ent.dropR ?_))
                  · skip
                    obtain rfl : n = s1.l.length := by have := of_decide_eq_false h7; omega
                    rw [stP_all hsr.len]
                    refine r_exit rfl ?_
                    refine r_seq ?_
                    refine r_region ?_
                    refine p_mv rfl rfl ?_
                    refine l_op (x_p (pv_lens (Rd.len hro2) ⟨_, Try.underlying23⟩ (.n rfl) rfl rfl rfl rfl (fun _ => rfl)) rfl rfl ?_)
                    refine p_mv rfl rfl ?_
                    refine l_op (x_p (pv_lens (Rd.len hro1) ⟨_, Try.underlying23⟩ (.n rfl) rfl rfl rfl rfl (fun _ => rfl)) rfl rfl ?_)
                    refine p_gtr rfl rfl rfl ?_
                    refine p_mv rfl rfl ?_
                    refine o_split (t := 121) rfl (fun g23 => ?_) (fun g23 => ?_)
                    · skip
                      obtain ⟨q, hqq, hqn⟩ := hsr.more (by simp at g23; omega)
                      refine o_g (.s rfl rfl rfl) rfl ?_
                      refine p_mv rfl rfl ?_
                      refine o_g (.s rfl rfl rfl) rfl ?_
                      refine p_mv rfl rfl ?_
                      refine o_g (.s rfl rfl rfl) rfl ?_
                      refine p_mv rfl rfl ?_
                      refine o_g (.s rfl rfl rfl) rfl ?_
                      refine l_op (x_p (pv_lens (Rd.len hro1) ⟨_, Try.underlying23⟩ (.n rfl) rfl rfl rfl rfl (fun _ => rfl)) rfl rfl ?_)
                      refine o_g (.s rfl rfl rfl) rfl ?_
                      refine p_idx Try.underlying23 (.ofC tc_3) hro2 rfl (mapget hqq) rfl rfl rfl ?_
                      refine o_g (.s rfl rfl rfl) rfl ?_
                      refine p_ldat 0 tc_3 (Rd.ent hro2 (by repeat (first | exact Ent.rfl | exact Ent.one Ent.h | exact Ent.one (SelS.ent) | exact Ent.nil | exact Ent.left | refine Ent.dropR ?_ | refine Ent.tr Ent.skip ?_))) (mapget hqq) rfl rfl rfl rfl ?_
                      refine o_g (.s rfl rfl rfl) rfl ?_
                      refine p_callv cf_20 (.c rfl (.c rfl .n)) rfl (ref_In _ _ o1 s.order q hro1.own (by omega)) ?_
                      refine l_op (x_p (pv_and (.n rfl) rfl rfl rfl (fun _ => ⟨rfl, fun hc => by first | rfl | (rw [hc]; rfl) | simp_all⟩)) rfl rfl ?_)
                      refine o_keep (.c 0 rfl (.c 2 rfl (.c 3 rfl (.c 4 rfl (.c 5 rfl (.c 6 rfl (.c 129 rfl .n))))))) ?_
                      refine r_cond _ rfl (fun h24 => ?_) (fun h24 => ?_)
                      · exfalso; first | (simp at h24; done) | (simp at h24; exact absurd h24 (by simpa using hqn))
                      · skip
                        refine r_skip ?_
                        refine r_end ?_
                        refine r_region ?_
                        refine p_mv rfl rfl ?_
                        refine p_add rfl rfl (by omega) rfl ?_
                        refine p_as rfl rfl ?_
                        refine o_keep (.c 0 rfl (.c 2 rfl (.c 3 rfl (.c 4 rfl (.c 5 rfl (.c 6 rfl .n)))))) ?_
                        refine r_back_3 (i + 1) (s1) (sv3) ?_ ?_ (Keep.app (.c 6 rfl (.c 5 rfl .n)) (.c 0 rfl (.c 2 rfl (.c 3 rfl (.c 4 rfl .n))))) ?_
                        · exact ⟨by omega, hI1⟩
                        · omega
                        · first | exact Ent.rfl | (repeat (first | exact Ent.rfl | refine Ent.c (SelB.ent) ?_ | refine Ent.c (SelS.ent) ?_ | refine Ent.cN ?_ | refine Ent.c (SelX.ent) ?_ | refine Ent.dropR ?_))
                    · skip
                      refine o_ng (.s rfl rfl rfl) rfl rfl ?_
                      refine o_ng (.s rfl rfl rfl) rfl rfl ?_
                      refine o_ng (.s rfl rfl rfl) rfl rfl ?_
                      refine o_ng (.s rfl rfl rfl) rfl rfl ?_
                      refine o_ng (.s rfl rfl rfl) rfl rfl ?_
                      refine o_ng (.s rfl rfl rfl) rfl rfl ?_
                      refine o_ng (.s rfl rfl rfl) rfl rfl ?_
                      refine l_op (x_p (pv_andf (.n rfl) rfl rfl (fun _ => rfl)) rfl rfl ?_)
                      refine o_keep (.c 0 rfl (.c 2 rfl (.c 3 rfl (.c 4 rfl (.c 5 rfl (.c 6 rfl (.c 129 rfl .n))))))) ?_
                      refine r_cond _ rfl (fun h25 => ?_) (fun h25 => ?_)
                      · exfalso; first | (simp at h25; done) | (simp at h25; exact absurd h25 (by simpa using hqn))
                      · skip
                        refine r_skip ?_
                        refine r_end ?_
                        refine r_region ?_
                        refine p_mv rfl rfl ?_
                        refine p_add rfl rfl (by omega) rfl ?_
                        refine p_as rfl rfl ?_
                        refine o_keep (.c 0 rfl (.c 2 rfl (.c 3 rfl (.c 4 rfl (.c 5 rfl (.c 6 rfl .n)))))) ?_
                        refine r_back_3 (i + 1) (s1) (sv3) ?_ ?_ (Keep.app (.c 6 rfl (.c 5 rfl .n)) (.c 0 rfl (.c 2 rfl (.c 3 rfl (.c 4 rfl .n))))) ?_
                        · exact ⟨by omega, hI1⟩
                        · omega
                        · first | exact Ent.rfl | (repeat (first | exact Ent.rfl | refine Ent.c (SelB.ent) ?_ | refine Ent.c (SelS.ent) ?_ | refine Ent.cN ?_ | refine Ent.c (SelX.ent) ?_ | refine Ent.dropR ?_))
        · skip
          refine r_exit rfl ?_
          refine r_seq ?_
          refine r_region ?_
          refine p_as rfl rfl ?_
          refine o_keep (.c 2 rfl .n) ?_
          refine r_retv hF rfl (.c (.t rfl) .n) ?_ ?_
          · first | exact Ent.rfl | (repeat (first | exact Ent.rfl | refine Ent.c (SelB.ent) ?_ | refine Ent.c (SelS.ent) ?_ | refine Ent.cN ?_ | refine Ent.c (SelX.ent) ?_ | refine Ent.dropR ?_))
          · rfl

end Go.Proofs.Ytmakdilmibjpbab
