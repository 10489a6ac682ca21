/- The walks of CountNever: written by a program of ours (gen.py) over the engine. -/
import Derived.Test.YtmakdilmibjpbaaPlain
import Derived.Test.YtmakdilmibjpbaaFacts
import Derived.Test.YtmakdilmibjpbaaCountLaws
namespace Go.Proofs.Ytmakdilmibjpbaa
open Go Go.RowKit
set_option linter.unusedVariables false
set_option linter.unusedSimpArgs false

def sumO (l : List Int) : Int := (l.map fun n => if n < 0 then -n else 0).sum
def sumI (l : List Int) : Int := (l.map fun n => if n < 0 then 0 else n).sum
structure HeldInv (c : Cnt) (hs : List Int) : Prop where
  chk : chk c = 0
  dlt : ∀ n ∈ hs, dlt n = 0
  o : c.o = sumO hs
  i : c.i = sumI hs
theorem sum_nn : ∀ (l : List Int) (f : Int → Int), (∀ n, 0 ≤ f n) → 0 ≤ (l.map f).sum
  | [], _, _ => by simp
  | n :: l, f, h => by have := sum_nn l f h; have := h n; simp; omega
theorem sum_at : ∀ (l : List Int) (f : Int → Int) (k : Nat) (n : Int), l[k]? = some n → (l.map f).sum = f n + ((l.take k ++ l.drop (k + 1)).map f).sum
  | [], _, _, _, h => by simp at h
  | m :: l, f, 0, n, h => by simp at h; subst h; simp
  | m :: l, f, k + 1, n, h => by
    have := sum_at l f k n (by simpa using h)
    simp only [List.map_cons, List.sum_cons, List.take_succ_cons, List.drop_succ_cons, List.cons_append]
    omega
theorem mem_at {α : Type} {l : List α} {k : Nat} {n : α} (h : n ∈ l.take k ++ l.drop (k + 1)) : n ∈ l := by
  rcases List.mem_append.1 h with h | h
  · exact List.mem_of_mem_take h
  · exact List.mem_of_mem_drop h
theorem HeldInv.start {v : Int} (h : Go.Proofs.Ytmakdilmibjpbaa.chk ⟨v, 0, 0⟩ = 0) : HeldInv ⟨v, 0, 0⟩ [] := ⟨h, by simp, rfl, rfl⟩
theorem HeldInv.add {c : Cnt} {hs : List Int} {n : Int} (h : HeldInv c hs) (e : (hold c n).2 = 0) : HeldInv (hold c n).1 (hs ++ [n]) := by
  have hk := hold_chk e
  obtain ⟨h1, h2, h3⟩ := hold_ok e
  refine ⟨hk, fun m hm => ?_, ?_, ?_⟩
  · rcases List.mem_append.1 hm with hm | hm
    · exact h.dlt m hm
    · simp at hm; subst hm; exact h2
  · have := h.o
    unfold sumO at this ⊢
    rcases h3 with ⟨h3, _, e⟩ | ⟨h3, _, e⟩ <;> rw [e] <;> simp only [List.map_append, List.map_cons, List.map_nil, List.sum_append, List.sum_cons, List.sum_nil] <;> first | (rw [if_pos h3]; omega) | (rw [if_neg (by omega)]; omega)
  · have := h.i
    unfold sumI at this ⊢
    rcases h3 with ⟨h3, _, e⟩ | ⟨h3, _, e⟩ <;> rw [e] <;> simp only [List.map_append, List.map_cons, List.map_nil, List.sum_append, List.sum_cons, List.sum_nil] <;> first | (rw [if_pos h3]; omega) | (rw [if_neg (by omega)]; omega)
theorem HeldInv.fin {c : Cnt} {hs : List Int} {k : Nat} {n : Int} (d : Bool) (h : HeldInv c hs) (hk : hs[k]? = some n) :
    (endc c n d).2 = 0 ∧ c.v - c.o ≤ (endc c n d).1.v - (endc c n d).1.o ∧ (endc c n d).1.v + (endc c n d).1.i ≤ c.v + c.i ∧ HeldInv (endc c n d).1 (hs.take k ++ hs.drop (k + 1)) := by
  have hd := h.dlt n (List.mem_of_getElem? hk)
  have hdd := dlt_ok hd
  have ho := h.o; have hi := h.i
  unfold sumO at ho; unfold sumI at hi
  rw [sum_at _ _ _ _ hk] at ho hi
  have no := sum_nn (hs.take k ++ hs.drop (k + 1)) (fun n => if n < 0 then -n else 0) (fun n => by split <;> omega)
  have ni := sum_nn (hs.take k ++ hs.drop (k + 1)) (fun n => if n < 0 then 0 else n) (fun n => by split <;> omega)
  have e1 : n < 0 → -n ≤ c.o := fun hn => by rw [if_pos hn] at ho; omega
  have e2 : 0 < n → n ≤ c.i := fun hn => by rw [if_neg (by omega)] at hi; omega
  have hc := endc_chk (d := d) h.chk hd e1 e2
  rw [endc_ok d h.chk hd e1 e2] at hc ⊢
  refine ⟨rfl, ?_, ?_, hc, fun m hm => h.dlt m (mem_at hm), ?_, ?_⟩
  · cases d <;> by_cases hn : n < 0 <;> simp [hn] <;> omega
  · cases d <;> by_cases hn : n < 0 <;> simp [hn] <;> omega
  · unfold sumO; by_cases hn : n < 0 <;> simp only [hn, if_true, if_false] at ho ⊢ <;> omega
  · unfold sumI; by_cases hn : n < 0 <;> simp only [hn, if_true, if_false] at hi ⊢ <;> omega

theorem law_CountNever (M : Amb) (H : List HP) (v : Int) (lv ev : Value) (ls : List Int) (es : List Bool) (hl : Rd M [] lv 1 (ls.map rI)) (he : Rd M [] ev 1 (es.map rB)) : FnV Try.prog M H 8 [.int .i64 v, lv, ev] (.bool true) := by
  refine fn_intro Try.func8 rfl Try.ntmps8 rfl fun F hF => ?_
  refine r_seq ?_
  refine r_region ?_
  refine p_as rfl rfl ?_
  refine o_keep (.c 0 rfl (.c 1 rfl (.c 2 rfl (.c 6 rfl .n)))) ?_
  refine r_seq ?_
  refine r_seq ?_
  refine r_region ?_
  refine p_callv cf_25 (.n) rfl (law_countBegun _ _) ?_
  refine p_not rfl rfl ?_
  refine o_keep (.c 0 rfl (.c 1 rfl (.c 2 rfl (.c 6 rfl (.c 20 rfl .n))))) ?_
  refine r_cond _ rfl (fun h1 => ?_) (fun h1 => ?_)
  · simp at h1
  · try simp only [Bool.and_eq_true, Bool.or_eq_true, Bool.or_eq_false_iff, Bool.not_eq_true', Bool.not_eq_false', decide_eq_true_eq, decide_eq_false_iff_not, Bool.and_eq_false_iff] at h1
    refine r_skip ?_
    refine r_seq ?_
    refine r_region ?_
    refine p_mv rfl rfl ?_
    refine p_build zr_45 pl_45 (.c rfl (fun _ => rfl) rfl rfl rfl (by repeat constructor) .n) rfl ?_
    refine p_alloc zr_45 rfl fun b7 => ?_
    refine p_store (.ofA ta_45) rfl rfl rfl rfl rfl (by repeat constructor) ?_
    refine o_keep (.c 1 rfl (.c 2 rfl (.c 6 rfl (.c 7 rfl .n)))) ?_
    refine r_seq ?_
    refine r_seq ?_
    refine r_region ?_
    refine p_mv rfl rfl ?_
    refine l_op (x_p (pv_lens hl.len ⟨_, Try.underlying53⟩ (.n rfl) rfl rfl rfl rfl (fun _ => rfl)) rfl rfl ?_)
    refine p_gtr rfl rfl rfl ?_
    refine p_mv rfl rfl ?_
    refine l_op (x_p (pv_mv (.s rfl rfl rfl) rfl rfl (by first | exact fun _ => rfl | exact id | exact fun h => (Bool.and_eq_true_iff.1 h).1 | simp_all)) rfl rfl ?_)
    refine l_op (x_p (pv_lens he.len ⟨_, Try.underlying54⟩ (.s rfl rfl rfl) rfl rfl rfl rfl (by first | exact fun _ => rfl | exact id | exact fun h => (Bool.and_eq_true_iff.1 h).1 | simp_all)) rfl rfl ?_)
    refine l_op (x_p (pv_gtr (.s rfl rfl rfl) rfl rfl rfl (by refine fun h => ⟨?_, ?_⟩ <;> first | rfl | exact h | exact (Bool.and_eq_true_iff.1 h).1 | simp_all)) rfl rfl ?_)
    refine l_op (x_p (pv_or (.n rfl) rfl rfl rfl (fun _ => ⟨rfl, fun hc => by first | rfl | (rw [hc]; rfl) | simp_all⟩)) rfl rfl ?_)
    refine p_mv rfl rfl ?_
    refine l_op (x_r (q_lda ta_45 (.s rfl rfl rfl) rfl rfl (by first | exact fun _ => rfl | exact id | exact fun h => (Bool.and_eq_true_iff.1 h).1 | simp_all) (.s (.s (.s .z)))) rfl rfl ?_)
    refine l_op (x_q (rq_call cf_31 (.s rfl rfl rfl) rfl (.c rfl (by first | exact fun _ => rfl | exact id | exact fun h => (Bool.and_eq_true_iff.1 h).1 | simp_all) .n) (fun hg => ref_CountFault _ _ _ _ _)) rfl rfl ?_)
    refine l_op (x_p (pv_neq (.s rfl rfl rfl) rfl rfl rfl (by refine fun h => ⟨?_, ?_⟩ <;> first | rfl | exact h | exact (Bool.and_eq_true_iff.1 h).1 | simp_all)) rfl rfl ?_)
    refine l_op (x_p (pv_or (.n rfl) rfl rfl rfl (fun _ => ⟨rfl, fun hc => by first | rfl | (rw [hc]; rfl) | simp_all⟩)) rfl rfl ?_)
    refine o_keep (.c 1 rfl (.c 2 rfl (.c 6 rfl (.c 7 rfl (.c 35 rfl .n))))) ?_
    refine r_cond _ rfl (fun h2 => ?_) (fun h2 => ?_)
    · try simp only [Bool.and_eq_true, Bool.or_eq_true, Bool.or_eq_false_iff, Bool.not_eq_true', Bool.not_eq_false', decide_eq_true_eq, decide_eq_false_iff_not, Bool.and_eq_false_iff] at h2
      refine r_seq ?_
      refine r_region ?_
      refine p_as rfl rfl ?_
      refine o_keep (.c 1 rfl (.c 2 rfl (.c 6 rfl (.c 7 rfl .n)))) ?_
      refine r_retv hF rfl (.c (.t rfl) .n) ?_ ?_
      · first | exact Ent.rfl | (repeat (first | exact Ent.rfl | refine Ent.c (SelB.ent) ?_ | refine Ent.c (SelS.ent) ?_ | refine Ent.cN ?_ | refine Ent.c (SelX.ent) ?_ | refine Ent.dropR ?_))
      · rfl
    · try simp only [Bool.and_eq_true, Bool.or_eq_true, Bool.or_eq_false_iff, Bool.not_eq_true', Bool.not_eq_false', decide_eq_true_eq, decide_eq_false_iff_not, Bool.and_eq_false_iff] at h2
      obtain ⟨⟨hL, hE⟩, hC⟩ := h2
      refine r_skip ?_
      refine r_seq ?_
      refine r_region ?_
      refine p_as rfl rfl ?_
      refine o_keep (.c 1 rfl (.c 2 rfl (.c 6 rfl (.c 7 rfl (.c 8 rfl .n))))) ?_
      refine r_seq ?_
      refine r_seq ?_
      refine r_region ?_
      refine p_as rfl rfl ?_
      refine o_keep (.c 1 rfl (.c 2 rfl (.c 6 rfl (.c 7 rfl (.c 8 rfl (.c 9 rfl .n)))))) ?_
      refine r_block ?_
      refine r_loop_6 (fun (k : Nat) (c o i : Int) (hv : Value) (hs : List Int) => [(9, true, .int .i64 (k : Int)), (8, true, hv)]) (.c 1 rfl (.c 2 rfl (.c 6 rfl (.c 7 rfl .n)))) (fun (k : Nat) (c o i : Int) (hv : Value) (hs : List Int) => blk b7 [.int .i64 c, .int .i64 o, .int .i64 i] 45 :: sl hv 3 1 (hs.map rI) :: H) (fun (k : Nat) (c o i : Int) (hv : Value) (hs : List Int) => k ≤ ls.length ∧ hs.length ≤ k ∧ HeldInv ⟨c, o, i⟩ hs) (fun (k : Nat) (c o i : Int) (hv : Value) (hs : List Int) => ls.length - k) (0) (v) (0) (0) (.slice Option.none 0 0) ([]) ?_ (.c 9 rfl (.c 8 rfl .n)) ?_ (fun k c o i hv hs hI => ?_)
      · exact ⟨Nat.zero_le _, Nat.le_refl _, .start hC⟩
      · first | exact Ent.rfl | (repeat (first | exact Ent.rfl | refine Ent.c (SelB.ent) ?_ | refine Ent.c (SelS.ent) ?_ | refine Ent.cN ?_ | refine Ent.c (SelX.ent) ?_ | refine Ent.dropR ?_))
      · skip
        obtain ⟨hk, hh, hI⟩ := hI
        refine r_seq ?_
        refine r_seq ?_
        refine r_region ?_
        refine p_mv rfl rfl ?_
        refine p_mv rfl rfl ?_
        refine l_op (x_p (pv_lens hl.len ⟨_, Try.underlying53⟩ (.n rfl) rfl rfl rfl rfl (fun _ => rfl)) rfl rfl ?_)
        refine p_lss rfl rfl rfl ?_
        refine o_keep (.c 1 rfl (.c 2 rfl (.c 6 rfl (.c 7 rfl (.c 8 rfl (.c 9 rfl (.c 39 rfl .n))))))) ?_
        refine r_cond _ rfl (fun h3 => ?_) (fun h3 => ?_)
        · try simp only [Bool.and_eq_true, Bool.or_eq_true, Bool.or_eq_false_iff, Bool.not_eq_true', Bool.not_eq_false', decide_eq_true_eq, decide_eq_false_iff_not, Bool.and_eq_false_iff] at h3
          obtain ⟨n, hn⟩ := getlt (l := ls) (i := k) (by omega)
          refine r_skip ?_
          refine r_seq ?_
          refine r_block ?_
          refine r_seq ?_
          refine r_region ?_
          refine p_mv rfl rfl ?_
          refine p_mv rfl rfl ?_
          refine p_idx Try.underlying53 (.ofC tc_3) hl rfl (mapget hn) rfl rfl rfl ?_
          refine p_ldat 0 tc_3 (Rd.ent hl (by repeat (first | exact Ent.rfl | exact Ent.one Ent.h | exact Ent.one (SelS.ent) | exact Ent.nil | refine Ent.dropR ?_ | refine Ent.tr Ent.skip ?_))) (mapget hn) rfl rfl rfl rfl ?_
          refine p_as rfl rfl ?_
          refine o_keep (.c 1 rfl (.c 2 rfl (.c 6 rfl (.c 7 rfl (.c 8 rfl (.c 9 rfl (.c 10 rfl .n))))))) ?_
          refine r_seq ?_
          refine r_seq ?_
          refine r_region ?_
          refine p_lda ta_45 rfl (.s (.s (.s .z))) rfl ?_
          refine p_mv rfl rfl ?_
          refine p_callv cf_26 (.c rfl (.c rfl .n)) rfl (count_Hold _ _ _ _ _ _) ?_
          refine p_mv rfl rfl ?_
          refine p_ext rfl rfl rfl ?_
          refine p_ext rfl rfl rfl ?_
          refine p_alloc zr_45 rfl fun b11 => ?_
          refine p_store (.ofA ta_45) rfl rfl rfl rfl rfl (by repeat constructor) ?_
          refine p_as rfl rfl ?_
          refine o_keep (.c 1 rfl (.c 2 rfl (.c 6 rfl (.c 7 rfl (.c 8 rfl (.c 9 rfl (.c 10 rfl (.c 11 rfl (.c 12 rfl .n))))))))) ?_
          refine r_seq ?_
          refine r_region ?_
          refine p_mv rfl rfl ?_
          refine p_eql rfl rfl rfl ?_
          refine o_keep (.c 1 rfl (.c 2 rfl (.c 6 rfl (.c 7 rfl (.c 8 rfl (.c 9 rfl (.c 10 rfl (.c 11 rfl (.c 53 rfl .n))))))))) ?_
          refine r_cut_5 (fun (c1 o1 i1 : Int) (hv1 : Value) (hs1 : List Int) => [(8, true, hv1)]) (.c 1 rfl (.c 2 rfl (.c 6 rfl (.c 7 rfl (.c 9 rfl (.c 10 rfl .n)))))) (fun (c1 o1 i1 : Int) (hv1 : Value) (hs1 : List Int) => blk b7 [.int .i64 c1, .int .i64 o1, .int .i64 i1] 45 :: sl hv1 3 1 (hs1.map rI) :: H) (fun (c1 o1 i1 : Int) (hv1 : Value) (hs1 : List Int) => hs1.length ≤ k + 1 ∧ HeldInv ⟨c1, o1, i1⟩ hs1) ?_ (fun c1 o1 i1 hv1 hs1 hI => ?_)
          · skip
            refine r_cond _ rfl (fun h4 => ?_) (fun h4 => ?_)
            · try simp only [Bool.and_eq_true, Bool.or_eq_true, Bool.or_eq_false_iff, Bool.not_eq_true', Bool.not_eq_false', decide_eq_true_eq, decide_eq_false_iff_not, Bool.and_eq_false_iff] at h4
              refine r_seq ?_
              refine r_region ?_
              refine p_lda ta_45 rfl (.s (.s (.s .z))) rfl ?_
              refine p_store (.ofA ta_45) rfl rfl rfl rfl rfl (by repeat constructor) ?_
              refine o_keep (.c 1 rfl (.c 2 rfl (.c 6 rfl (.c 7 rfl (.c 8 rfl (.c 9 rfl (.c 10 rfl .n))))))) ?_
              refine r_region ?_
              refine p_mv rfl rfl ?_
              refine p_mv rfl rfl ?_
              refine p_bslice1 Try.underlying53 (.ofC tc_3) zr_3 rfl rfl rfl rfl rfl rfl rfl fun b57 => ?_
              refine p_append Try.underlying53 el_3 rfl rfl rfl rfl rfl (Rd.blit rfl rfl) (by simp; omega) fun v58 => ?_
              refine p_as rfl rfl ?_
              refine o_keep (.c 1 rfl (.c 2 rfl (.c 6 rfl (.c 7 rfl (.c 8 rfl (.c 9 rfl (.c 10 rfl .n))))))) ?_
              refine r_join_5 ((hold ⟨c, o, i⟩ n).1.v) ((hold ⟨c, o, i⟩ n).1.o) ((hold ⟨c, o, i⟩ n).1.i) (_) (hs ++ [n]) ?_ (Keep.app (.c 8 rfl .n) (.c 1 rfl (.c 2 rfl (.c 6 rfl (.c 7 rfl (.c 9 rfl (.c 10 rfl .n))))))) ?_
              · exact ⟨by simp; omega, hI.add (by assumption)⟩
              · rw [List.map_append]; first | exact Ent.rfl | (repeat (first | exact Ent.rfl | refine Ent.c (SelB.ent) ?_ | refine Ent.c (SelS.ent) ?_ | refine Ent.cN ?_ | refine Ent.c (SelX.ent) ?_ | refine Ent.dropR ?_))
            · try simp only [Bool.and_eq_true, Bool.or_eq_true, Bool.or_eq_false_iff, Bool.not_eq_true', Bool.not_eq_false', decide_eq_true_eq, decide_eq_false_iff_not, Bool.and_eq_false_iff] at h4
              refine r_skip ?_
              refine r_join_5 (c) (o) (i) (hv) (hs) ?_ (Keep.app (.c 8 rfl .n) (.c 1 rfl (.c 2 rfl (.c 6 rfl (.c 7 rfl (.c 9 rfl (.c 10 rfl .n))))))) ?_
              · exact ⟨by omega, hI⟩
              · first | exact Ent.rfl | (repeat (first | exact Ent.rfl | refine Ent.c (SelB.ent) ?_ | refine Ent.c (SelS.ent) ?_ | refine Ent.cN ?_ | refine Ent.c (SelX.ent) ?_ | refine Ent.dropR ?_))
          obtain ⟨hk1, hI⟩ := hI
          have hq := chk_ok hI.chk
          have hz := hI.chk
          simp only at hq
          refine r_seq ?_
          refine r_seq ?_
          refine r_rd hv1 fun hr => ?_
          refine r_region ?_
          refine p_mv rfl rfl ?_
          refine p_mv rfl rfl ?_
          refine l_op (x_p (pv_lens he.len ⟨_, Try.underlying54⟩ (.n rfl) rfl rfl rfl rfl (fun _ => rfl)) rfl rfl ?_)
          refine p_lss rfl rfl rfl ?_
          refine p_mv rfl rfl ?_
          refine l_op (x_p (pv_mv (.s rfl rfl rfl) rfl rfl (by first | exact fun _ => rfl | exact id | exact fun h => (Bool.and_eq_true_iff.1 h).1 | simp_all)) rfl rfl ?_)
          refine l_op (x_p (pv_lens (Rd.len hr) ⟨_, Try.underlying53⟩ (.s rfl rfl rfl) rfl rfl rfl rfl (by first | exact fun _ => rfl | exact id | exact fun h => (Bool.and_eq_true_iff.1 h).1 | simp_all)) rfl rfl ?_)
          refine l_op (x_p (pv_gtr (.s rfl rfl rfl) rfl rfl rfl (by refine fun h => ⟨?_, ?_⟩ <;> first | rfl | exact h | exact (Bool.and_eq_true_iff.1 h).1 | simp_all)) rfl rfl ?_)
          refine l_op (x_p (pv_and (.n rfl) rfl rfl rfl (fun _ => ⟨rfl, fun hc => by first | rfl | (rw [hc]; rfl) | simp_all⟩)) rfl rfl ?_)
          refine o_keep (.c 1 rfl (.c 2 rfl (.c 6 rfl (.c 7 rfl (.c 8 rfl (.c 9 rfl (.c 10 rfl (.c 67 rfl .n)))))))) ?_
          refine r_cond _ rfl (fun h5 => ?_) (fun h5 => ?_)
          · try simp only [Bool.and_eq_true, Bool.or_eq_true, Bool.or_eq_false_iff, Bool.not_eq_true', Bool.not_eq_false', decide_eq_true_eq, decide_eq_false_iff_not, Bool.and_eq_false_iff] at h5
            obtain ⟨ha, hp⟩ := h5
            obtain ⟨d, hb⟩ := getlt (l := es) (i := k) (by omega)
            have hrl := rnd_lt (n := n) (L := hs1.length) (by omega)
            obtain ⟨m, hm⟩ := getlt hrl
            obtain ⟨f1, f2, f3, f4⟩ := hI.fin d hm
            have hq2 := chk_ok f4.chk
            have hz2 : chk ⟨(endc ⟨c1, o1, i1⟩ m d).1.v, (endc ⟨c1, o1, i1⟩ m d).1.o, (endc ⟨c1, o1, i1⟩ m d).1.i⟩ = 0 := f4.chk
            simp only at f2 f3
            refine r_seq ?_
            refine r_region ?_
            refine p_mv rfl rfl ?_
            refine l_op (x_p (pv_conv Try.underlying3 Try.underlying42 (.n rfl) rfl rfl (fun _ => rfl)) rfl rfl ?_)
            refine p_mv rfl rfl ?_
            refine l_op (x_p (pv_lens (Rd.len hr) ⟨_, Try.underlying53⟩ (.n rfl) rfl rfl rfl rfl (fun _ => rfl)) rfl rfl ?_)
            refine l_op (x_p (pv_conv Try.underlying3 Try.underlying42 (.n rfl) rfl rfl (fun _ => rfl)) rfl rfl ?_)
            refine l_op (x_p (pv_rem (fun _ => by first | omega | exact u64_ne (by omega) (by omega)) (.n rfl) rfl rfl rfl (fun _ => ⟨rfl, rfl⟩)) rfl rfl ?_)
            refine l_op (x_p (pv_conv Try.underlying42 Try.underlying3 (.n rfl) rfl rfl (fun _ => rfl)) rfl rfl ?_)
            refine p_as rfl rfl ?_
            refine o_keep (.c 1 rfl (.c 2 rfl (.c 6 rfl (.c 7 rfl (.c 8 rfl (.c 9 rfl (.c 13 rfl .n))))))) ?_
            rw [rnd_eq (by omega) (by omega)]
            refine r_seq ?_
            refine r_plan _ [] mo (.c 1 rfl (.c 2 rfl (.c 6 rfl (.c 7 rfl (.c 8 rfl (.c 9 rfl (.c 13 rfl .n))))))) Ent.rfl ?_
            refine qm_q (i := 0) (l := [.k 7]) rfl rfl rfl rfl (by kernel_rfl) rfl (fun He => RV.rq (q_lda ta_45 (.n rfl) rfl rfl (fun _ => rfl) (.s (.s (.s .z))))) ?_
            refine qm_q (i := 1) (l := [.o 0]) rfl rfl rfl rfl (by kernel_rfl) rfl (fun He => rq_call cf_34 (.n rfl) rfl (.c rfl (fun _ => rfl) .n) (fun hg => count_Low _ _ _ _ _ (by omega))) ?_
            refine qm_q (i := 2) (l := [.k 7]) rfl rfl rfl rfl (by kernel_rfl) rfl (fun He => RV.rq (q_lda ta_45 (.n rfl) rfl rfl (fun _ => rfl) (.s (.s (.s .z))))) ?_
            refine qm_q (i := 3) (l := [.o 2]) rfl rfl rfl rfl (by kernel_rfl) rfl (fun He => rq_call cf_35 (.n rfl) rfl (.c rfl (fun _ => rfl) .n) (fun hg => count_High _ _ _ _ _ (by omega))) ?_
            refine qm_q (i := 4) (l := [.o 1]) rfl rfl rfl rfl (by kernel_rfl) rfl (fun He => PV.rq (pv_as (.n rfl) rfl rfl (fun _ => rfl))) ?_
            refine qm_q (i := 5) (l := [.o 3]) rfl rfl rfl rfl (by kernel_rfl) rfl (fun He => PV.rq (pv_as (.n rfl) rfl rfl (fun _ => rfl))) ?_
            refine qm_n (by kernel_rfl) (by kernel_rfl) (by kernel_rfl) (by kernel_rfl) (.c 1 rfl (.c 2 rfl (.c 6 rfl (.c 7 rfl (.c 8 rfl (.c 9 rfl (.c 13 rfl (.c 14 rfl (.c 15 rfl .n))))))))) ?_
            refine r_seq ?_
            refine r_plan _ [] mo (.c 1 rfl (.c 2 rfl (.c 6 rfl (.c 7 rfl (.c 8 rfl (.c 9 rfl (.c 13 rfl (.c 14 rfl (.c 15 rfl .n))))))))) Ent.rfl ?_
            refine qm_q (i := 0) (l := [.k 7]) rfl rfl rfl rfl (by kernel_rfl) rfl (fun He => RV.rq (q_lda ta_45 (.n rfl) rfl rfl (fun _ => rfl) (.s (.s (.s .z))))) ?_
            refine qm_q (i := 1) (l := [.k 8]) rfl rfl rfl rfl (by kernel_rfl) rfl (fun He => PV.rq (pv_mv (.n rfl) rfl rfl (fun _ => rfl))) ?_
            refine qm_q (i := 2) (l := [.k 13]) rfl rfl rfl rfl (by kernel_rfl) rfl (fun He => PV.rq (pv_mv (.n rfl) rfl rfl (fun _ => rfl))) ?_
            refine qm_q (i := 3) (l := [.o 1, .o 2]) rfl rfl rfl rfl (by kernel_rfl) rfl (fun He => PV.rq (pv_idx Try.underlying53 (.ofC tc_3) hr (fun hg => ⟨rfl, (mapget hm)⟩) (.n rfl) rfl rfl rfl (fun _ => ⟨rfl, rfl⟩))) ?_
            refine qm_q (i := 4) (l := [.o 3]) rfl rfl rfl rfl (by kernel_rfl) rfl (fun He => RV.rq (rv_ldat (j := 0) tc_3 (Rd.ent hr (by repeat (first | exact Ent.rfl | exact Ent.one Ent.h | exact Ent.one (SelS.ent) | exact Ent.nil | refine Ent.dropR ?_ | refine Ent.tr Ent.skip ?_))) (fun hg => (mapget hm)) (.n rfl) rfl rfl (fun _ => rfl) rfl (fun _ => rfl))) ?_
            refine qm_q (i := 5) (l := [.k 2]) rfl rfl rfl rfl (by kernel_rfl) rfl (fun He => PV.rq (pv_mv (.n rfl) rfl rfl (fun _ => rfl))) ?_
            refine qm_q (i := 6) (l := [.k 9]) rfl rfl rfl rfl (by kernel_rfl) rfl (fun He => PV.rq (pv_mv (.n rfl) rfl rfl (fun _ => rfl))) ?_
            refine qm_q (i := 7) (l := [.o 5, .o 6]) rfl rfl rfl rfl (by kernel_rfl) rfl (fun He => PV.rq (pv_idx Try.underlying54 (.ofC tc_4) he (fun hg => ⟨rfl, (mapget hb)⟩) (.n rfl) rfl rfl rfl (fun _ => ⟨rfl, rfl⟩))) ?_
            refine qm_q (i := 8) (l := [.o 7]) rfl rfl rfl rfl (by kernel_rfl) rfl (fun He => RV.rq (rv_ldat (j := 0) tc_4 (Rd.ent he (by repeat (first | exact Ent.rfl | exact Ent.one Ent.h | exact Ent.one (SelS.ent) | exact Ent.nil | refine Ent.dropR ?_ | refine Ent.tr Ent.skip ?_))) (fun hg => (mapget hb)) (.n rfl) rfl rfl (fun _ => rfl) rfl (fun _ => rfl))) ?_
            refine qm_q (i := 9) (l := [.o 0, .o 4, .o 8]) rfl rfl rfl rfl (by kernel_rfl) rfl (fun He => rq_call cf_28 (.n rfl) rfl (.c rfl (fun _ => rfl) (.c rfl (fun _ => rfl) (.c rfl (fun _ => rfl) .n))) (fun hg => count_End _ _ _ _ _ _ _)) ?_
            refine qm_q (i := 10) (l := [.o 9]) rfl rfl rfl rfl (by kernel_rfl) rfl (fun He => PV.rq (pv_mv (.n rfl) rfl rfl (fun _ => rfl))) ?_
            refine qm_q (i := 11) (l := [.o 10]) rfl rfl rfl rfl (by kernel_rfl) rfl (fun He => PV.rq (pv_ext (.n rfl) rfl rfl rfl (fun _ => rfl))) ?_
            refine qm_q (i := 12) (l := [.o 10]) rfl rfl rfl rfl (by kernel_rfl) rfl (fun He => PV.rq (pv_ext (.n rfl) rfl rfl rfl (fun _ => rfl))) ?_
            refine qm_alloc zr_45 (i := 13) [] (by kernel_rfl) (by kernel_rfl) rfl rfl rfl rfl (by kernel_rfl) (by kernel_rfl) rfl rfl fun b16 => ?_
            refine qm_store (.ofA ta_45) (i := 14) [.o 13, .o 11] (by kernel_rfl) (by kernel_rfl) rfl rfl rfl (by kernel_rfl) (by kernel_rfl) rfl rfl rfl rfl rfl rfl rfl (by repeat constructor) ?_
            refine qm_q (i := 15) (l := [.o 12]) rfl rfl rfl rfl (by kernel_rfl) rfl (fun He => PV.rq (pv_as (.n rfl) rfl rfl (fun _ => rfl))) ?_
            refine qm_n (by kernel_rfl) (by kernel_rfl) (by kernel_rfl) (by kernel_rfl) (.c 1 rfl (.c 2 rfl (.c 6 rfl (.c 7 rfl (.c 8 rfl (.c 9 rfl (.c 13 rfl (.c 14 rfl (.c 15 rfl (.c 16 rfl (.c 17 rfl .n))))))))))) ?_
            refine r_seq ?_
            refine r_seq ?_
            refine r_region ?_
            refine p_mv rfl rfl ?_
            refine p_neq rfl rfl rfl ?_
            refine p_mv rfl rfl ?_
            refine l_op (x_r (q_lda ta_45 (.s rfl rfl rfl) rfl rfl (by first | exact fun _ => rfl | exact id | exact fun h => (Bool.and_eq_true_iff.1 h).1 | simp_all) (.s (.s (.s .z)))) rfl rfl ?_)
            refine l_op (x_q (rq_call cf_34 (.s rfl rfl rfl) rfl (.c rfl (by first | exact fun _ => rfl | exact id | exact fun h => (Bool.and_eq_true_iff.1 h).1 | simp_all) .n) (fun hg => count_Low _ _ _ _ _ (by omega))) rfl rfl ?_)
            refine l_op (x_p (pv_mv (.s rfl rfl rfl) rfl rfl (by first | exact fun _ => rfl | exact id | exact fun h => (Bool.and_eq_true_iff.1 h).1 | simp_all)) rfl rfl ?_)
            refine l_op (x_p (pv_lss (.s rfl rfl rfl) rfl rfl rfl (by refine fun h => ⟨?_, ?_⟩ <;> first | rfl | exact h | exact (Bool.and_eq_true_iff.1 h).1 | simp_all)) rfl rfl ?_)
            refine l_op (x_p (pv_or (.n rfl) rfl rfl rfl (fun _ => ⟨rfl, fun hc => by first | rfl | (rw [hc]; rfl) | simp_all⟩)) rfl rfl ?_)
            refine p_mv rfl rfl ?_
            refine l_op (x_r (q_lda ta_45 (.s rfl rfl rfl) rfl rfl (by first | exact fun _ => rfl | exact id | exact fun h => (Bool.and_eq_true_iff.1 h).1 | simp_all) (.s (.s (.s .z)))) rfl rfl ?_)
            refine l_op (x_q (rq_call cf_35 (.s rfl rfl rfl) rfl (.c rfl (by first | exact fun _ => rfl | exact id | exact fun h => (Bool.and_eq_true_iff.1 h).1 | simp_all) .n) (fun hg => count_High _ _ _ _ _ (by omega))) rfl rfl ?_)
            refine l_op (x_p (pv_mv (.s rfl rfl rfl) rfl rfl (by first | exact fun _ => rfl | exact id | exact fun h => (Bool.and_eq_true_iff.1 h).1 | simp_all)) rfl rfl ?_)
            refine l_op (x_p (pv_gtr (.s rfl rfl rfl) rfl rfl rfl (by refine fun h => ⟨?_, ?_⟩ <;> first | rfl | exact h | exact (Bool.and_eq_true_iff.1 h).1 | simp_all)) rfl rfl ?_)
            refine l_op (x_p (pv_or (.n rfl) rfl rfl rfl (fun _ => ⟨rfl, fun hc => by first | rfl | (rw [hc]; rfl) | simp_all⟩)) rfl rfl ?_)
            refine o_keep (.c 1 rfl (.c 2 rfl (.c 6 rfl (.c 7 rfl (.c 8 rfl (.c 9 rfl (.c 13 rfl (.c 16 rfl (.c 105 rfl .n))))))))) ?_
            refine r_cond _ rfl (fun h6 => ?_) (fun h6 => ?_)
            · exfalso; simp only [Bool.or_eq_true, decide_eq_true_eq, Bool.not_eq_true', decide_eq_false_iff_not] at h6; omega
            · try simp only [Bool.and_eq_true, Bool.or_eq_true, Bool.or_eq_false_iff, Bool.not_eq_true', Bool.not_eq_false', decide_eq_true_eq, decide_eq_false_iff_not, Bool.and_eq_false_iff] at h6
              refine r_skip ?_
              refine r_seq ?_
              refine r_region ?_
              refine p_lda ta_45 rfl (.s (.s (.s .z))) rfl ?_
              refine p_store (.ofA ta_45) rfl rfl rfl rfl rfl (by repeat constructor) ?_
              refine o_keep (.c 1 rfl (.c 2 rfl (.c 6 rfl (.c 7 rfl (.c 8 rfl (.c 9 rfl (.c 13 rfl .n))))))) ?_
              refine r_seq ?_
              refine r_region ?_
              refine p_as rfl rfl ?_
              refine o_keep (.c 1 rfl (.c 2 rfl (.c 6 rfl (.c 7 rfl (.c 8 rfl (.c 9 rfl (.c 13 rfl (.c 18 rfl .n)))))))) ?_
              refine r_plan (_) ([sl (.slice Option.none 0 0) 3 1 []]) mo (.c 1 rfl (.c 2 rfl (.c 6 rfl (.c 7 rfl (.c 8 rfl (.c 9 rfl (.c 13 rfl (.c 18 rfl .n)))))))) (Ent.slN) ?_
              refine qm_q (i := 0) (l := [.k 18]) rfl rfl rfl rfl (by kernel_rfl) rfl (fun He => PV.rq (pv_mv (.n rfl) rfl rfl (fun _ => rfl))) ?_
              refine qm_q (i := 1) (l := [.k 8]) rfl rfl rfl rfl (by kernel_rfl) rfl (fun He => PV.rq (pv_mv (.n rfl) rfl rfl (fun _ => rfl))) ?_
              refine qm_q (i := 2) (l := [.k 13]) rfl rfl rfl rfl (by kernel_rfl) rfl (fun He => PV.rq (pv_mv (.n rfl) rfl rfl (fun _ => rfl))) ?_
              refine qm_q (i := 3) (l := [.o 1, .o 2]) rfl rfl rfl rfl (by kernel_rfl) rfl (fun He => PV.rq (pv_slc (l := 0) (h := rnd n hs1.length) Try.underlying53 (.ofC tc_3) hr (Nat.zero_le _) (by rw [List.length_map]; omega) rfl rfl rfl (.inl ⟨rfl, rfl, rfl⟩) (.inr ⟨_, _, rfl, rfl, rfl⟩))) ?_
              refine qm_q (i := 5) (l := [.k 8]) rfl rfl rfl rfl (by kernel_rfl) rfl (fun He => PV.rq (pv_mv (.n rfl) rfl rfl (fun _ => rfl))) ?_
              refine qm_q (i := 6) (l := [.k 13]) rfl rfl rfl rfl (by kernel_rfl) rfl (fun He => PV.rq (pv_mv (.n rfl) rfl rfl (fun _ => rfl))) ?_
              refine qm_q (i := 7) (l := [.o 6]) rfl rfl rfl rfl (by kernel_rfl) rfl (fun He => PV.rq (pv_add (fun _ => by first | omega | exact u64_ne (by omega) (by omega)) (.n rfl) rfl rfl rfl (fun _ => ⟨rfl, rfl⟩))) ?_
              refine qm_q (i := 8) (l := [.o 5, .o 7]) rfl rfl rfl rfl (by kernel_rfl) rfl (fun He => PV.rq (pv_slc (l := rnd n hs1.length + 1) (h := (hs1.map rI).length) Try.underlying53 (.ofC tc_3) hr (by rw [List.length_map]; omega) (Nat.le_refl _) rfl rfl rfl (.inr ⟨_, _, rfl, rfl, rfl⟩) (.inl ⟨rfl, rfl, rfl⟩))) ?_
              refine qa_append Try.underlying53 el_3 rfl rfl (i := 4) [.o 0, .o 3] (by kernel_rfl) (by kernel_rfl) rfl rfl rfl rfl (by kernel_rfl) (by kernel_rfl) rfl rfl rfl rfl (Rd.ent (hr.resl (Nat.zero_le _) (show rnd n hs1.length ≤ (hs1.map rI).length by rw [List.length_map]; omega)) (Ent.one SelS.ent)) (by simp; omega) fun v111 => ?_
              refine qa_append Try.underlying53 el_3 rfl rfl (i := 9) [.o 4, .o 8] (by kernel_rfl) (by kernel_rfl) rfl rfl rfl rfl (by kernel_rfl) (by kernel_rfl) rfl rfl rfl rfl (Rd.ent (hr.resl (show rnd n hs1.length + 1 ≤ (hs1.map rI).length by rw [List.length_map]; omega) (Nat.le_refl _)) (Ent.one SelS.ent)) (by simp; omega) fun v116 => ?_
              refine qm_q (i := 10) (l := [.o 9]) rfl rfl rfl rfl (by kernel_rfl) rfl (fun He => PV.rq (pv_as (.n rfl) rfl rfl (fun _ => rfl))) ?_
              refine qm_n (by kernel_rfl) (by kernel_rfl) (by kernel_rfl) (by kernel_rfl) (.c 1 rfl (.c 2 rfl (.c 6 rfl (.c 7 rfl (.c 8 rfl (.c 9 rfl .n)))))) ?_
              refine r_seq ?_
              refine r_region ?_
              refine p_lda ta_45 rfl (.s (.s (.s .z))) rfl ?_
              refine p_callv cf_30 (.c rfl .n) rfl (count_Check _ _ _ _ _) ?_
              refine p_neq rfl rfl rfl ?_
              refine p_mv rfl rfl ?_
              refine l_op (x_p (pv_fa fa_45_0 (.s rfl rfl rfl) rfl rfl (by first | exact fun _ => rfl | exact id | exact fun h => (Bool.and_eq_true_iff.1 h).1 | simp_all)) rfl rfl ?_)
              refine l_op (x_r (q_ldc tc_3 (.s rfl rfl rfl) rfl rfl (by first | exact fun _ => rfl | exact id | exact fun h => (Bool.and_eq_true_iff.1 h).1 | simp_all) (by rfl)) rfl rfl ?_)
              refine l_op (x_p (pv_lss (.s rfl rfl rfl) rfl rfl rfl (by refine fun h => ⟨?_, ?_⟩ <;> first | rfl | exact h | exact (Bool.and_eq_true_iff.1 h).1 | simp_all)) rfl rfl ?_)
              refine l_op (x_p (pv_or (.n rfl) rfl rfl rfl (fun _ => ⟨rfl, fun hc => by first | rfl | (rw [hc]; rfl) | simp_all⟩)) rfl rfl ?_)
              refine p_mv rfl rfl ?_
              refine l_op (x_p (pv_fa fa_45_0 (.s rfl rfl rfl) rfl rfl (by first | exact fun _ => rfl | exact id | exact fun h => (Bool.and_eq_true_iff.1 h).1 | simp_all)) rfl rfl ?_)
              refine l_op (x_r (q_ldc tc_3 (.s rfl rfl rfl) rfl rfl (by first | exact fun _ => rfl | exact id | exact fun h => (Bool.and_eq_true_iff.1 h).1 | simp_all) (by rfl)) rfl rfl ?_)
              refine l_op (x_p (pv_gtr (.s rfl rfl rfl) rfl rfl rfl (by refine fun h => ⟨?_, ?_⟩ <;> first | rfl | exact h | exact (Bool.and_eq_true_iff.1 h).1 | simp_all)) rfl rfl ?_)
              refine l_op (x_p (pv_or (.n rfl) rfl rfl rfl (fun _ => ⟨rfl, fun hc => by first | rfl | (rw [hc]; rfl) | simp_all⟩)) rfl rfl ?_)
              refine p_mv rfl rfl ?_
              refine l_op (x_r (q_lda ta_45 (.s rfl rfl rfl) rfl rfl (by first | exact fun _ => rfl | exact id | exact fun h => (Bool.and_eq_true_iff.1 h).1 | simp_all) (.s (.s (.s .z)))) rfl rfl ?_)
              refine l_op (x_q (rq_call cf_34 (.s rfl rfl rfl) rfl (.c rfl (by first | exact fun _ => rfl | exact id | exact fun h => (Bool.and_eq_true_iff.1 h).1 | simp_all) .n) (fun hg => count_Low _ _ _ _ _ (by omega))) rfl rfl ?_)
              refine l_op (x_p (pv_lss (.s rfl rfl rfl) rfl rfl rfl (by refine fun h => ⟨?_, ?_⟩ <;> first | rfl | exact h | exact (Bool.and_eq_true_iff.1 h).1 | simp_all)) rfl rfl ?_)
              refine l_op (x_p (pv_or (.n rfl) rfl rfl rfl (fun _ => ⟨rfl, fun hc => by first | rfl | (rw [hc]; rfl) | simp_all⟩)) rfl rfl ?_)
              refine p_mv rfl rfl ?_
              refine l_op (x_r (q_lda ta_45 (.s rfl rfl rfl) rfl rfl (by first | exact fun _ => rfl | exact id | exact fun h => (Bool.and_eq_true_iff.1 h).1 | simp_all) (.s (.s (.s .z)))) rfl rfl ?_)
              refine l_op (x_q (rq_call cf_35 (.s rfl rfl rfl) rfl (.c rfl (by first | exact fun _ => rfl | exact id | exact fun h => (Bool.and_eq_true_iff.1 h).1 | simp_all) .n) (fun hg => count_High _ _ _ _ _ (by omega))) rfl rfl ?_)
              refine l_op (x_p (pv_gtr (.s rfl rfl rfl) rfl rfl rfl (by refine fun h => ⟨?_, ?_⟩ <;> first | rfl | exact h | exact (Bool.and_eq_true_iff.1 h).1 | simp_all)) rfl rfl ?_)
              refine l_op (x_p (pv_or (.n rfl) rfl rfl rfl (fun _ => ⟨rfl, fun hc => by first | rfl | (rw [hc]; rfl) | simp_all⟩)) rfl rfl ?_)
              refine o_keep (.c 1 rfl (.c 2 rfl (.c 6 rfl (.c 7 rfl (.c 8 rfl (.c 9 rfl (.c 139 rfl .n))))))) ?_
              refine r_cond _ rfl (fun h7 => ?_) (fun h7 => ?_)
              · exfalso; simp only [Bool.or_eq_true, decide_eq_true_eq, Bool.not_eq_true', decide_eq_false_iff_not] at h7; omega
              · try simp only [Bool.and_eq_true, Bool.or_eq_true, Bool.or_eq_false_iff, Bool.not_eq_true', Bool.not_eq_false', decide_eq_true_eq, decide_eq_false_iff_not, Bool.and_eq_false_iff] at h7
                refine r_skip ?_
                refine r_end ?_
                refine r_region ?_
                refine p_mv rfl rfl ?_
                refine p_add rfl rfl (by first | omega | exact u64_ne (by omega) (by omega)) rfl ?_
                refine p_as rfl rfl ?_
                refine o_keep (.c 1 rfl (.c 2 rfl (.c 6 rfl (.c 7 rfl (.c 8 rfl (.c 9 rfl .n)))))) ?_
                refine r_back_6 (k + 1) ((endc ⟨c1, o1, i1⟩ m d).1.v) ((endc ⟨c1, o1, i1⟩ m d).1.o) ((endc ⟨c1, o1, i1⟩ m d).1.i) (_) (hs1.take (rnd n hs1.length) ++ hs1.drop (rnd n hs1.length + 1)) ?_ ?_ (Keep.app (.c 9 rfl (.c 8 rfl .n)) (.c 1 rfl (.c 2 rfl (.c 6 rfl (.c 7 rfl .n))))) ?_
                · exact ⟨by omega, by simp; omega, f4⟩
                · omega
                · simp only [List.map_append, List.map_take, List.map_drop, List.take_length, List.drop_zero, List.nil_append]; first | exact Ent.rfl | (repeat (first | exact Ent.rfl | refine Ent.c (SelB.ent) ?_ | refine Ent.c (SelS.ent) ?_ | refine Ent.cN ?_ | refine Ent.c (SelX.ent) ?_ | refine Ent.dropR ?_))
          · try simp only [Bool.and_eq_true, Bool.or_eq_true, Bool.or_eq_false_iff, Bool.not_eq_true', Bool.not_eq_false', decide_eq_true_eq, decide_eq_false_iff_not, Bool.and_eq_false_iff] at h5
            refine r_skip ?_
            refine r_seq ?_
            refine r_region ?_
            refine p_lda ta_45 rfl (.s (.s (.s .z))) rfl ?_
            refine p_callv cf_30 (.c rfl .n) rfl (count_Check _ _ _ _ _) ?_
            refine p_neq rfl rfl rfl ?_
            refine p_mv rfl rfl ?_
            refine l_op (x_p (pv_fa fa_45_0 (.s rfl rfl rfl) rfl rfl (by first | exact fun _ => rfl | exact id | exact fun h => (Bool.and_eq_true_iff.1 h).1 | simp_all)) rfl rfl ?_)
            refine l_op (x_r (q_ldc tc_3 (.s rfl rfl rfl) rfl rfl (by first | exact fun _ => rfl | exact id | exact fun h => (Bool.and_eq_true_iff.1 h).1 | simp_all) (by rfl)) rfl rfl ?_)
            refine l_op (x_p (pv_lss (.s rfl rfl rfl) rfl rfl rfl (by refine fun h => ⟨?_, ?_⟩ <;> first | rfl | exact h | exact (Bool.and_eq_true_iff.1 h).1 | simp_all)) rfl rfl ?_)
            refine l_op (x_p (pv_or (.n rfl) rfl rfl rfl (fun _ => ⟨rfl, fun hc => by first | rfl | (rw [hc]; rfl) | simp_all⟩)) rfl rfl ?_)
            refine p_mv rfl rfl ?_
            refine l_op (x_p (pv_fa fa_45_0 (.s rfl rfl rfl) rfl rfl (by first | exact fun _ => rfl | exact id | exact fun h => (Bool.and_eq_true_iff.1 h).1 | simp_all)) rfl rfl ?_)
            refine l_op (x_r (q_ldc tc_3 (.s rfl rfl rfl) rfl rfl (by first | exact fun _ => rfl | exact id | exact fun h => (Bool.and_eq_true_iff.1 h).1 | simp_all) (by rfl)) rfl rfl ?_)
            refine l_op (x_p (pv_gtr (.s rfl rfl rfl) rfl rfl rfl (by refine fun h => ⟨?_, ?_⟩ <;> first | rfl | exact h | exact (Bool.and_eq_true_iff.1 h).1 | simp_all)) rfl rfl ?_)
            refine l_op (x_p (pv_or (.n rfl) rfl rfl rfl (fun _ => ⟨rfl, fun hc => by first | rfl | (rw [hc]; rfl) | simp_all⟩)) rfl rfl ?_)
            refine p_mv rfl rfl ?_
            refine l_op (x_r (q_lda ta_45 (.s rfl rfl rfl) rfl rfl (by first | exact fun _ => rfl | exact id | exact fun h => (Bool.and_eq_true_iff.1 h).1 | simp_all) (.s (.s (.s .z)))) rfl rfl ?_)
            refine l_op (x_q (rq_call cf_34 (.s rfl rfl rfl) rfl (.c rfl (by first | exact fun _ => rfl | exact id | exact fun h => (Bool.and_eq_true_iff.1 h).1 | simp_all) .n) (fun hg => count_Low _ _ _ _ _ (by omega))) rfl rfl ?_)
            refine l_op (x_p (pv_lss (.s rfl rfl rfl) rfl rfl rfl (by refine fun h => ⟨?_, ?_⟩ <;> first | rfl | exact h | exact (Bool.and_eq_true_iff.1 h).1 | simp_all)) rfl rfl ?_)
            refine l_op (x_p (pv_or (.n rfl) rfl rfl rfl (fun _ => ⟨rfl, fun hc => by first | rfl | (rw [hc]; rfl) | simp_all⟩)) rfl rfl ?_)
            refine p_mv rfl rfl ?_
            refine l_op (x_r (q_lda ta_45 (.s rfl rfl rfl) rfl rfl (by first | exact fun _ => rfl | exact id | exact fun h => (Bool.and_eq_true_iff.1 h).1 | simp_all) (.s (.s (.s .z)))) rfl rfl ?_)
            refine l_op (x_q (rq_call cf_35 (.s rfl rfl rfl) rfl (.c rfl (by first | exact fun _ => rfl | exact id | exact fun h => (Bool.and_eq_true_iff.1 h).1 | simp_all) .n) (fun hg => count_High _ _ _ _ _ (by omega))) rfl rfl ?_)
            refine l_op (x_p (pv_gtr (.s rfl rfl rfl) rfl rfl rfl (by refine fun h => ⟨?_, ?_⟩ <;> first | rfl | exact h | exact (Bool.and_eq_true_iff.1 h).1 | simp_all)) rfl rfl ?_)
            refine l_op (x_p (pv_or (.n rfl) rfl rfl rfl (fun _ => ⟨rfl, fun hc => by first | rfl | (rw [hc]; rfl) | simp_all⟩)) rfl rfl ?_)
            refine o_keep (.c 1 rfl (.c 2 rfl (.c 6 rfl (.c 7 rfl (.c 8 rfl (.c 9 rfl (.c 139 rfl .n))))))) ?_
            refine r_cond _ rfl (fun h8 => ?_) (fun h8 => ?_)
            · exfalso; simp only [Bool.or_eq_true, decide_eq_true_eq, Bool.not_eq_true', decide_eq_false_iff_not] at h8; omega
            · try simp only [Bool.and_eq_true, Bool.or_eq_true, Bool.or_eq_false_iff, Bool.not_eq_true', Bool.not_eq_false', decide_eq_true_eq, decide_eq_false_iff_not, Bool.and_eq_false_iff] at h8
              refine r_skip ?_
              refine r_end ?_
              refine r_region ?_
              refine p_mv rfl rfl ?_
              refine p_add rfl rfl (by first | omega | exact u64_ne (by omega) (by omega)) rfl ?_
              refine p_as rfl rfl ?_
              refine o_keep (.c 1 rfl (.c 2 rfl (.c 6 rfl (.c 7 rfl (.c 8 rfl (.c 9 rfl .n)))))) ?_
              refine r_back_6 (k + 1) (c1) (o1) (i1) (hv1) (hs1) ?_ ?_ (Keep.app (.c 9 rfl (.c 8 rfl .n)) (.c 1 rfl (.c 2 rfl (.c 6 rfl (.c 7 rfl .n))))) ?_
              · exact ⟨by omega, by omega, hI⟩
              · omega
              · first | exact Ent.rfl | (repeat (first | exact Ent.rfl | refine Ent.c (SelB.ent) ?_ | refine Ent.c (SelS.ent) ?_ | refine Ent.cN ?_ | refine Ent.c (SelX.ent) ?_ | refine Ent.dropR ?_))
        · try simp only [Bool.and_eq_true, Bool.or_eq_true, Bool.or_eq_false_iff, Bool.not_eq_true', Bool.not_eq_false', decide_eq_true_eq, decide_eq_false_iff_not, Bool.and_eq_false_iff] at h3
          refine r_exit rfl ?_
          refine r_seq ?_
          refine r_region ?_
          refine p_as rfl rfl ?_
          refine o_keep (.c 6 rfl .n) ?_
          refine r_retv hF rfl (.c (.t rfl) .n) ?_ ?_
          · first | exact Ent.rfl | (repeat (first | exact Ent.rfl | refine Ent.c (SelB.ent) ?_ | refine Ent.c (SelS.ent) ?_ | refine Ent.cN ?_ | refine Ent.c (SelX.ent) ?_ | refine Ent.dropR ?_))
          · rfl

end Go.Proofs.Ytmakdilmibjpbaa
