/- The walks of BookW2: written by a program of ours (gen.py) over the engine. The walks of BookW3: written by a program of ours (gen.py) over the engine. -/
import Derived.Test.YtmakdilmibjpbacGreatPlain
import Derived.Test.YtmakdilmibjpbacGreatFacts
import Derived.Test.YtmakdilmibjpbacGreatBookW
namespace Go.Proofs.YtmakdilmibjpbacGreat
open Go Go.RowKit
set_option linter.unusedVariables false
set_option linter.unusedSimpArgs false
set_option maxRecDepth 20000

theorem hear_skip {s : BrokS} {i : Nat} {d : Deal} {m : Mail} (hd : s.l[i]? = some d) (hm : m.deal = (i : Int)) (h4 : m.kind ≠ 4) (h : m.kind = 2 → d.state = 0 → shopOf m.ctr ≠ m.shop) : hearB s m = s := by
  rw [hearB_at hd hm]
  by_cases h2 : m.kind = 2
  · rw [if_pos h2]
    split
    · rfl
    · refine if_pos ?_
      by_cases h0 : d.state = 0
      · exact .inl (h h2 h0)
      · exact .inr h0
  · rw [if_neg h2, if_neg h4]
theorem hear_over {s : BrokS} {i : Nat} {d : Deal} {m : Mail} (hd : s.l[i]? = some d) (hm : m.deal = (i : Int)) (h4 : m.kind = 4) : hearB s m = if d.state ≠ 0 ∧ (shopsL d.wants).contains m.shop = true ∧ d.over.contains m.shop = false then ⟨s.l.set i { d with over := d.over ++ [m.shop] }, s.order⟩ else s := by
  rw [hearB_at hd hm, if_neg (by omega), if_pos h4]
theorem atW_first {l : List Want} {c e : Int} {j : Nat} (h : l[j]? = some ⟨c, e⟩) (hf : ∀ k : Nat, k < j → l[k]? ≠ some ⟨c, e⟩) : atW l c e = some j := by
  cases ha : atW l c e with
  | none => exact absurd (List.mem_of_getElem? h) (atW_none ha)
  | some q =>
    obtain ⟨h1, h2⟩ := atW_some ha
    rcases Nat.lt_trichotomy q j with h3 | h3 | h3
    · exact absurd h1 (hf q h3)
    · rw [h3]
    · exact absurd h (h2 j h3)
theorem atW_non {l : List Want} {c e : Int} (hf : ∀ k : Nat, k < l.length → l[k]? ≠ some ⟨c, e⟩) : atW l c e = none := by
  cases ha : atW l c e with
  | none => rfl
  | some q =>
    obtain ⟨h1, _⟩ := atW_some ha
    exact absurd h1 (hf q (List.getElem?_eq_some_iff.1 h1).1)
theorem hear_none {s : BrokS} {i : Nat} {d : Deal} {m : Mail} (hd : s.l[i]? = some d) (hm : m.deal = (i : Int)) (h2 : m.kind = 2) (ha : atW d.wants m.ctr m.dl = none) : hearB s m = s := by
  rw [hearB_at hd hm, if_pos h2, ha]
theorem hear_say {s : BrokS} {i j : Nat} {d : Deal} {m : Mail} (hd : s.l[i]? = some d) (hm : m.deal = (i : Int)) (h2 : m.kind = 2) (h0 : d.state = 0) (hs : shopOf m.ctr = m.shop) (ha : atW d.wants m.ctr m.dl = some j) :
    (m.yes = false → hearB s m = ⟨s.l.set i { d with state := 2 }, s.order⟩) ∧ (m.yes = true → ((d.yes.set j true).contains false = true → hearB s m = ⟨s.l.set i { d with yes := d.yes.set j true }, s.order⟩) ∧
      ((d.yes.set j true).contains false = false → hearB s m = ⟨s.l.set i { d with yes := d.yes.set j true, state := 1 }, s.order ++ [(i : Int)]⟩)) := by
  have hil := (List.getElem?_eq_some_iff.1 hd).1
  rw [hearB_at hd hm, if_pos h2, ha]
  dsimp only
  rw [if_neg (by simp [hs, h0])]
  refine ⟨fun hy => ?_, fun hy => ⟨fun hc => ?_, fun hc => ?_⟩⟩
  · rw [if_pos hy, decideB_2 hd h0]; rfl
  · rw [if_neg (by simp [hy]), if_pos hc]
  · rw [if_neg (by simp [hy]), if_neg (by rw [hc]; simp), decideB_2 (d := { d with yes := d.yes.set j true }) (by exact sgs hil) h0]
    simp
theorem YesR.len {ys : List Int} {d : Deal} (h : YesR ys d) : ys.length ≤ d.wants.length := by
  have hr : ((List.range d.wants.length).map fun i : Nat => (i : Int)).length = d.wants.length := by simp
  rw [← hr]
  refine nodup_le h.nd fun x hx => ?_
  have := h.rng x hx
  exact List.mem_map.2 ⟨x.toNat, by simp; omega, by omega⟩
theorem YesR.add {ys : List Int} {d : Deal} {j : Nat} (h : YesR ys d) (hy : d.yes.length = d.wants.length) (hj : j < d.wants.length) (hn : (j : Int) ∉ ys) : YesR (ys ++ [(j : Int)]) { d with yes := d.yes.set j true } := by
  refine ⟨?_, fun x hx => ?_, fun i hi => ?_⟩
  · rw [List.nodup_append]
    exact ⟨h.nd, by simp, fun a ha b hb e => by simp at hb; subst hb; exact hn (e ▸ ha)⟩
  · rcases List.mem_append.1 hx with hx | hx
    · exact h.rng x hx
    · simp at hx; subst hx; exact ⟨by omega, by show (j : Int) < d.wants.length; omega⟩
  · show _ ↔ (d.yes.set j true)[i]? = some true
    by_cases e : i = j
    · subst e; rw [List.getElem?_set_self (by rw [hy]; exact hi)]; simp
    · rw [List.getElem?_set_ne (by omega), ← h.is i hi]
      simp only [List.mem_append, List.mem_singleton]
      exact ⟨fun q => q.resolve_right (by omega), .inl⟩
theorem YesR.same {ys : List Int} {d : Deal} {j : Nat} (h : YesR ys d) (hj : j < d.wants.length) (hn : (j : Int) ∈ ys) : YesR ys { d with yes := d.yes.set j true } := by
  rw [set_selfE ((h.is j hj).1 hn)]; exact h
theorem YesR.full {ys : List Int} {d : Deal} {j : Nat} (h : YesR ys { d with yes := d.yes.set j true }) (hy : d.yes.length = d.wants.length) (hj : j < d.wants.length) : ys.length = d.wants.length ↔ (d.yes.set j true).contains false = false := by
  rw [full_iff h.nd h.rng, set_yes (by omega)]
  constructor
  · intro q k hk
    have := (h.is k (by rw [hy] at hk; exact hk)).1 (q k (by rw [hy] at hk; exact hk))
    by_cases e : k = j
    · exact .inl e
    · rw [List.getElem?_set_ne (by omega)] at this; exact .inr this
  · intro q k hk
    refine (h.is k hk).2 ?_
    show (d.yes.set j true)[k]? = some true
    by_cases e : k = j
    · subst e; exact List.getElem?_set_self (by rw [hy]; exact hk)
    · rw [List.getElem?_set_ne (by omega)]; exact (q k (by rw [hy]; exact hk)).resolve_left e
theorem bookCases (d : Deal) (m : Mail) : m.kind ≠ 4 ∨ (m.kind = 4 ∧ d.state = 0) ∨ (m.kind = 4 ∧ d.state ≠ 0 ∧ (shopsL d.wants).contains m.shop = false) ∨ (m.kind = 4 ∧ d.state ≠ 0 ∧ (shopsL d.wants).contains m.shop = true) := by
  by_cases h : m.kind = 4
  · rcases overCases d m.shop with h0 | h0 | h0
    · exact .inr (.inl ⟨h, h0⟩)
    · exact .inr (.inr (.inl ⟨h, h0⟩))
    · exact .inr (.inr (.inr ⟨h, h0⟩))
  · exact .inl h
theorem ref_ShopsOfN (M : Amb) (A : List HP) (v : Value) (l : List Want) (hv : Rd M A v 2 (l.map rW)) (hb : l.length ≤ 1000) : FnN (α := Value) Tryz.prog M 79 [v] A (fun x => x) (fun x => [sl x 3 1 ((shopsL l).map rI)]) := ref_ShopsOf M A v l hv hb

theorem book_Hear (M : Amb) (T : TypeId) (rest : List Value) (b : Nat) (s : BrokS) (hI : BInv s) (m : Mail) : FnC Tryz.prog M 71 [ptr b, vM m] (resVal []) [bookP b T rest s] [bookP b T rest (hearB s m)] := by
 have hor := hI.ord_le
 refine fnc_intro Tryz.func71 rfl Tryz.ntmps71 rfl fun R F hF => ?_
 refine r_cat ?_
 refine r_sr (p_box rfl rfl rfl fun b3 => ?_)
 refine o_keep (.c 0 rfl (.c 3 rfl .n)) (r_seq (r_sr (p_mv rfl rfl (p_fa fa_72_1 rfl rfl (p_ldc tc_3 rfl (by rfl) rfl ?_)))))
 refine p_callv cf_74 (.c rfl (.c rfl .n)) rfl ((book_State _ T rest b s hI m.deal).q) ?_
 refine p_eql rfl rfl rfl (o_keep (.c 0 rfl (.c 3 rfl (.c 10 rfl .n))) (r_cond _ rfl (fun h1 => ?_) (fun h1 => ?_)))
 ·skip
  have hn := of_decide_eq_true h1
  have hh : hearB s m = s := hearB_out (by rcases hI.st m.deal with h | h; exact h.2; omega)
  refine r_retv hF rfl .n ?_ ?_
  ·refine Ent.catI ?_; rw [hh]; refine Ent.c (SelX.ent) ?_; repeat first|exact eR|refine eB ?_|refine eS ?_|refine eN ?_|refine eX ?_|refine eD ?_
  ·rfl
 ·skip
  have hn := of_decide_eq_false h1
  obtain ⟨i, d, hm, hd⟩ : ∃ (i : Nat) (d : Deal), m.deal = (i : Int) ∧ s.l[i]? = some d := by rcases hI.st m.deal with h | h; omega; exact ⟨m.deal.toNat, s.l[m.deal.toNat]'(by omega), by omega, List.getElem?_eq_getElem (by omega)⟩
  have hil := (List.getElem?_eq_some_iff.1 hd).1
  have hdk := hI.d d (List.mem_of_getElem? hd)
  have hle := hdk.le
  have hdy := hdk.y
  refine r_skip (r_seq ?_)
  refine r_sel (bookP b T rest s) ?_
  refine r_book fun lv ov ts hts => ?_
  refine r_cat ?_
  refine r_rd lv fun hrd => ?_
  refine r_rd ov fun hro => ?_
  obtain ⟨t, ht⟩ := getlt (l := ts) (i := i) (by omega)
  obtain ⟨bl, of, ll, cl, rfl⟩ := Rd.sh hrd (zip_get ht hd)
  refine r_bdeal i ht hd fun hy => ?_
  refine r_cat ?_
  refine r_rd t.wv fun hrw => ?_
  refine r_rd t.yv fun hry => ?_
  refine r_rd t.tv fun hrt => ?_
  have hyl := hy.len
  have hzl : i < (List.zipWith rowD ts s.l).length := by rw [zlen hts]; exact hil
  refine r_plan _ [] mo (.c 0 rfl (.c 3 rfl .n)) Ent.rfl ?_
  refine qp 0 [.k 0] rfl rfl rfl rfl (by kernel_rfl) rfl (u_mv rfl rfl rfl) (qp 1 [.o 0] rfl rfl rfl rfl (by kernel_rfl) rfl (u_nil rfl rfl rfl) (qp 2 [.o 1] rfl rfl rfl rfl (by kernel_rfl) rfl (u_fa fa_59_0 rfl rfl rfl) (qr 3 [.o 2] rfl rfl rfl rfl (by kernel_rfl) rfl (fun He => u_ldc tc_56 rfl rfl rfl (by rfl)) ?_)))
  refine qp 4 [.k 3] rfl rfl rfl rfl (by kernel_rfl) rfl (u_fa fa_72_1 rfl rfl rfl) (qr 5 [.o 4] rfl rfl rfl rfl (by kernel_rfl) rfl (fun He => u_ldc tc_3 rfl rfl rfl (by rfl)) ?_)
  refine qp 6 [.o 3, .o 5] rfl rfl rfl rfl (by kernel_rfl) rfl (pv_idx Tryz.underlying56 (.ofA ta_106) hrd (fun hg => ⟨hm, (zip_get ht hd)⟩) (.n rfl) rfl rfl rfl (fun _ => ⟨rfl, rfl⟩)) (qp 7 [.o 6] rfl rfl rfl rfl (by kernel_rfl) rfl (u_as rfl rfl rfl) ?_)
  refine qm_n (by kernel_rfl) (by kernel_rfl) (by kernel_rfl) (by kernel_rfl) (.c 0 rfl (.c 3 rfl (.c 4 rfl .n))) ?_
  refine r_seq (r_seq ?_)
  rcases bookCases d m with h0 | ⟨h4, h0⟩ | ⟨h4, h0, hsn⟩ | ⟨h4, h0, hsn⟩
  ·skip
   refine r_plan _ [] mo (.c 0 rfl (.c 3 rfl (.c 4 rfl .n))) Ent.rfl ?_
   refine qp 0 [.k 3] rfl rfl rfl rfl (by kernel_rfl) rfl (u_fa fa_72_0 rfl rfl rfl) (qr 1 [.o 0] rfl rfl rfl rfl (by kernel_rfl) rfl (fun He => u_ldc tc_3 rfl rfl rfl (by rfl)) ?_)
   refine qp 2 [.o 1] rfl rfl rfl rfl (by kernel_rfl) rfl (pv_to (pv_eql (.n rfl) rfl rfl rfl (fun _ => ⟨rfl, rfl⟩)) (show _ = Value.bool false from bool_eq (by simp [h0]))) (qp 3 [.o 2] rfl rfl rfl rfl (by kernel_rfl) rfl (u_mv rfl rfl rfl) ?_)
   refine qm_q (i := 4) (l := [.k 4, .o 3]) rfl rfl rfl rfl (by kernel_rfl) rfl (fun He => rq_no (v := .bool false) (.s rfl rfl rfl) rfl) ?_
   refine qm_q (i := 5) (l := [.o 4, .o 3]) rfl rfl rfl rfl (by kernel_rfl) rfl (fun He => rq_no (v := .bool false) (.s rfl rfl rfl) rfl) ?_
   refine qm_q (i := 6) (l := [.o 5, .o 3]) rfl rfl rfl rfl (by kernel_rfl) rfl (fun He => rq_no (v := .bool false) (.s rfl rfl rfl) rfl) ?_
   refine qm_q (i := 7) (l := [.o 6, .o 3]) rfl rfl rfl rfl (by kernel_rfl) rfl (fun He => rq_no (v := .bool false) (.s rfl rfl rfl) rfl) ?_
   refine qm_q (i := 8) (l := [.o 7, .o 3]) rfl rfl rfl rfl (by kernel_rfl) rfl (fun He => rq_no (v := .bool false) (.s rfl rfl rfl) rfl) ?_
   refine qp 9 [.o 3, .o 8] rfl rfl rfl rfl (by kernel_rfl) rfl (pv_andf (.n rfl) rfl rfl (fun _ => rfl)) (qp 10 [.o 9] rfl rfl rfl rfl (by kernel_rfl) rfl (u_mv rfl rfl rfl) ?_)
   refine qm_q (i := 11) (l := [.k 4, .o 10]) rfl rfl rfl rfl (by kernel_rfl) rfl (fun He => rq_no (v := .bool false) (.s rfl rfl rfl) rfl) ?_
   refine qm_q (i := 12) (l := [.o 11, .o 10]) rfl rfl rfl rfl (by kernel_rfl) rfl (fun He => rq_no (v := .bool false) (.s rfl rfl rfl) rfl) ?_
   refine qm_q (i := 13) (l := [.o 12, .o 10]) rfl rfl rfl rfl (by kernel_rfl) rfl (fun He => rq_no (v := .bool false) (.s rfl rfl rfl) rfl) ?_
   refine qm_q (i := 14) (l := [.o 13, .o 10]) rfl rfl rfl rfl (by kernel_rfl) rfl (fun He => rq_no (v := .bool false) (.s rfl rfl rfl) rfl) ?_
   refine qm_q (i := 15) (l := [.o 14, .o 10]) rfl rfl rfl rfl (by kernel_rfl) rfl (fun He => rq_no (v := .bool false) (.s rfl rfl rfl) rfl) ?_
   refine qm_q (i := 16) (l := [.k 3, .o 10]) rfl rfl rfl rfl (by kernel_rfl) rfl (fun He => rq_no (v := .bool false) (.s rfl rfl rfl) rfl) ?_
   refine qm_q (i := 17) (l := [.o 16, .o 10]) rfl rfl rfl rfl (by kernel_rfl) rfl (fun He => rq_no (v := .bool false) (.s rfl rfl rfl) rfl) ?_
   refine qm_q (i := 18) (l := [.o 15, .o 17, .o 10]) rfl rfl rfl rfl (by kernel_rfl) rfl (fun He => rq_no (v := .bool false) (.s rfl rfl rfl) rfl) ?_
   refine qp 19 [.o 10, .o 18] rfl rfl rfl rfl (by kernel_rfl) rfl (pv_andf (.n rfl) rfl rfl (fun _ => rfl)) (qp 20 [.o 19] rfl rfl rfl rfl (by kernel_rfl) rfl (u_mv rfl rfl rfl) ?_)
   refine qm_q (i := 21) (l := [.k 4, .o 20]) rfl rfl rfl rfl (by kernel_rfl) rfl (fun He => rq_no (v := .bool false) (.s rfl rfl rfl) rfl) ?_
   refine qm_q (i := 22) (l := [.o 21, .o 20]) rfl rfl rfl rfl (by kernel_rfl) rfl (fun He => rq_no (v := .bool false) (.s rfl rfl rfl) rfl) ?_
   refine qm_q (i := 23) (l := [.o 22, .o 20]) rfl rfl rfl rfl (by kernel_rfl) rfl (fun He => rq_no (v := .bool false) (.s rfl rfl rfl) rfl) ?_
   refine qm_q (i := 24) (l := [.o 23, .o 20]) rfl rfl rfl rfl (by kernel_rfl) rfl (fun He => rq_no (v := .bool false) (.s rfl rfl rfl) rfl) ?_
   refine qm_q (i := 25) (l := [.k 3, .o 20]) rfl rfl rfl rfl (by kernel_rfl) rfl (fun He => rq_no (v := .bool false) (.s rfl rfl rfl) rfl) ?_
   refine qm_q (i := 26) (l := [.o 25, .o 20]) rfl rfl rfl rfl (by kernel_rfl) rfl (fun He => rq_no (v := .bool false) (.s rfl rfl rfl) rfl) ?_
   refine qm_q (i := 27) (l := [.o 24, .o 26, .o 20]) rfl rfl rfl rfl (by kernel_rfl) rfl (fun He => rq_no (v := .bool false) (.s rfl rfl rfl) rfl) ?_
   refine qm_q (i := 28) (l := [.o 27, .o 20]) rfl rfl rfl rfl (by kernel_rfl) rfl (fun He => rq_no (v := .bool false) (.s rfl rfl rfl) rfl) ?_
   refine qp 29 [.o 20, .o 28] rfl rfl rfl rfl (by kernel_rfl) rfl (pv_andf (.n rfl) rfl rfl (fun _ => rfl)) ?_
   refine qm_n (by kernel_rfl) (by kernel_rfl) (by kernel_rfl) (by kernel_rfl) (.c 0 rfl (.c 3 rfl (.c 4 rfl (.c 47 rfl .n)))) ?_
   refine r_cond _ rfl (fun h2 => ?_) (fun h2 => ?_)
   ·simp at h2
   ·skip
    refine r_skip (r_seq (r_seq ?_))
    refine r_plan _ [] mo (.c 0 rfl (.c 3 rfl (.c 4 rfl .n))) Ent.rfl ?_
    refine qp 0 [.k 3] rfl rfl rfl rfl (by kernel_rfl) rfl (u_fa fa_72_0 rfl rfl rfl) (qr 1 [.o 0] rfl rfl rfl rfl (by kernel_rfl) rfl (fun He => u_ldc tc_3 rfl rfl rfl (by rfl)) ?_)
    refine qp 2 [.o 1] rfl rfl rfl rfl (by kernel_rfl) rfl (pv_neq (.n rfl) rfl rfl rfl (fun _ => ⟨rfl, rfl⟩)) (qp 3 [.o 2] rfl rfl rfl rfl (by kernel_rfl) rfl (u_mv rfl rfl rfl) (qp 4 [.k 4, .o 3] rfl rfl rfl rfl (by kernel_rfl) rfl (pv_mv (.s rfl rfl rfl) rfl rfl (by first | exact fun _ => rfl | exact id | exact fun h => (Bool.and_eq_true_iff.1 h).1 | simp_all)) ?_))
    refine qp 5 [.o 4, .o 3] rfl rfl rfl rfl (by kernel_rfl) rfl (pv_nilp (.s rfl rfl rfl) rfl rfl (by first | exact fun _ => rfl | exact id | exact fun h => (Bool.and_eq_true_iff.1 h).1 | simp_all)) ?_
    refine qp 6 [.o 5, .o 3] rfl rfl rfl rfl (by kernel_rfl) rfl (pv_faat fa_106_1 (fun hg => Rd.sh hrd (zip_get ht hd)) (.s rfl rfl rfl) rfl rfl (by first | exact fun _ => rfl | exact id | exact fun h => (Bool.and_eq_true_iff.1 h).1 | simp_all)) ?_
    refine qr 7 [.o 6, .o 3] rfl rfl rfl rfl (by kernel_rfl) rfl (fun He => rv_ldat (j := 1) tc_3 (Rd.ent hrd (by repeat (first | exact Ent.rfl | exact Ent.one Ent.h | exact Ent.one (SelS.ent) | exact Ent.nil | exact Ent.left | refine Ent.dropR ?_ | refine Ent.tr Ent.skip ?_))) (fun hg => (zip_get ht hd)) (.s rfl rfl rfl) rfl rfl (by first | exact fun _ => rfl | exact id | exact fun h => (Bool.and_eq_true_iff.1 h).1 | simp_all) rfl (fun _ => rfl)) ?_
    refine qp 8 [.o 7, .o 3] rfl rfl rfl rfl (by kernel_rfl) rfl (pv_neq (.s rfl rfl rfl) rfl rfl rfl (by refine fun h => ⟨?_, ?_⟩ <;> first | rfl | exact h | exact (Bool.and_eq_true_iff.1 h).1 | simp_all)) ?_
    refine qp 9 [.o 3, .o 8] rfl rfl rfl rfl (by kernel_rfl) rfl (pv_or (.n rfl) rfl rfl rfl (fun _ => ⟨rfl, fun hc => by first | rfl | (rw [hc]; rfl) | simp_all⟩)) ?_
    refine qp 10 [.o 9] rfl rfl rfl rfl (by kernel_rfl) rfl (u_mv rfl rfl rfl) (qp 11 [.k 3, .o 10] rfl rfl rfl rfl (by kernel_rfl) rfl (pv_fa fa_72_3 (.s rfl rfl rfl) rfl rfl (by first | exact fun _ => rfl | exact id | exact fun h => (Bool.and_eq_true_iff.1 h).1 | simp_all)) ?_)
    refine qp 12 [.o 11, .o 10] rfl rfl rfl rfl (by kernel_rfl) rfl (pv_fa fa_42_0 (.s rfl rfl rfl) rfl rfl (by first | exact fun _ => rfl | exact id | exact fun h => (Bool.and_eq_true_iff.1 h).1 | simp_all)) ?_
    refine qr 13 [.o 12, .o 10] rfl rfl rfl rfl (by kernel_rfl) rfl (fun He => q_ldc tc_3 (.s rfl rfl rfl) rfl rfl (by first | exact fun _ => rfl | exact id | exact fun h => (Bool.and_eq_true_iff.1 h).1 | simp_all) (by rfl)) ?_
    refine qm_q (i := 14) (l := [.o 13, .o 10]) rfl rfl rfl rfl (by kernel_rfl) rfl (fun He => rq_call cf_78 (.s rfl rfl rfl) rfl (.c rfl (by first | exact fun _ => rfl | exact id | exact fun h => (Bool.and_eq_true_iff.1 h).1 | simp_all) .n) (fun hg => ref_ShopOf _ _ _)) ?_
    refine qp 15 [.k 3, .o 10] rfl rfl rfl rfl (by kernel_rfl) rfl (pv_fa fa_72_2 (.s rfl rfl rfl) rfl rfl (by first | exact fun _ => rfl | exact id | exact fun h => (Bool.and_eq_true_iff.1 h).1 | simp_all)) ?_
    refine qr 16 [.o 15, .o 10] rfl rfl rfl rfl (by kernel_rfl) rfl (fun He => q_ldc tc_3 (.s rfl rfl rfl) rfl rfl (by first | exact fun _ => rfl | exact id | exact fun h => (Bool.and_eq_true_iff.1 h).1 | simp_all) (by rfl)) ?_
    refine qp 17 [.o 14, .o 16, .o 10] rfl rfl rfl rfl (by kernel_rfl) rfl (pv_neq (.s rfl rfl rfl) rfl rfl rfl (by refine fun h => ⟨?_, ?_⟩ <;> first | rfl | exact h | exact (Bool.and_eq_true_iff.1 h).1 | simp_all)) ?_
    refine qp 18 [.o 10, .o 17] rfl rfl rfl rfl (by kernel_rfl) rfl (pv_or (.n rfl) rfl rfl rfl (fun _ => ⟨rfl, fun hc => by first | rfl | (rw [hc]; rfl) | simp_all⟩)) ?_
    refine qm_n (by kernel_rfl) (by kernel_rfl) (by kernel_rfl) (by kernel_rfl) (.c 0 rfl (.c 3 rfl (.c 4 rfl (.c 77 rfl .n)))) ?_
    refine r_cond _ rfl (fun h3 => ?_) (fun h3 => ?_)
    ·skip
     have hh : hearB s m = s := hear_skip hd hm h0 (fun a1 a2 a3 => by simp [a1, a2, a3] at h3)
     refine r_retv hF rfl .n ?_ ?_
     ·refine Ent.catI ?_; rw [hh]; refine Ent.tr (bdealP_close (d := d) t hy rfl rfl rfl) ?_; refine Ent.tr (Ent.mono (SelX.ent (X := restP bdealP ts s.l i))) ?_; refine Ent.tr (many_back ht hd) ?_; refine Ent.c (bookP_close (s := s) (.slice (some ⟨bl, of, Option.none⟩) ll cl) ov ts hts rfl rfl rfl) ?_; repeat first|exact eR|refine eB ?_|refine eS ?_|refine eN ?_|refine eX ?_|refine eD ?_
     ·rfl
    ·skip
     have hk2 : m.kind = 2 := Classical.byContradiction fun q => by simp [q] at h3
     have hst0 : d.state = 0 := Classical.byContradiction fun q => by simp [q] at h3
     have hsh : shopOf m.ctr = m.shop := Classical.byContradiction fun q => by simp [q] at h3
     refine r_skip (r_sr (p_as rfl rfl (o_keep (.c 0 rfl (.c 3 rfl (.c 4 rfl (.c 5 rfl .n)))) (r_block ?_))))
     refine r_loop_1 (fun (j : Nat) => [(5, true, .int .i64 (j : Int))]) (.c 0 rfl (.c 3 rfl (.c 4 rfl .n))) (fun (j : Nat) => blk b ((.slice (some ⟨bl, of, Option.none⟩) ll cl) :: ov :: rest) T :: sl (.slice (some ⟨bl, of, Option.none⟩) ll cl) 106 4 (List.zipWith rowD ts s.l) :: sl ov 3 1 (s.order.map rI) :: restP bdealP ts s.l i :: sl t.wv 42 2 (d.wants.map rW) :: sl t.yv 3 1 (t.ys.map rI) :: sl t.tv 3 1 (d.over.map rI) :: blk b3 (rM m) 72 :: R) (fun (j : Nat) => j ≤ d.wants.length ∧ ∀ k : Nat, k < j → d.wants[k]? ≠ some ⟨m.ctr, m.dl⟩) (fun (j : Nat) => d.wants.length - j) (0) ?_ (.c 5 rfl .n) ?_ (fun j hI => ?_)
     ·exact ⟨Nat.zero_le _, fun k hk => by omega⟩
     ·repeat first|exact eR|refine eB ?_|refine eS ?_|refine eN ?_|refine eX ?_|refine eD ?_
     ·skip
      obtain ⟨hj0, hjk⟩ := hI
      refine r_seq (r_sr (p_mv rfl rfl (p_mv rfl rfl (p_nil rfl rfl (p_faat fa_106_0 (Rd.sh hrd (zip_get ht hd)) rfl rfl (p_ldat 0 tc_32 (Rd.ent hrd (by repeat (first | exact Ent.rfl | exact Ent.one Ent.h | exact Ent.one (SelS.ent) | exact Ent.nil | exact Ent.left | refine Ent.dropR ?_ | refine Ent.tr Ent.skip ?_))) (zip_get ht hd) rfl rfl rfl rfl ?_))))))
      refine l_op (x_p (pv_lens (Rd.len hrw) ⟨_, Tryz.underlying32⟩ (.n rfl) rfl rfl rfl rfl (fun _ => rfl)) rfl rfl (p_lss rfl rfl rfl (o_keep (.c 0 rfl (.c 3 rfl (.c 4 rfl (.c 5 rfl (.c 84 rfl .n))))) (r_cond _ rfl (fun h4 => ?_) (fun h4 => ?_)))))
      ·skip
       obtain ⟨w, hwj⟩ := getlt (l := d.wants) (i := j) (by have := of_decide_eq_true h4; omega)
       have hjl := (List.getElem?_eq_some_iff.1 hwj).1
       refine r_skip (r_seq (r_block (r_seq (r_seq ?_))))
       refine r_plan _ [] mo (.c 0 rfl (.c 3 rfl (.c 4 rfl (.c 5 rfl .n)))) Ent.rfl ?_
       refine qp 0 [.k 4] rfl rfl rfl rfl (by kernel_rfl) rfl (u_mv rfl rfl rfl) (qp 1 [.o 0] rfl rfl rfl rfl (by kernel_rfl) rfl (u_nil rfl rfl rfl) (qp 2 [.o 1] rfl rfl rfl rfl (by kernel_rfl) rfl (pv_faat fa_106_0 (fun hg => Rd.sh hrd (zip_get ht hd)) (.n rfl) rfl rfl (fun _ => rfl)) ?_))
       refine qr 3 [.o 2] rfl rfl rfl rfl (by kernel_rfl) rfl (fun He => rv_ldat (j := 0) tc_32 (Rd.ent hrd (by repeat (first | exact Ent.rfl | exact Ent.one Ent.h | exact Ent.one (SelS.ent) | exact Ent.nil | exact Ent.left | refine Ent.dropR ?_ | refine Ent.tr Ent.skip ?_))) (fun hg => (zip_get ht hd)) (.n rfl) rfl rfl (fun _ => rfl) rfl (fun _ => rfl)) ?_
       refine qp 4 [.k 5] rfl rfl rfl rfl (by kernel_rfl) rfl (u_mv rfl rfl rfl) (qp 5 [.o 3, .o 4] rfl rfl rfl rfl (by kernel_rfl) rfl (pv_idx Tryz.underlying32 (.ofA ta_42) hrw (fun hg => ⟨rfl, (mapget hwj)⟩) (.n rfl) rfl rfl rfl (fun _ => ⟨rfl, rfl⟩)) ?_)
       refine qr 6 [.o 5] rfl rfl rfl rfl (by kernel_rfl) rfl (fun He => rv_ldats (j := 0) ta_42 (Rd.ent hrw (by repeat (first | exact Ent.rfl | exact Ent.one Ent.h | exact Ent.one (SelS.ent) | exact Ent.nil | exact Ent.left | refine Ent.dropR ?_ | refine Ent.tr Ent.skip ?_))) (fun hg => (mapget hwj)) (.n rfl) rfl rfl (fun _ => rfl) rfl (.s (.s .z))) ?_
       refine qp 7 [.k 3] rfl rfl rfl rfl (by kernel_rfl) rfl (u_fa fa_72_3 rfl rfl rfl) (qr 8 [.o 7] rfl rfl rfl rfl (by kernel_rfl) rfl (fun He => q_lda ta_42 (.n rfl) rfl rfl (fun _ => rfl) (by exact (.s (.s .z)))) ?_)
       refine qp 9 [.o 6, .o 8] rfl rfl rfl rfl (by kernel_rfl) rfl (pv_ane ((eq_Want (m := w) (n := ⟨m.ctr, m.dl⟩))) (.n rfl) rfl rfl rfl (fun _ => ⟨rfl, rfl⟩)) ?_
       refine qm_n (by kernel_rfl) (by kernel_rfl) (by kernel_rfl) (by kernel_rfl) (.c 0 rfl (.c 3 rfl (.c 4 rfl (.c 5 rfl (.c 96 rfl .n))))) ?_
       refine r_cond _ rfl (fun h5 => ?_) (fun h5 => ?_)
       ·skip
        have hne : ¬ w = ⟨m.ctr, m.dl⟩ := fun q => by subst q; simp at h5
        refine r_exit rfl (r_region (p_mv rfl rfl (p_add rfl rfl (by omega) rfl (p_as rfl rfl (o_keep (.c 0 rfl (.c 3 rfl (.c 4 rfl (.c 5 rfl .n)))) ?_)))))
        refine r_back_1 (j + 1) ?_ ?_ (Keep.app (.c 5 rfl .n) (.c 0 rfl (.c 3 rfl (.c 4 rfl .n)))) ?_
        ·exact ⟨by omega, fun k hk => by rcases Nat.lt_succ_iff_lt_or_eq.1 hk with q | rfl; exact hjk k q; rw [hwj]; exact fun e => hne (Option.some.inj e)⟩
        ·omega
        ·repeat first|exact eR|refine eB ?_|refine eS ?_|refine eN ?_|refine eX ?_|refine eD ?_
       ·skip
        have hwe : w = ⟨m.ctr, m.dl⟩ := Classical.byContradiction fun q => by simp [q] at h5
        subst hwe
        have hsay := hear_say hd hm hk2 hst0 hsh (atW_first hwj hjk)
        refine r_skip (r_seq (r_sr (p_fa fa_72_4 rfl rfl (p_ldc tc_4 rfl (by rfl) rfl ?_))))
        refine p_not rfl rfl (o_keep (.c 0 rfl (.c 3 rfl (.c 4 rfl (.c 5 rfl (.c 99 rfl .n))))) (r_cond _ rfl (fun h6 => ?_) (fun h6 => ?_)))
        ·skip
         have hmy : m.yes = false := by simpa using h6
         have hh := hsay.1 hmy
         refine r_sr (p_mv rfl rfl (p_nil rfl rfl (p_faat fa_106_1 (Rd.sh hrd (zip_get ht hd)) rfl rfl ?_)))
         refine p_stel 1 (.ofC tc_3) rfl (zip_get ht hd) rfl rfl rfl rfl rfl (by repeat constructor) ?_
         refine o_keep (.c 0 rfl (.c 3 rfl (.c 4 rfl (.c 5 rfl .n)))) ?_
         refine r_retv hF rfl .n ?_ ?_
         ·refine Ent.catI ?_; rw [hh]; refine Ent.tr (bdealP_close (d := { d with state := 2 }) t ⟨hy.nd, hy.rng, hy.is⟩ rfl rfl rfl) ?_; refine Ent.tr (Ent.mono (SelX.ent (X := restP bdealP ts s.l i))) ?_; refine Ent.tr (many_in ht hd) ?_; refine Ent.c (bookP_close (s := ⟨s.l.set i { d with state := 2 }, s.order⟩) (.slice (some ⟨bl, of, Option.none⟩) ll cl) ov ts (by simpa using hts) rfl (zip_set1 ht) rfl) ?_; repeat first|exact eR|refine eB ?_|refine eS ?_|refine eN ?_|refine eX ?_|refine eD ?_
         ·rfl
        ·skip
         have hmy : m.yes = true := by simpa using h6
         refine r_skip (r_seq (r_sr (p_mv rfl rfl (p_nil rfl rfl (p_faat fa_106_2 (Rd.sh hrd (zip_get ht hd)) rfl rfl (p_ldat 2 tc_57 (Rd.ent hrd (by repeat (first | exact Ent.rfl | exact Ent.one Ent.h | exact Ent.one (SelS.ent) | exact Ent.nil | exact Ent.left | refine Ent.dropR ?_ | refine Ent.tr Ent.skip ?_))) (zip_get ht hd) rfl rfl rfl rfl ?_))))))
         refine p_mv rfl rfl ?_
         refine p_callv cf_77 (.c rfl (.c rfl .n)) rfl (ref_In _ _ t.yv t.ys (j : Int) (Rd.ent hry (by repeat (first | exact Ent.rfl | exact Ent.one Ent.h | exact Ent.one (SelS.ent) | exact Ent.nil | exact Ent.left | refine Ent.dropR ?_))) (by omega)) ?_
         refine p_not rfl rfl (o_keep (.c 0 rfl (.c 3 rfl (.c 4 rfl (.c 5 rfl (.c 109 rfl .n))))) ?_)
         refine r_cut_2 (fun (yv2 : Value) (ys2 : List Int) => []) (.c 0 rfl (.c 3 rfl (.c 4 rfl (.c 5 rfl .n)))) (fun (yv2 : Value) (ys2 : List Int) => blk b ((.slice (some ⟨bl, of, Option.none⟩) ll cl) :: ov :: rest) T :: sl (.slice (some ⟨bl, of, Option.none⟩) ll cl) 106 4 ((List.zipWith rowD ts s.l).set i [t.wv, .int .i64 d.state, yv2, t.tv]) :: sl ov 3 1 (s.order.map rI) :: restP bdealP ts s.l i :: sl t.wv 42 2 (d.wants.map rW) :: sl yv2 3 1 (ys2.map rI) :: sl t.tv 3 1 (d.over.map rI) :: blk b3 (rM m) 72 :: R) (fun (yv2 : Value) (ys2 : List Int) => YesR ys2 { d with yes := d.yes.set j true }) ?_ (fun yv2 ys2 hI => ?_)
         ·skip
          refine r_cond _ rfl (fun h7 => ?_) (fun h7 => ?_)
          ·skip
           have hni : (j : Int) ∉ t.ys := by simpa using h7
           refine r_region (p_mv rfl rfl (p_mv rfl rfl (p_nil rfl rfl (p_faat fa_106_2 (Rd.sh hrd (zip_get ht hd)) rfl rfl (p_ldat 2 tc_57 (Rd.ent hrd (by repeat (first | exact Ent.rfl | exact Ent.one Ent.h | exact Ent.one (SelS.ent) | exact Ent.nil | exact Ent.left | refine Ent.dropR ?_ | refine Ent.tr Ent.skip ?_))) (zip_get ht hd) rfl rfl rfl rfl ?_)))))
           refine p_mv rfl rfl ?_
           refine p_bslice1 Tryz.underlying57 (.ofC tc_3) zr_3 rfl rfl rfl rfl rfl rfl rfl fun b116 => ?_
           refine p_append Tryz.underlying57 el_3 rfl rfl rfl rfl rfl (Rd.blit rfl rfl) (by simp; omega) fun v117 => ?_
           refine o_rd v117 fun hr117 => ?_
           refine p_nil rfl rfl (p_faat fa_106_2 (Rd.sh hrd (zip_get ht hd)) rfl rfl ?_)
           refine p_stel 2 (.ofC tc_57) rfl (zip_get ht hd) rfl rfl hr117.c1 rfl hr117.o1 (by repeat constructor) ?_
           refine o_keep (.c 0 rfl (.c 3 rfl (.c 4 rfl (.c 5 rfl .n)))) ?_
           refine r_join_2 (v117) (t.ys ++ [(j : Int)]) ?_ (Keep.app (.n) (.c 0 rfl (.c 3 rfl (.c 4 rfl (.c 5 rfl .n))))) ?_
           ·exact hy.add hdy hjl hni
           ·rw [List.map_append]; repeat first|exact eR|refine eB ?_|refine eS ?_|refine eN ?_|refine eX ?_|refine eD ?_
          ·skip
           have hin : (j : Int) ∈ t.ys := by simpa using h7
           have hz : (List.zipWith rowD ts s.l).set i [t.wv, .int .i64 d.state, t.yv, t.tv] = List.zipWith rowD ts s.l := set_selfE (zip_get ht hd)
           refine r_skip ?_
           refine r_join_2 (t.yv) (t.ys) ?_ (Keep.app (.n) (.c 0 rfl (.c 3 rfl (.c 4 rfl (.c 5 rfl .n))))) ?_
           ·exact hy.same hjl hin
           ·rw [hz]; repeat first|exact eR|refine eB ?_|refine eS ?_|refine eN ?_|refine eX ?_|refine eD ?_
         have hy2 := hI
         have hyl2 : ys2.length ≤ d.wants.length := hy2.len
         refine r_rd (.slice (some ⟨bl, of, Option.none⟩) ll cl) fun hrd2 => ?_
         refine r_rd yv2 fun hry2 => ?_
         refine r_seq (r_seq ?_)
         refine r_plan _ [] mo (.c 0 rfl (.c 3 rfl (.c 4 rfl (.c 5 rfl .n)))) Ent.rfl ?_
         refine qp 0 [.k 4] rfl rfl rfl rfl (by kernel_rfl) rfl (u_mv rfl rfl rfl) (qp 1 [.o 0] rfl rfl rfl rfl (by kernel_rfl) rfl (u_nil rfl rfl rfl) (qp 2 [.o 1] rfl rfl rfl rfl (by kernel_rfl) rfl (pv_faat fa_106_2 (fun hg => Rd.sh hrd2 (sgs hzl)) (.n rfl) rfl rfl (fun _ => rfl)) ?_))
         refine qr 3 [.o 2] rfl rfl rfl rfl (by kernel_rfl) rfl (fun He => rv_ldat (j := 2) tc_57 (Rd.ent hrd2 (by repeat (first | exact Ent.rfl | exact Ent.one Ent.h | exact Ent.one (SelS.ent) | exact Ent.nil | exact Ent.left | refine Ent.dropR ?_ | refine Ent.tr Ent.skip ?_))) (fun hg => (sgs hzl)) (.n rfl) rfl rfl (fun _ => rfl) rfl (fun _ => rfl)) ?_
         refine qp 4 [.o 3] rfl rfl rfl rfl (by kernel_rfl) rfl (pv_lens (Rd.len hry2) ⟨_, Tryz.underlying57⟩ (.n rfl) rfl rfl rfl rfl (fun _ => rfl)) (qp 5 [.k 4] rfl rfl rfl rfl (by kernel_rfl) rfl (u_mv rfl rfl rfl) (qp 6 [.o 5] rfl rfl rfl rfl (by kernel_rfl) rfl (u_nil rfl rfl rfl) ?_))
         refine qp 7 [.o 6] rfl rfl rfl rfl (by kernel_rfl) rfl (pv_faat fa_106_0 (fun hg => Rd.sh hrd2 (sgs hzl)) (.n rfl) rfl rfl (fun _ => rfl)) ?_
         refine qr 8 [.o 7] rfl rfl rfl rfl (by kernel_rfl) rfl (fun He => rv_ldat (j := 0) tc_32 (Rd.ent hrd2 (by repeat (first | exact Ent.rfl | exact Ent.one Ent.h | exact Ent.one (SelS.ent) | exact Ent.nil | exact Ent.left | refine Ent.dropR ?_ | refine Ent.tr Ent.skip ?_))) (fun hg => (sgs hzl)) (.n rfl) rfl rfl (fun _ => rfl) rfl (fun _ => rfl)) ?_
         refine qp 9 [.o 8] rfl rfl rfl rfl (by kernel_rfl) rfl (pv_lens (Rd.len hrw) ⟨_, Tryz.underlying32⟩ (.n rfl) rfl rfl rfl rfl (fun _ => rfl)) (qp 10 [.o 4, .o 9] rfl rfl rfl rfl (by kernel_rfl) rfl (pv_eql (.n rfl) rfl rfl rfl (fun _ => ⟨rfl, rfl⟩)) ?_)
         refine qm_n (by kernel_rfl) (by kernel_rfl) (by kernel_rfl) (by kernel_rfl) (.c 0 rfl (.c 3 rfl (.c 4 rfl (.c 5 rfl (.c 130 rfl .n))))) ?_
         refine r_cond _ rfl (fun h8 => ?_) (fun h8 => ?_)
         ·skip
          have hf : ys2.length = d.wants.length := by have := of_decide_eq_true h8; omega
          have hh := (hsay.2 hmy).2 ((hy2.full hdy hjl).1 hf)
          refine r_sr (p_mv rfl rfl (p_nil rfl rfl (p_faat fa_106_1 (Rd.sh hrd2 (sgs hzl)) rfl rfl ?_)))
          refine p_stel 1 (.ofC tc_3) rfl (sgs hzl) rfl rfl rfl rfl rfl (by repeat constructor) ?_
          refine o_keep (.c 0 rfl (.c 3 rfl (.c 4 rfl (.c 5 rfl .n)))) ?_
          refine r_plan (_) ([sl ov 3 1 (s.order.map rI)]) mo (.c 0 rfl (.c 3 rfl (.c 4 rfl (.c 5 rfl .n)))) (SelS.ent) ?_
          refine qp 0 [.k 0] rfl rfl rfl rfl (by kernel_rfl) rfl (u_mv rfl rfl rfl) (qp 1 [.k 0] rfl rfl rfl rfl (by kernel_rfl) rfl (u_mv rfl rfl rfl) (qp 2 [.o 1] rfl rfl rfl rfl (by kernel_rfl) rfl (u_nil rfl rfl rfl) (qp 3 [.o 2] rfl rfl rfl rfl (by kernel_rfl) rfl (u_fa fa_59_1 rfl rfl rfl) (qr 4 [.o 3] rfl rfl rfl rfl (by kernel_rfl) rfl (fun He => u_ldc tc_57 rfl rfl rfl (by rfl)) ?_))))
          refine qp 5 [.k 3] rfl rfl rfl rfl (by kernel_rfl) rfl (u_fa fa_72_1 rfl rfl rfl) (qr 6 [.o 5] rfl rfl rfl rfl (by kernel_rfl) rfl (fun He => u_ldc tc_3 rfl rfl rfl (by rfl)) ?_)
          refine qm_bslice1 Tryz.underlying57 (.ofC tc_3) zr_3 rfl (i := 7) [.o 6] (by kernel_rfl) (by kernel_rfl) rfl rfl rfl rfl (by kernel_rfl) (by kernel_rfl) ⟨_, .n rfl, rfl⟩ rfl rfl rfl rfl rfl rfl fun b141 => ?_
          refine qa_append Tryz.underlying57 el_3 rfl rfl (i := 8) [.o 4, .o 7] (by kernel_rfl) (by kernel_rfl) rfl rfl rfl rfl (by kernel_rfl) (by kernel_rfl) ⟨_, .n rfl, rfl⟩ rfl rfl rfl (Rd.blit rfl rfl) (by simp; omega) fun v142 => ?_
          refine qm_rd v142 fun hr142 => ?_
          refine qp 9 [.o 0] rfl rfl rfl rfl (by kernel_rfl) rfl (u_nil rfl rfl rfl) (qp 10 [.o 9] rfl rfl rfl rfl (by kernel_rfl) rfl (u_fa fa_59_1 rfl rfl rfl) ?_)
          refine qb_store (.ofC tc_57) (i := 11) [.o 10, .o 8] (by kernel_rfl) (by kernel_rfl) rfl rfl rfl (by kernel_rfl) (by kernel_rfl) (by kernel_rfl) ⟨_, .n rfl, rfl⟩ rfl rfl rfl hr142.c1 rfl hr142.o1 (by repeat constructor) ?_
          refine qm_n (by kernel_rfl) (by kernel_rfl) (by kernel_rfl) (by kernel_rfl) (.c 0 rfl (.c 3 rfl (.c 4 rfl (.c 5 rfl .n)))) ?_
          refine r_retv hF rfl .n ?_ ?_
          ·refine Ent.catI ?_; rw [hh]; refine Ent.tr (bdealP_close (d := { d with yes := d.yes.set j true, state := 1 }) ⟨t.wv, yv2, t.tv, ys2⟩ ⟨hy2.nd, hy2.rng, hy2.is⟩ rfl rfl rfl) ?_; refine Ent.tr (Ent.mono (SelX.ent (X := restP bdealP ts s.l i))) ?_; refine Ent.tr (many_in2 (b' := ⟨t.wv, yv2, t.tv, ys2⟩) (d' := { d with yes := d.yes.set j true, state := 1 }) ht hd) ?_; refine Ent.c (bookP_close (s := ⟨s.l.set i { d with yes := d.yes.set j true, state := 1 }, s.order ++ [(i : Int)]⟩) (.slice (some ⟨bl, of, Option.none⟩) ll cl) v142 (ts.set i ⟨t.wv, yv2, t.tv, ys2⟩) (by simpa using hts) rfl ((List.set_set _).trans (zip_set (f := rowD) (b' := ⟨t.wv, yv2, t.tv, ys2⟩) (d' := { d with yes := d.yes.set j true, state := 1 }))) (by simp [rI, hm])) ?_; repeat first|exact eR|refine eB ?_|refine eS ?_|refine eN ?_|refine eX ?_|refine eD ?_
          ·rfl
         ·skip
          have hf : ¬ ys2.length = d.wants.length := by have := of_decide_eq_false h8; omega
          have hh := (hsay.2 hmy).1 (by cases hq : (d.yes.set j true).contains false with | true => rfl | false => exact absurd ((hy2.full hdy hjl).2 hq) hf)
          refine r_skip ?_
          refine r_retv hF rfl .n ?_ ?_
          ·refine Ent.catI ?_; rw [hh]; refine Ent.tr (bdealP_close (d := { d with yes := d.yes.set j true }) ⟨t.wv, yv2, t.tv, ys2⟩ hy2 rfl rfl rfl) ?_; refine Ent.tr (Ent.mono (SelX.ent (X := restP bdealP ts s.l i))) ?_; refine Ent.tr (many_in2 (b' := ⟨t.wv, yv2, t.tv, ys2⟩) (d' := { d with yes := d.yes.set j true }) ht hd) ?_; refine Ent.c (bookP_close (s := ⟨s.l.set i { d with yes := d.yes.set j true }, s.order⟩) (.slice (some ⟨bl, of, Option.none⟩) ll cl) ov (ts.set i ⟨t.wv, yv2, t.tv, ys2⟩) (by simpa using hts) rfl (zip_set (f := rowD) (b' := ⟨t.wv, yv2, t.tv, ys2⟩) (d' := { d with yes := d.yes.set j true })) rfl) ?_; repeat first|exact eR|refine eB ?_|refine eS ?_|refine eN ?_|refine eX ?_|refine eD ?_
          ·rfl
      ·skip
       have hje : d.wants.length ≤ j := by have := of_decide_eq_false h4; omega
       have hh : hearB s m = s := hear_none hd hm hk2 (atW_non fun k hk => hjk k (by omega))
       refine r_exit rfl ?_
       refine r_fallc hF rfl ?_
       ·refine Ent.catI ?_; rw [hh]; refine Ent.tr (bdealP_close (d := d) t hy rfl rfl rfl) ?_; refine Ent.tr (Ent.mono (SelX.ent (X := restP bdealP ts s.l i))) ?_; refine Ent.tr (many_back ht hd) ?_; refine Ent.c (bookP_close (s := s) (.slice (some ⟨bl, of, Option.none⟩) ll cl) ov ts hts rfl rfl rfl) ?_; repeat first|exact eR|refine eB ?_|refine eS ?_|refine eN ?_|refine eX ?_|refine eD ?_
  ·skip
   refine r_plan _ [] mo (.c 0 rfl (.c 3 rfl (.c 4 rfl .n))) Ent.rfl ?_
   refine qp 0 [.k 3] rfl rfl rfl rfl (by kernel_rfl) rfl (u_fa fa_72_0 rfl rfl rfl) (qr 1 [.o 0] rfl rfl rfl rfl (by kernel_rfl) rfl (fun He => u_ldc tc_3 rfl rfl rfl (by rfl)) ?_)
   refine qp 2 [.o 1] rfl rfl rfl rfl (by kernel_rfl) rfl (pv_to (pv_eql (.n rfl) rfl rfl rfl (fun _ => ⟨rfl, rfl⟩)) (show _ = Value.bool true from bool_eq (by simp [h4]))) (qp 3 [.o 2] rfl rfl rfl rfl (by kernel_rfl) rfl (u_mv rfl rfl rfl) (qp 4 [.k 4, .o 3] rfl rfl rfl rfl (by kernel_rfl) rfl (pv_ung (.s rfl rfl rfl) rfl (u_mv rfl rfl rfl)) ?_))
   refine qp 5 [.o 4, .o 3] rfl rfl rfl rfl (by kernel_rfl) rfl (pv_ung (.s rfl rfl rfl) rfl (u_nil rfl rfl rfl)) (qp 6 [.o 5, .o 3] rfl rfl rfl rfl (by kernel_rfl) rfl (pv_ung (.s rfl rfl rfl) rfl (pv_faat fa_106_1 (fun hg => Rd.sh hrd (zip_get ht hd)) (.n rfl) rfl rfl (fun _ => rfl))) ?_)
   refine qr 7 [.o 6, .o 3] rfl rfl rfl rfl (by kernel_rfl) rfl (fun He => rv_ung (.s rfl rfl rfl) rfl (rv_ldat (j := 1) tc_3 (Rd.ent hrd (by repeat (first | exact Ent.rfl | exact Ent.one Ent.h | exact Ent.one (SelS.ent) | exact Ent.nil | exact Ent.left | refine Ent.dropR ?_ | refine Ent.tr Ent.skip ?_))) (fun hg => (zip_get ht hd)) (.n rfl) rfl rfl (fun _ => rfl) rfl (fun _ => rfl))) ?_
   refine qp 8 [.o 7, .o 3] rfl rfl rfl rfl (by kernel_rfl) rfl (pv_ung (.s rfl rfl rfl) rfl (pv_to (pv_neq (.n rfl) rfl rfl rfl (fun _ => ⟨rfl, rfl⟩)) (show _ = Value.bool false from bool_eq (by simp [h0])))) ?_
   refine qp 9 [.o 3, .o 8] rfl rfl rfl rfl (by kernel_rfl) rfl (pv_and (.n rfl) rfl rfl rfl (fun _ => ⟨rfl, fun hc => by first | rfl | (rw [hc]; rfl) | simp_all⟩)) ?_
   refine qp 10 [.o 9] rfl rfl rfl rfl (by kernel_rfl) rfl (u_mv rfl rfl rfl) ?_
   refine qm_q (i := 11) (l := [.k 4, .o 10]) rfl rfl rfl rfl (by kernel_rfl) rfl (fun He => rq_no (v := .bool false) (.s rfl rfl rfl) rfl) ?_
   refine qm_q (i := 12) (l := [.o 11, .o 10]) rfl rfl rfl rfl (by kernel_rfl) rfl (fun He => rq_no (v := .bool false) (.s rfl rfl rfl) rfl) ?_
   refine qm_q (i := 13) (l := [.o 12, .o 10]) rfl rfl rfl rfl (by kernel_rfl) rfl (fun He => rq_no (v := .bool false) (.s rfl rfl rfl) rfl) ?_
   refine qm_q (i := 14) (l := [.o 13, .o 10]) rfl rfl rfl rfl (by kernel_rfl) rfl (fun He => rq_no (v := .bool false) (.s rfl rfl rfl) rfl) ?_
   refine qm_q (i := 15) (l := [.o 14, .o 10]) rfl rfl rfl rfl (by kernel_rfl) rfl (fun He => rq_no (v := .bool false) (.s rfl rfl rfl) rfl) ?_
   refine qm_q (i := 16) (l := [.k 3, .o 10]) rfl rfl rfl rfl (by kernel_rfl) rfl (fun He => rq_no (v := .bool false) (.s rfl rfl rfl) rfl) ?_
   refine qm_q (i := 17) (l := [.o 16, .o 10]) rfl rfl rfl rfl (by kernel_rfl) rfl (fun He => rq_no (v := .bool false) (.s rfl rfl rfl) rfl) ?_
   refine qm_q (i := 18) (l := [.o 15, .o 17, .o 10]) rfl rfl rfl rfl (by kernel_rfl) rfl (fun He => rq_no (v := .bool false) (.s rfl rfl rfl) rfl) ?_
   refine qp 19 [.o 10, .o 18] rfl rfl rfl rfl (by kernel_rfl) rfl (pv_andf (.n rfl) rfl rfl (fun _ => rfl)) (qp 20 [.o 19] rfl rfl rfl rfl (by kernel_rfl) rfl (u_mv rfl rfl rfl) ?_)
   refine qm_q (i := 21) (l := [.k 4, .o 20]) rfl rfl rfl rfl (by kernel_rfl) rfl (fun He => rq_no (v := .bool false) (.s rfl rfl rfl) rfl) ?_
   refine qm_q (i := 22) (l := [.o 21, .o 20]) rfl rfl rfl rfl (by kernel_rfl) rfl (fun He => rq_no (v := .bool false) (.s rfl rfl rfl) rfl) ?_
   refine qm_q (i := 23) (l := [.o 22, .o 20]) rfl rfl rfl rfl (by kernel_rfl) rfl (fun He => rq_no (v := .bool false) (.s rfl rfl rfl) rfl) ?_
   refine qm_q (i := 24) (l := [.o 23, .o 20]) rfl rfl rfl rfl (by kernel_rfl) rfl (fun He => rq_no (v := .bool false) (.s rfl rfl rfl) rfl) ?_
   refine qm_q (i := 25) (l := [.k 3, .o 20]) rfl rfl rfl rfl (by kernel_rfl) rfl (fun He => rq_no (v := .bool false) (.s rfl rfl rfl) rfl) ?_
   refine qm_q (i := 26) (l := [.o 25, .o 20]) rfl rfl rfl rfl (by kernel_rfl) rfl (fun He => rq_no (v := .bool false) (.s rfl rfl rfl) rfl) ?_
   refine qm_q (i := 27) (l := [.o 24, .o 26, .o 20]) rfl rfl rfl rfl (by kernel_rfl) rfl (fun He => rq_no (v := .bool false) (.s rfl rfl rfl) rfl) ?_
   refine qm_q (i := 28) (l := [.o 27, .o 20]) rfl rfl rfl rfl (by kernel_rfl) rfl (fun He => rq_no (v := .bool false) (.s rfl rfl rfl) rfl) ?_
   refine qp 29 [.o 20, .o 28] rfl rfl rfl rfl (by kernel_rfl) rfl (pv_andf (.n rfl) rfl rfl (fun _ => rfl)) ?_
   refine qm_n (by kernel_rfl) (by kernel_rfl) (by kernel_rfl) (by kernel_rfl) (.c 0 rfl (.c 3 rfl (.c 4 rfl (.c 47 rfl .n)))) ?_
   refine r_cond _ rfl (fun h9 => ?_) (fun h9 => ?_)
   ·simp at h9
   ·skip
    have hh : hearB s m = s := by rw [hear_over hd hm h4, if_neg (fun q => q.1 h0)]
    refine r_skip (r_seq (r_seq ?_))
    refine r_plan _ [] mo (.c 0 rfl (.c 3 rfl (.c 4 rfl .n))) Ent.rfl ?_
    refine qp 0 [.k 3] rfl rfl rfl rfl (by kernel_rfl) rfl (u_fa fa_72_0 rfl rfl rfl) (qr 1 [.o 0] rfl rfl rfl rfl (by kernel_rfl) rfl (fun He => u_ldc tc_3 rfl rfl rfl (by rfl)) ?_)
    refine qp 2 [.o 1] rfl rfl rfl rfl (by kernel_rfl) rfl (pv_to (pv_neq (.n rfl) rfl rfl rfl (fun _ => ⟨rfl, rfl⟩)) (show _ = Value.bool true from bool_eq (by simp [h4]))) (qp 3 [.o 2] rfl rfl rfl rfl (by kernel_rfl) rfl (u_mv rfl rfl rfl) ?_)
    refine qm_q (i := 4) (l := [.k 4, .o 3]) rfl rfl rfl rfl (by kernel_rfl) rfl (fun He => rq_no (v := .bool false) (.s rfl rfl rfl) rfl) ?_
    refine qm_q (i := 5) (l := [.o 4, .o 3]) rfl rfl rfl rfl (by kernel_rfl) rfl (fun He => rq_no (v := .bool false) (.s rfl rfl rfl) rfl) ?_
    refine qm_q (i := 6) (l := [.o 5, .o 3]) rfl rfl rfl rfl (by kernel_rfl) rfl (fun He => rq_no (v := .bool false) (.s rfl rfl rfl) rfl) ?_
    refine qm_q (i := 7) (l := [.o 6, .o 3]) rfl rfl rfl rfl (by kernel_rfl) rfl (fun He => rq_no (v := .bool false) (.s rfl rfl rfl) rfl) ?_
    refine qm_q (i := 8) (l := [.o 7, .o 3]) rfl rfl rfl rfl (by kernel_rfl) rfl (fun He => rq_no (v := .bool false) (.s rfl rfl rfl) rfl) ?_
    refine qp 9 [.o 3, .o 8] rfl rfl rfl rfl (by kernel_rfl) rfl (pv_ort (.n rfl) rfl rfl (fun _ => rfl)) (qp 10 [.o 9] rfl rfl rfl rfl (by kernel_rfl) rfl (u_mv rfl rfl rfl) ?_)
    refine qm_q (i := 11) (l := [.k 3, .o 10]) rfl rfl rfl rfl (by kernel_rfl) rfl (fun He => rq_no (v := .bool false) (.s rfl rfl rfl) rfl) ?_
    refine qm_q (i := 12) (l := [.o 11, .o 10]) rfl rfl rfl rfl (by kernel_rfl) rfl (fun He => rq_no (v := .bool false) (.s rfl rfl rfl) rfl) ?_
    refine qm_q (i := 13) (l := [.o 12, .o 10]) rfl rfl rfl rfl (by kernel_rfl) rfl (fun He => rq_no (v := .bool false) (.s rfl rfl rfl) rfl) ?_
    refine qm_q (i := 14) (l := [.o 13, .o 10]) rfl rfl rfl rfl (by kernel_rfl) rfl (fun He => rq_no (v := .bool false) (.s rfl rfl rfl) rfl) ?_
    refine qm_q (i := 15) (l := [.k 3, .o 10]) rfl rfl rfl rfl (by kernel_rfl) rfl (fun He => rq_no (v := .bool false) (.s rfl rfl rfl) rfl) ?_
    refine qm_q (i := 16) (l := [.o 15, .o 10]) rfl rfl rfl rfl (by kernel_rfl) rfl (fun He => rq_no (v := .bool false) (.s rfl rfl rfl) rfl) ?_
    refine qm_q (i := 17) (l := [.o 14, .o 16, .o 10]) rfl rfl rfl rfl (by kernel_rfl) rfl (fun He => rq_no (v := .bool false) (.s rfl rfl rfl) rfl) ?_
    refine qp 18 [.o 10, .o 17] rfl rfl rfl rfl (by kernel_rfl) rfl (pv_ort (.n rfl) rfl rfl (fun _ => rfl)) ?_
    refine qm_n (by kernel_rfl) (by kernel_rfl) (by kernel_rfl) (by kernel_rfl) (.c 0 rfl (.c 3 rfl (.c 4 rfl (.c 77 rfl .n)))) ?_
    refine r_cond _ rfl (fun h10 => ?_) (fun h10 => ?_)
    ·skip
     refine r_retv hF rfl .n ?_ ?_
     ·refine Ent.catI ?_; rw [hh]; refine Ent.tr (bdealP_close (d := d) t hy rfl rfl rfl) ?_; refine Ent.tr (Ent.mono (SelX.ent (X := restP bdealP ts s.l i))) ?_; refine Ent.tr (many_back ht hd) ?_; refine Ent.c (bookP_close (s := s) (.slice (some ⟨bl, of, Option.none⟩) ll cl) ov ts hts rfl rfl rfl) ?_; repeat first|exact eR|refine eB ?_|refine eS ?_|refine eN ?_|refine eX ?_|refine eD ?_
     ·rfl
    ·simp at h10
  ·skip
   refine r_plan _ [] mo (.c 0 rfl (.c 3 rfl (.c 4 rfl .n))) Ent.rfl ?_
   refine qp 0 [.k 3] rfl rfl rfl rfl (by kernel_rfl) rfl (u_fa fa_72_0 rfl rfl rfl) (qr 1 [.o 0] rfl rfl rfl rfl (by kernel_rfl) rfl (fun He => u_ldc tc_3 rfl rfl rfl (by rfl)) ?_)
   refine qp 2 [.o 1] rfl rfl rfl rfl (by kernel_rfl) rfl (pv_to (pv_eql (.n rfl) rfl rfl rfl (fun _ => ⟨rfl, rfl⟩)) (show _ = Value.bool true from bool_eq (by simp [h4]))) (qp 3 [.o 2] rfl rfl rfl rfl (by kernel_rfl) rfl (u_mv rfl rfl rfl) (qp 4 [.k 4, .o 3] rfl rfl rfl rfl (by kernel_rfl) rfl (pv_ung (.s rfl rfl rfl) rfl (u_mv rfl rfl rfl)) ?_))
   refine qp 5 [.o 4, .o 3] rfl rfl rfl rfl (by kernel_rfl) rfl (pv_ung (.s rfl rfl rfl) rfl (u_nil rfl rfl rfl)) (qp 6 [.o 5, .o 3] rfl rfl rfl rfl (by kernel_rfl) rfl (pv_ung (.s rfl rfl rfl) rfl (pv_faat fa_106_1 (fun hg => Rd.sh hrd (zip_get ht hd)) (.n rfl) rfl rfl (fun _ => rfl))) ?_)
   refine qr 7 [.o 6, .o 3] rfl rfl rfl rfl (by kernel_rfl) rfl (fun He => rv_ung (.s rfl rfl rfl) rfl (rv_ldat (j := 1) tc_3 (Rd.ent hrd (by repeat (first | exact Ent.rfl | exact Ent.one Ent.h | exact Ent.one (SelS.ent) | exact Ent.nil | exact Ent.left | refine Ent.dropR ?_ | refine Ent.tr Ent.skip ?_))) (fun hg => (zip_get ht hd)) (.n rfl) rfl rfl (fun _ => rfl) rfl (fun _ => rfl))) ?_
   refine qp 8 [.o 7, .o 3] rfl rfl rfl rfl (by kernel_rfl) rfl (pv_ung (.s rfl rfl rfl) rfl (pv_to (pv_neq (.n rfl) rfl rfl rfl (fun _ => ⟨rfl, rfl⟩)) (show _ = Value.bool true from bool_eq (by simp [h0])))) ?_
   refine qp 9 [.o 3, .o 8] rfl rfl rfl rfl (by kernel_rfl) rfl (pv_and (.n rfl) rfl rfl rfl (fun _ => ⟨rfl, fun hc => by first | rfl | (rw [hc]; rfl) | simp_all⟩)) ?_
   refine qp 10 [.o 9] rfl rfl rfl rfl (by kernel_rfl) rfl (u_mv rfl rfl rfl) (qp 11 [.k 4, .o 10] rfl rfl rfl rfl (by kernel_rfl) rfl (pv_ung (.s rfl rfl rfl) rfl (u_mv rfl rfl rfl)) (qp 12 [.o 11, .o 10] rfl rfl rfl rfl (by kernel_rfl) rfl (pv_ung (.s rfl rfl rfl) rfl (u_nil rfl rfl rfl)) ?_))
   refine qp 13 [.o 12, .o 10] rfl rfl rfl rfl (by kernel_rfl) rfl (pv_ung (.s rfl rfl rfl) rfl (pv_faat fa_106_0 (fun hg => Rd.sh hrd (zip_get ht hd)) (.n rfl) rfl rfl (fun _ => rfl))) ?_
   refine qr 14 [.o 13, .o 10] rfl rfl rfl rfl (by kernel_rfl) rfl (fun He => rv_ung (.s rfl rfl rfl) rfl (rv_ldat (j := 0) tc_32 (Rd.ent hrd (by repeat (first | exact Ent.rfl | exact Ent.one Ent.h | exact Ent.one (SelS.ent) | exact Ent.nil | exact Ent.left | refine Ent.dropR ?_ | refine Ent.tr Ent.skip ?_))) (fun hg => (zip_get ht hd)) (.n rfl) rfl rfl (fun _ => rfl) rfl (fun _ => rfl))) ?_
   refine qp 16 [.k 3, .o 10] rfl rfl rfl rfl (by kernel_rfl) rfl (pv_ung (.s rfl rfl rfl) rfl (u_fa fa_72_2 rfl rfl rfl)) (qr 17 [.o 16, .o 10] rfl rfl rfl rfl (by kernel_rfl) rfl (fun He => rv_ung (.s rfl rfl rfl) rfl (u_ldc tc_3 rfl rfl rfl (by rfl))) ?_)
   refine qm_calln (i := 15) [.o 14, .o 10] (by kernel_rfl) (by kernel_rfl) rfl rfl rfl rfl (by kernel_rfl) (by kernel_rfl) ⟨_, .s rfl rfl rfl, rfl⟩ cf_79 rfl (.c rfl .n) (ref_ShopsOfN _ [sl t.wv 42 2 (d.wants.map rW)] t.wv d.wants hrw (by omega)) fun sv => ?_
   refine qm_cat ?_
   refine qm_rd sv fun hrs => ?_
   refine qm_keep ?_
   refine qm_q (i := 18) (l := [.o 15, .o 17, .o 10]) rfl rfl rfl rfl (by kernel_rfl) rfl (fun He => rq_ung (.s rfl rfl rfl) rfl (rq_call cf_77 (.n rfl) rfl (.c rfl (fun _ => rfl) (.c rfl (fun _ => rfl) .n)) (fun hg => fnv_to (ref_In _ _ sv (shopsL d.wants) m.shop hrs.own (by have : (shopsL d.wants).length ≤ 3 := List.length_filter_le _ _; omega)) (by rw [hsn])))) ?_
   refine qp 19 [.o 10, .o 18] rfl rfl rfl rfl (by kernel_rfl) rfl (pv_and (.n rfl) rfl rfl rfl (fun _ => ⟨rfl, fun hc => by first | rfl | (rw [hc]; rfl) | simp_all⟩)) ?_
   refine qp 20 [.o 19] rfl rfl rfl rfl (by kernel_rfl) rfl (u_mv rfl rfl rfl) ?_
   refine qm_q (i := 21) (l := [.k 4, .o 20]) rfl rfl rfl rfl (by kernel_rfl) rfl (fun He => rq_no (v := .bool false) (.s rfl rfl rfl) rfl) ?_
   refine qm_q (i := 22) (l := [.o 21, .o 20]) rfl rfl rfl rfl (by kernel_rfl) rfl (fun He => rq_no (v := .bool false) (.s rfl rfl rfl) rfl) ?_
   refine qm_q (i := 23) (l := [.o 22, .o 20]) rfl rfl rfl rfl (by kernel_rfl) rfl (fun He => rq_no (v := .bool false) (.s rfl rfl rfl) rfl) ?_
   refine qm_q (i := 24) (l := [.o 23, .o 20]) rfl rfl rfl rfl (by kernel_rfl) rfl (fun He => rq_no (v := .bool false) (.s rfl rfl rfl) rfl) ?_
   refine qm_q (i := 25) (l := [.k 3, .o 20]) rfl rfl rfl rfl (by kernel_rfl) rfl (fun He => rq_no (v := .bool false) (.s rfl rfl rfl) rfl) ?_
   refine qm_q (i := 26) (l := [.o 25, .o 20]) rfl rfl rfl rfl (by kernel_rfl) rfl (fun He => rq_no (v := .bool false) (.s rfl rfl rfl) rfl) ?_
   refine qm_q (i := 27) (l := [.o 24, .o 26, .o 20]) rfl rfl rfl rfl (by kernel_rfl) rfl (fun He => rq_no (v := .bool false) (.s rfl rfl rfl) rfl) ?_
   refine qm_q (i := 28) (l := [.o 27, .o 20]) rfl rfl rfl rfl (by kernel_rfl) rfl (fun He => rq_no (v := .bool false) (.s rfl rfl rfl) rfl) ?_
   refine qp 29 [.o 20, .o 28] rfl rfl rfl rfl (by kernel_rfl) rfl (pv_andf (.n rfl) rfl rfl (fun _ => rfl)) ?_
   refine qm_n (by kernel_rfl) (by kernel_rfl) (by kernel_rfl) (by kernel_rfl) (.c 0 rfl (.c 3 rfl (.c 4 rfl (.c 47 rfl .n)))) ?_
   refine r_cond _ rfl (fun h11 => ?_) (fun h11 => ?_)
   ·simp at h11
   ·skip
    have hh : hearB s m = s := by rw [hear_over hd hm h4, if_neg (fun q => by rw [hsn] at q; cases q.2.1)]
    refine r_skip (r_seq (r_seq ?_))
    refine r_plan _ [] mo (.c 0 rfl (.c 3 rfl (.c 4 rfl .n))) Ent.rfl ?_
    refine qp 0 [.k 3] rfl rfl rfl rfl (by kernel_rfl) rfl (u_fa fa_72_0 rfl rfl rfl) (qr 1 [.o 0] rfl rfl rfl rfl (by kernel_rfl) rfl (fun He => u_ldc tc_3 rfl rfl rfl (by rfl)) ?_)
    refine qp 2 [.o 1] rfl rfl rfl rfl (by kernel_rfl) rfl (pv_to (pv_neq (.n rfl) rfl rfl rfl (fun _ => ⟨rfl, rfl⟩)) (show _ = Value.bool true from bool_eq (by simp [h4]))) (qp 3 [.o 2] rfl rfl rfl rfl (by kernel_rfl) rfl (u_mv rfl rfl rfl) ?_)
    refine qm_q (i := 4) (l := [.k 4, .o 3]) rfl rfl rfl rfl (by kernel_rfl) rfl (fun He => rq_no (v := .bool false) (.s rfl rfl rfl) rfl) ?_
    refine qm_q (i := 5) (l := [.o 4, .o 3]) rfl rfl rfl rfl (by kernel_rfl) rfl (fun He => rq_no (v := .bool false) (.s rfl rfl rfl) rfl) ?_
    refine qm_q (i := 6) (l := [.o 5, .o 3]) rfl rfl rfl rfl (by kernel_rfl) rfl (fun He => rq_no (v := .bool false) (.s rfl rfl rfl) rfl) ?_
    refine qm_q (i := 7) (l := [.o 6, .o 3]) rfl rfl rfl rfl (by kernel_rfl) rfl (fun He => rq_no (v := .bool false) (.s rfl rfl rfl) rfl) ?_
    refine qm_q (i := 8) (l := [.o 7, .o 3]) rfl rfl rfl rfl (by kernel_rfl) rfl (fun He => rq_no (v := .bool false) (.s rfl rfl rfl) rfl) ?_
    refine qp 9 [.o 3, .o 8] rfl rfl rfl rfl (by kernel_rfl) rfl (pv_ort (.n rfl) rfl rfl (fun _ => rfl)) (qp 10 [.o 9] rfl rfl rfl rfl (by kernel_rfl) rfl (u_mv rfl rfl rfl) ?_)
    refine qm_q (i := 11) (l := [.k 3, .o 10]) rfl rfl rfl rfl (by kernel_rfl) rfl (fun He => rq_no (v := .bool false) (.s rfl rfl rfl) rfl) ?_
    refine qm_q (i := 12) (l := [.o 11, .o 10]) rfl rfl rfl rfl (by kernel_rfl) rfl (fun He => rq_no (v := .bool false) (.s rfl rfl rfl) rfl) ?_
    refine qm_q (i := 13) (l := [.o 12, .o 10]) rfl rfl rfl rfl (by kernel_rfl) rfl (fun He => rq_no (v := .bool false) (.s rfl rfl rfl) rfl) ?_
    refine qm_q (i := 14) (l := [.o 13, .o 10]) rfl rfl rfl rfl (by kernel_rfl) rfl (fun He => rq_no (v := .bool false) (.s rfl rfl rfl) rfl) ?_
    refine qm_q (i := 15) (l := [.k 3, .o 10]) rfl rfl rfl rfl (by kernel_rfl) rfl (fun He => rq_no (v := .bool false) (.s rfl rfl rfl) rfl) ?_
    refine qm_q (i := 16) (l := [.o 15, .o 10]) rfl rfl rfl rfl (by kernel_rfl) rfl (fun He => rq_no (v := .bool false) (.s rfl rfl rfl) rfl) ?_
    refine qm_q (i := 17) (l := [.o 14, .o 16, .o 10]) rfl rfl rfl rfl (by kernel_rfl) rfl (fun He => rq_no (v := .bool false) (.s rfl rfl rfl) rfl) ?_
    refine qp 18 [.o 10, .o 17] rfl rfl rfl rfl (by kernel_rfl) rfl (pv_ort (.n rfl) rfl rfl (fun _ => rfl)) ?_
    refine qm_n (by kernel_rfl) (by kernel_rfl) (by kernel_rfl) (by kernel_rfl) (.c 0 rfl (.c 3 rfl (.c 4 rfl (.c 77 rfl .n)))) ?_
    refine r_cond _ rfl (fun h12 => ?_) (fun h12 => ?_)
    ·skip
     refine r_retv hF rfl .n ?_ ?_
     ·refine Ent.catI ?_; rw [hh]; refine Ent.tr (bdealP_close (d := d) t hy rfl rfl rfl) ?_; refine Ent.tr (Ent.mono (SelX.ent (X := restP bdealP ts s.l i))) ?_; refine Ent.tr (many_back ht hd) ?_; refine Ent.c (bookP_close (s := s) (.slice (some ⟨bl, of, Option.none⟩) ll cl) ov ts hts rfl rfl rfl) ?_; repeat first|exact eR|refine eB ?_|refine eS ?_|refine eN ?_|refine eX ?_|refine eD ?_
     ·rfl
    ·simp at h12
  ·skip
   refine r_plan _ [] mo (.c 0 rfl (.c 3 rfl (.c 4 rfl .n))) Ent.rfl ?_
   refine qp 0 [.k 3] rfl rfl rfl rfl (by kernel_rfl) rfl (u_fa fa_72_0 rfl rfl rfl) (qr 1 [.o 0] rfl rfl rfl rfl (by kernel_rfl) rfl (fun He => u_ldc tc_3 rfl rfl rfl (by rfl)) ?_)
   refine qp 2 [.o 1] rfl rfl rfl rfl (by kernel_rfl) rfl (pv_to (pv_eql (.n rfl) rfl rfl rfl (fun _ => ⟨rfl, rfl⟩)) (show _ = Value.bool true from bool_eq (by simp [h4]))) (qp 3 [.o 2] rfl rfl rfl rfl (by kernel_rfl) rfl (u_mv rfl rfl rfl) (qp 4 [.k 4, .o 3] rfl rfl rfl rfl (by kernel_rfl) rfl (pv_ung (.s rfl rfl rfl) rfl (u_mv rfl rfl rfl)) ?_))
   refine qp 5 [.o 4, .o 3] rfl rfl rfl rfl (by kernel_rfl) rfl (pv_ung (.s rfl rfl rfl) rfl (u_nil rfl rfl rfl)) (qp 6 [.o 5, .o 3] rfl rfl rfl rfl (by kernel_rfl) rfl (pv_ung (.s rfl rfl rfl) rfl (pv_faat fa_106_1 (fun hg => Rd.sh hrd (zip_get ht hd)) (.n rfl) rfl rfl (fun _ => rfl))) ?_)
   refine qr 7 [.o 6, .o 3] rfl rfl rfl rfl (by kernel_rfl) rfl (fun He => rv_ung (.s rfl rfl rfl) rfl (rv_ldat (j := 1) tc_3 (Rd.ent hrd (by repeat (first | exact Ent.rfl | exact Ent.one Ent.h | exact Ent.one (SelS.ent) | exact Ent.nil | exact Ent.left | refine Ent.dropR ?_ | refine Ent.tr Ent.skip ?_))) (fun hg => (zip_get ht hd)) (.n rfl) rfl rfl (fun _ => rfl) rfl (fun _ => rfl))) ?_
   refine qp 8 [.o 7, .o 3] rfl rfl rfl rfl (by kernel_rfl) rfl (pv_ung (.s rfl rfl rfl) rfl (pv_to (pv_neq (.n rfl) rfl rfl rfl (fun _ => ⟨rfl, rfl⟩)) (show _ = Value.bool true from bool_eq (by simp [h0])))) ?_
   refine qp 9 [.o 3, .o 8] rfl rfl rfl rfl (by kernel_rfl) rfl (pv_and (.n rfl) rfl rfl rfl (fun _ => ⟨rfl, fun hc => by first | rfl | (rw [hc]; rfl) | simp_all⟩)) ?_
   refine qp 10 [.o 9] rfl rfl rfl rfl (by kernel_rfl) rfl (u_mv rfl rfl rfl) (qp 11 [.k 4, .o 10] rfl rfl rfl rfl (by kernel_rfl) rfl (pv_ung (.s rfl rfl rfl) rfl (u_mv rfl rfl rfl)) (qp 12 [.o 11, .o 10] rfl rfl rfl rfl (by kernel_rfl) rfl (pv_ung (.s rfl rfl rfl) rfl (u_nil rfl rfl rfl)) ?_))
   refine qp 13 [.o 12, .o 10] rfl rfl rfl rfl (by kernel_rfl) rfl (pv_ung (.s rfl rfl rfl) rfl (pv_faat fa_106_0 (fun hg => Rd.sh hrd (zip_get ht hd)) (.n rfl) rfl rfl (fun _ => rfl))) ?_
   refine qr 14 [.o 13, .o 10] rfl rfl rfl rfl (by kernel_rfl) rfl (fun He => rv_ung (.s rfl rfl rfl) rfl (rv_ldat (j := 0) tc_32 (Rd.ent hrd (by repeat (first | exact Ent.rfl | exact Ent.one Ent.h | exact Ent.one (SelS.ent) | exact Ent.nil | exact Ent.left | refine Ent.dropR ?_ | refine Ent.tr Ent.skip ?_))) (fun hg => (zip_get ht hd)) (.n rfl) rfl rfl (fun _ => rfl) rfl (fun _ => rfl))) ?_
   refine qp 16 [.k 3, .o 10] rfl rfl rfl rfl (by kernel_rfl) rfl (pv_ung (.s rfl rfl rfl) rfl (u_fa fa_72_2 rfl rfl rfl)) (qr 17 [.o 16, .o 10] rfl rfl rfl rfl (by kernel_rfl) rfl (fun He => rv_ung (.s rfl rfl rfl) rfl (u_ldc tc_3 rfl rfl rfl (by rfl))) ?_)
   refine qm_calln (i := 15) [.o 14, .o 10] (by kernel_rfl) (by kernel_rfl) rfl rfl rfl rfl (by kernel_rfl) (by kernel_rfl) ⟨_, .s rfl rfl rfl, rfl⟩ cf_79 rfl (.c rfl .n) (ref_ShopsOfN _ [sl t.wv 42 2 (d.wants.map rW)] t.wv d.wants hrw (by omega)) fun sv => ?_
   refine qm_cat ?_
   refine qm_rd sv fun hrs => ?_
   refine qm_keep ?_
   refine qm_q (i := 18) (l := [.o 15, .o 17, .o 10]) rfl rfl rfl rfl (by kernel_rfl) rfl (fun He => rq_ung (.s rfl rfl rfl) rfl (rq_call cf_77 (.n rfl) rfl (.c rfl (fun _ => rfl) (.c rfl (fun _ => rfl) .n)) (fun hg => fnv_to (ref_In _ _ sv (shopsL d.wants) m.shop hrs.own (by have : (shopsL d.wants).length ≤ 3 := List.length_filter_le _ _; omega)) (by rw [hsn])))) ?_
   refine qp 19 [.o 10, .o 18] rfl rfl rfl rfl (by kernel_rfl) rfl (pv_and (.n rfl) rfl rfl rfl (fun _ => ⟨rfl, fun hc => by first | rfl | (rw [hc]; rfl) | simp_all⟩)) ?_
   refine qp 20 [.o 19] rfl rfl rfl rfl (by kernel_rfl) rfl (u_mv rfl rfl rfl) (qp 21 [.k 4, .o 20] rfl rfl rfl rfl (by kernel_rfl) rfl (pv_ung (.s rfl rfl rfl) rfl (u_mv rfl rfl rfl)) (qp 22 [.o 21, .o 20] rfl rfl rfl rfl (by kernel_rfl) rfl (pv_ung (.s rfl rfl rfl) rfl (u_nil rfl rfl rfl)) ?_))
   refine qp 23 [.o 22, .o 20] rfl rfl rfl rfl (by kernel_rfl) rfl (pv_ung (.s rfl rfl rfl) rfl (pv_faat fa_106_3 (fun hg => Rd.sh hrd (zip_get ht hd)) (.n rfl) rfl rfl (fun _ => rfl))) ?_
   refine qr 24 [.o 23, .o 20] rfl rfl rfl rfl (by kernel_rfl) rfl (fun He => rv_ung (.s rfl rfl rfl) rfl (rv_ldat (j := 3) tc_57 (Rd.ent hrd (by repeat (first | exact Ent.rfl | exact Ent.one Ent.h | exact Ent.one (SelS.ent) | exact Ent.nil | exact Ent.left | refine Ent.dropR ?_ | refine Ent.tr Ent.skip ?_))) (fun hg => (zip_get ht hd)) (.n rfl) rfl rfl (fun _ => rfl) rfl (fun _ => rfl))) ?_
   refine qp 25 [.k 3, .o 20] rfl rfl rfl rfl (by kernel_rfl) rfl (pv_ung (.s rfl rfl rfl) rfl (u_fa fa_72_2 rfl rfl rfl)) (qr 26 [.o 25, .o 20] rfl rfl rfl rfl (by kernel_rfl) rfl (fun He => rv_ung (.s rfl rfl rfl) rfl (u_ldc tc_3 rfl rfl rfl (by rfl))) ?_)
   refine qm_q (i := 27) (l := [.o 24, .o 26, .o 20]) rfl rfl rfl rfl (by kernel_rfl) rfl (fun He => rq_ung (.s rfl rfl rfl) rfl (rq_call cf_77 (.n rfl) rfl (.c rfl (fun _ => rfl) (.c rfl (fun _ => rfl) .n)) (fun hg => ref_In _ _ t.tv d.over m.shop (Rd.ent hrt (by repeat (first | exact Ent.rfl | exact Ent.one Ent.h | exact Ent.one (SelS.ent) | exact Ent.nil | exact Ent.left | refine Ent.dropR ?_))) (by omega)))) ?_
   refine qp 28 [.o 27, .o 20] rfl rfl rfl rfl (by kernel_rfl) rfl (pv_ung (.s rfl rfl rfl) rfl (pv_not (.n rfl) rfl rfl (fun _ => rfl))) ?_
   refine qp 29 [.o 20, .o 28] rfl rfl rfl rfl (by kernel_rfl) rfl (pv_and (.n rfl) rfl rfl rfl (fun _ => ⟨rfl, fun hc => by first | rfl | (rw [hc]; rfl) | simp_all⟩)) ?_
   refine qm_n (by kernel_rfl) (by kernel_rfl) (by kernel_rfl) (by kernel_rfl) (.c 0 rfl (.c 3 rfl (.c 4 rfl (.c 47 rfl .n)))) ?_
   refine r_cond _ rfl (fun h13 => ?_) (fun h13 => ?_)
   ·skip
    have hov : d.over.contains m.shop = false := by simpa using h13
    have hh := hear_over hd hm h4
    rw [if_pos ⟨h0, hsn, hov⟩] at hh
    refine r_plan (_) ([sl t.tv 3 1 (d.over.map rI)]) mo (.c 0 rfl (.c 3 rfl (.c 4 rfl .n))) (SelS.ent) ?_
    refine qp 0 [.k 4] rfl rfl rfl rfl (by kernel_rfl) rfl (u_mv rfl rfl rfl) (qp 1 [.k 4] rfl rfl rfl rfl (by kernel_rfl) rfl (u_mv rfl rfl rfl) (qp 2 [.o 1] rfl rfl rfl rfl (by kernel_rfl) rfl (u_nil rfl rfl rfl) (qp 3 [.o 2] rfl rfl rfl rfl (by kernel_rfl) rfl (pv_faat fa_106_3 (fun hg => Rd.sh hrd (zip_get ht hd)) (.n rfl) rfl rfl (fun _ => rfl)) ?_)))
    refine qr 4 [.o 3] rfl rfl rfl rfl (by kernel_rfl) rfl (fun He => rv_ldat (j := 3) tc_57 (Rd.ent hrd (by repeat (first | exact Ent.rfl | exact Ent.one Ent.h | exact Ent.one (SelS.ent) | exact Ent.nil | exact Ent.left | refine Ent.dropR ?_ | refine Ent.tr Ent.skip ?_))) (fun hg => (zip_get ht hd)) (.n rfl) rfl rfl (fun _ => rfl) rfl (fun _ => rfl)) ?_
    refine qp 5 [.k 3] rfl rfl rfl rfl (by kernel_rfl) rfl (u_fa fa_72_2 rfl rfl rfl) (qr 6 [.o 5] rfl rfl rfl rfl (by kernel_rfl) rfl (fun He => u_ldc tc_3 rfl rfl rfl (by rfl)) ?_)
    refine qm_bslice1 Tryz.underlying57 (.ofC tc_3) zr_3 rfl (i := 7) [.o 6] (by kernel_rfl) (by kernel_rfl) rfl rfl rfl rfl (by kernel_rfl) (by kernel_rfl) ⟨_, .n rfl, rfl⟩ rfl rfl rfl rfl rfl rfl fun b55 => ?_
    refine qa_append Tryz.underlying57 el_3 rfl rfl (i := 8) [.o 4, .o 7] (by kernel_rfl) (by kernel_rfl) rfl rfl rfl rfl (by kernel_rfl) (by kernel_rfl) ⟨_, .n rfl, rfl⟩ rfl rfl rfl (Rd.blit rfl rfl) (by simp; omega) fun v56 => ?_
    refine qm_rd v56 fun hr56 => ?_
    refine qp 9 [.o 0] rfl rfl rfl rfl (by kernel_rfl) rfl (u_nil rfl rfl rfl) (qp 10 [.o 9] rfl rfl rfl rfl (by kernel_rfl) rfl (pv_faat fa_106_3 (fun hg => Rd.sh hrd (zip_get ht hd)) (.n rfl) rfl rfl (fun _ => rfl)) ?_)
    refine qb_stel 3 (.ofC tc_57) (zip_get ht hd) rfl (i := 11) [.o 10, .o 8] (by kernel_rfl) (by kernel_rfl) rfl rfl rfl (by kernel_rfl) (by kernel_rfl) (by kernel_rfl) ⟨_, .n rfl, rfl⟩ rfl rfl rfl hr56.c1 rfl hr56.o1 (by repeat constructor) ?_
    refine qm_n (by kernel_rfl) (by kernel_rfl) (by kernel_rfl) (by kernel_rfl) (.c 0 rfl (.c 3 rfl (.c 4 rfl .n))) ?_
    refine r_seq (r_seq ?_)
    refine r_plan _ [] mo (.c 0 rfl (.c 3 rfl (.c 4 rfl .n))) Ent.rfl ?_
    refine qp 0 [.k 3] rfl rfl rfl rfl (by kernel_rfl) rfl (u_fa fa_72_0 rfl rfl rfl) (qr 1 [.o 0] rfl rfl rfl rfl (by kernel_rfl) rfl (fun He => u_ldc tc_3 rfl rfl rfl (by rfl)) ?_)
    refine qp 2 [.o 1] rfl rfl rfl rfl (by kernel_rfl) rfl (pv_to (pv_neq (.n rfl) rfl rfl rfl (fun _ => ⟨rfl, rfl⟩)) (show _ = Value.bool true from bool_eq (by simp [h4]))) (qp 3 [.o 2] rfl rfl rfl rfl (by kernel_rfl) rfl (u_mv rfl rfl rfl) ?_)
    refine qm_q (i := 4) (l := [.k 4, .o 3]) rfl rfl rfl rfl (by kernel_rfl) rfl (fun He => rq_no (v := .bool false) (.s rfl rfl rfl) rfl) ?_
    refine qm_q (i := 5) (l := [.o 4, .o 3]) rfl rfl rfl rfl (by kernel_rfl) rfl (fun He => rq_no (v := .bool false) (.s rfl rfl rfl) rfl) ?_
    refine qm_q (i := 6) (l := [.o 5, .o 3]) rfl rfl rfl rfl (by kernel_rfl) rfl (fun He => rq_no (v := .bool false) (.s rfl rfl rfl) rfl) ?_
    refine qm_q (i := 7) (l := [.o 6, .o 3]) rfl rfl rfl rfl (by kernel_rfl) rfl (fun He => rq_no (v := .bool false) (.s rfl rfl rfl) rfl) ?_
    refine qm_q (i := 8) (l := [.o 7, .o 3]) rfl rfl rfl rfl (by kernel_rfl) rfl (fun He => rq_no (v := .bool false) (.s rfl rfl rfl) rfl) ?_
    refine qp 9 [.o 3, .o 8] rfl rfl rfl rfl (by kernel_rfl) rfl (pv_ort (.n rfl) rfl rfl (fun _ => rfl)) (qp 10 [.o 9] rfl rfl rfl rfl (by kernel_rfl) rfl (u_mv rfl rfl rfl) ?_)
    refine qm_q (i := 11) (l := [.k 3, .o 10]) rfl rfl rfl rfl (by kernel_rfl) rfl (fun He => rq_no (v := .bool false) (.s rfl rfl rfl) rfl) ?_
    refine qm_q (i := 12) (l := [.o 11, .o 10]) rfl rfl rfl rfl (by kernel_rfl) rfl (fun He => rq_no (v := .bool false) (.s rfl rfl rfl) rfl) ?_
    refine qm_q (i := 13) (l := [.o 12, .o 10]) rfl rfl rfl rfl (by kernel_rfl) rfl (fun He => rq_no (v := .bool false) (.s rfl rfl rfl) rfl) ?_
    refine qm_q (i := 14) (l := [.o 13, .o 10]) rfl rfl rfl rfl (by kernel_rfl) rfl (fun He => rq_no (v := .bool false) (.s rfl rfl rfl) rfl) ?_
    refine qm_q (i := 15) (l := [.k 3, .o 10]) rfl rfl rfl rfl (by kernel_rfl) rfl (fun He => rq_no (v := .bool false) (.s rfl rfl rfl) rfl) ?_
    refine qm_q (i := 16) (l := [.o 15, .o 10]) rfl rfl rfl rfl (by kernel_rfl) rfl (fun He => rq_no (v := .bool false) (.s rfl rfl rfl) rfl) ?_
    refine qm_q (i := 17) (l := [.o 14, .o 16, .o 10]) rfl rfl rfl rfl (by kernel_rfl) rfl (fun He => rq_no (v := .bool false) (.s rfl rfl rfl) rfl) ?_
    refine qp 18 [.o 10, .o 17] rfl rfl rfl rfl (by kernel_rfl) rfl (pv_ort (.n rfl) rfl rfl (fun _ => rfl)) ?_
    refine qm_n (by kernel_rfl) (by kernel_rfl) (by kernel_rfl) (by kernel_rfl) (.c 0 rfl (.c 3 rfl (.c 4 rfl (.c 77 rfl .n)))) ?_
    refine r_cond _ rfl (fun h14 => ?_) (fun h14 => ?_)
    ·skip
     refine r_retv hF rfl .n ?_ ?_
     ·refine Ent.catI ?_; rw [hh]; refine Ent.tr (bdealP_close (d := { d with over := d.over ++ [m.shop] }) ⟨t.wv, t.yv, v56, t.ys⟩ ⟨hy.nd, hy.rng, hy.is⟩ rfl rfl (by simp [rI])) ?_; refine Ent.tr (Ent.mono (SelX.ent (X := restP bdealP ts s.l i))) ?_; refine Ent.tr (many_in2 (b' := ⟨t.wv, t.yv, v56, t.ys⟩) (d' := { d with over := d.over ++ [m.shop] }) ht hd) ?_; refine Ent.c (bookP_close (s := ⟨s.l.set i { d with over := d.over ++ [m.shop] }, s.order⟩) (.slice (some ⟨bl, of, Option.none⟩) ll cl) ov (ts.set i ⟨t.wv, t.yv, v56, t.ys⟩) (by simpa using hts) rfl (zip_set (f := rowD) (b' := ⟨t.wv, t.yv, v56, t.ys⟩) (d' := { d with over := d.over ++ [m.shop] })) rfl) ?_; repeat first|exact eR|refine eB ?_|refine eS ?_|refine eN ?_|refine eX ?_|refine eD ?_
     ·rfl
    ·simp at h14
   ·skip
    have hov : d.over.contains m.shop = true := by simpa using h13
    have hh : hearB s m = s := by rw [hear_over hd hm h4, if_neg (fun q => by rw [hov] at q; cases q.2.2)]
    refine r_skip (r_seq (r_seq ?_))
    refine r_plan _ [] mo (.c 0 rfl (.c 3 rfl (.c 4 rfl .n))) Ent.rfl ?_
    refine qp 0 [.k 3] rfl rfl rfl rfl (by kernel_rfl) rfl (u_fa fa_72_0 rfl rfl rfl) (qr 1 [.o 0] rfl rfl rfl rfl (by kernel_rfl) rfl (fun He => u_ldc tc_3 rfl rfl rfl (by rfl)) ?_)
    refine qp 2 [.o 1] rfl rfl rfl rfl (by kernel_rfl) rfl (pv_to (pv_neq (.n rfl) rfl rfl rfl (fun _ => ⟨rfl, rfl⟩)) (show _ = Value.bool true from bool_eq (by simp [h4]))) (qp 3 [.o 2] rfl rfl rfl rfl (by kernel_rfl) rfl (u_mv rfl rfl rfl) ?_)
    refine qm_q (i := 4) (l := [.k 4, .o 3]) rfl rfl rfl rfl (by kernel_rfl) rfl (fun He => rq_no (v := .bool false) (.s rfl rfl rfl) rfl) ?_
    refine qm_q (i := 5) (l := [.o 4, .o 3]) rfl rfl rfl rfl (by kernel_rfl) rfl (fun He => rq_no (v := .bool false) (.s rfl rfl rfl) rfl) ?_
    refine qm_q (i := 6) (l := [.o 5, .o 3]) rfl rfl rfl rfl (by kernel_rfl) rfl (fun He => rq_no (v := .bool false) (.s rfl rfl rfl) rfl) ?_
    refine qm_q (i := 7) (l := [.o 6, .o 3]) rfl rfl rfl rfl (by kernel_rfl) rfl (fun He => rq_no (v := .bool false) (.s rfl rfl rfl) rfl) ?_
    refine qm_q (i := 8) (l := [.o 7, .o 3]) rfl rfl rfl rfl (by kernel_rfl) rfl (fun He => rq_no (v := .bool false) (.s rfl rfl rfl) rfl) ?_
    refine qp 9 [.o 3, .o 8] rfl rfl rfl rfl (by kernel_rfl) rfl (pv_ort (.n rfl) rfl rfl (fun _ => rfl)) (qp 10 [.o 9] rfl rfl rfl rfl (by kernel_rfl) rfl (u_mv rfl rfl rfl) ?_)
    refine qm_q (i := 11) (l := [.k 3, .o 10]) rfl rfl rfl rfl (by kernel_rfl) rfl (fun He => rq_no (v := .bool false) (.s rfl rfl rfl) rfl) ?_
    refine qm_q (i := 12) (l := [.o 11, .o 10]) rfl rfl rfl rfl (by kernel_rfl) rfl (fun He => rq_no (v := .bool false) (.s rfl rfl rfl) rfl) ?_
    refine qm_q (i := 13) (l := [.o 12, .o 10]) rfl rfl rfl rfl (by kernel_rfl) rfl (fun He => rq_no (v := .bool false) (.s rfl rfl rfl) rfl) ?_
    refine qm_q (i := 14) (l := [.o 13, .o 10]) rfl rfl rfl rfl (by kernel_rfl) rfl (fun He => rq_no (v := .bool false) (.s rfl rfl rfl) rfl) ?_
    refine qm_q (i := 15) (l := [.k 3, .o 10]) rfl rfl rfl rfl (by kernel_rfl) rfl (fun He => rq_no (v := .bool false) (.s rfl rfl rfl) rfl) ?_
    refine qm_q (i := 16) (l := [.o 15, .o 10]) rfl rfl rfl rfl (by kernel_rfl) rfl (fun He => rq_no (v := .bool false) (.s rfl rfl rfl) rfl) ?_
    refine qm_q (i := 17) (l := [.o 14, .o 16, .o 10]) rfl rfl rfl rfl (by kernel_rfl) rfl (fun He => rq_no (v := .bool false) (.s rfl rfl rfl) rfl) ?_
    refine qp 18 [.o 10, .o 17] rfl rfl rfl rfl (by kernel_rfl) rfl (pv_ort (.n rfl) rfl rfl (fun _ => rfl)) ?_
    refine qm_n (by kernel_rfl) (by kernel_rfl) (by kernel_rfl) (by kernel_rfl) (.c 0 rfl (.c 3 rfl (.c 4 rfl (.c 77 rfl .n)))) ?_
    refine r_cond _ rfl (fun h15 => ?_) (fun h15 => ?_)
    ·skip
     refine r_retv hF rfl .n ?_ ?_
     ·refine Ent.catI ?_; rw [hh]; refine Ent.tr (bdealP_close (d := d) t hy rfl rfl rfl) ?_; refine Ent.tr (Ent.mono (SelX.ent (X := restP bdealP ts s.l i))) ?_; refine Ent.tr (many_back ht hd) ?_; refine Ent.c (bookP_close (s := s) (.slice (some ⟨bl, of, Option.none⟩) ll cl) ov ts hts rfl rfl rfl) ?_; repeat first|exact eR|refine eB ?_|refine eS ?_|refine eN ?_|refine eX ?_|refine eD ?_
     ·rfl
    ·simp at h15

end Go.Proofs.YtmakdilmibjpbacGreat

namespace Go.Proofs.YtmakdilmibjpbacGreat
open Go Go.RowKit
set_option linter.unusedVariables false
set_option linter.unusedSimpArgs false
set_option maxRecDepth 20000

theorem rd_one {M : Amb} {H : List HP} {v : Value} {sz i : Nat} {rows : List (List Value)} {r : List Value} (h : Rd M H v sz rows) (hr : rows[i]? = some r) : r.all (·.oneCell') = true := List.all_eq_true.2 (h.ok r (List.mem_of_getElem? hr)).2
theorem yes_at {ys : List Int} {d : Deal} {j : Nat} {y : Bool} (h : YesR ys d) (hy : d.yes[j]? = some y) (hj : j < d.wants.length) : y = decide ((j : Int) ∈ ys) := by
  have := h.is j hj
  rw [hy] at this
  cases y with
  | true => exact (decide_eq_true (this.2 rfl)).symm
  | false => exact (decide_eq_false (fun q => by have := this.1 q; cases this)).symm

theorem book_Due_o (M : Amb) (T : TypeId) (rest : List Value) (b : Nat) (s : BrokS) (hI : BInv s) (lv ov : Value) (ts : List DT) (hts : ts.length = s.l.length) : FnE (α := Value) Tryz.prog M 40 [ptr b] [blk b (lv :: ov :: rest) T, sl lv 106 4 (List.zipWith rowD ts s.l), sl ov 3 1 (s.order.map rI), manyP bdealP ts s.l] (fun x => x) (fun x => [sl x 72 6 ((dueB s).map rM), blk b (lv :: ov :: rest) T, sl lv 106 4 (List.zipWith rowD ts s.l), sl ov 3 1 (s.order.map rI), manyP bdealP ts s.l]) := by
 have hB := hI
 have hl8 := hI.len
 refine fne_intro Tryz.func40 rfl Tryz.ntmps40 rfl fun R F hF => ?_
 refine r_cat ?_
 refine r_rd lv fun hrd => ?_
 refine r_rd ov fun hro => ?_
 refine r_sr (p_as rfl rfl (o_keep (.c 0 rfl (.c 2 rfl .n)) (r_sr (p_as rfl rfl (o_keep (.c 0 rfl (.c 2 rfl (.c 3 rfl .n))) (r_seq (r_sr ?_)))))))
 refine p_as rfl rfl (o_keep (.c 0 rfl (.c 2 rfl (.c 3 rfl (.c 4 rfl .n)))) (r_block ?_))
 refine r_loop_2 (fun (i : Nat) (ov1 : Value) => [(4, true, .int .i64 (i : Int)), (3, true, ov1)]) (.c 0 rfl (.c 2 rfl .n)) (fun (i : Nat) (ov1 : Value) => sl ov1 72 6 ((dueL 0 (s.l.take i)).map rM) :: blk b (lv :: ov :: rest) T :: sl lv 106 4 (List.zipWith rowD ts s.l) :: sl ov 3 1 (s.order.map rI) :: manyP bdealP ts s.l :: R) (fun (i : Nat) (ov1 : Value) => i ≤ s.l.length) (fun (i : Nat) (ov1 : Value) => s.l.length - i) (0) (.slice Option.none 0 0) ?_ (.c 4 rfl (.c 3 rfl .n)) ?_ (fun i ov1 hI => ?_)
 ·exact Nat.zero_le _
 ·show Ent _ (sl _ _ _ [] :: _); refine Ent.cN ?_; repeat first|exact eR|refine eB ?_|refine eS ?_|refine eN ?_|refine eX ?_|refine eD ?_
 ·skip
  refine r_seq (r_sr (p_mv rfl rfl (p_mv rfl rfl (p_nil rfl rfl (p_fa fa_59_0 rfl rfl (p_ldc tc_56 rfl (by rfl) rfl ?_))))))
  refine l_op (x_p (pv_lens (Rd.lenz hrd hts) ⟨_, Tryz.underlying56⟩ (.n rfl) rfl rfl rfl rfl (fun _ => rfl)) rfl rfl (p_lss rfl rfl rfl (o_keep (.c 0 rfl (.c 2 rfl (.c 3 rfl (.c 4 rfl (.c 15 rfl .n))))) (r_cond _ rfl (fun h1 => ?_) (fun h1 => ?_)))))
  ·skip
   have hilt : i < s.l.length := by have := of_decide_eq_true h1; omega
   obtain ⟨d, hd⟩ := getlt hilt
   obtain ⟨t, ht⟩ := getlt (l := ts) (i := i) (by omega)
   have hdk := hB.d d (List.mem_of_getElem? hd)
   have hle := hdk.le
   have hyl := hdk.y
   have hdl := dueL_le (l := s.l.take i) (n := 0) fun x hx => hB.d x (List.mem_of_mem_take hx)
   have htl : (s.l.take i).length ≤ 8 := by simp; omega
   refine r_skip (r_seq (r_block (r_sr (p_mv rfl rfl (p_nil rfl rfl (p_fa fa_59_0 rfl rfl (p_ldc tc_56 rfl (by rfl) rfl ?_)))))))
   refine p_mv rfl rfl (p_idx Tryz.underlying56 (.ofA ta_106) hrd rfl (zip_get ht hd) rfl rfl rfl ?_)
   refine p_ldats 0 ta_106 (Rd.ent hrd (by repeat (first | exact Ent.rfl | exact Ent.one Ent.h | exact Ent.one (SelS.ent) | exact Ent.nil | exact Ent.left | refine Ent.dropR ?_ | refine Ent.tr Ent.skip ?_))) (zip_get ht hd) rfl rfl (.s (.s (.s (.s .z)))) rfl ?_
   refine p_alloc zr_106 rfl fun b5 => ?_
   refine p_store (.ofA ta_106) rfl rfl rfl (by first | rfl | exact rfl) (by first | rfl | exact (rd_one hrd (zip_get ht hd))) (Ins.whole (by first | rfl | (simp only [List.length_map, List.length_cons, List.length_nil]; omega) | (simp [*]; done) | (simp [*]; rfl))) ?_
   refine o_keep (.c 0 rfl (.c 2 rfl (.c 3 rfl (.c 4 rfl (.c 5 rfl .n))))) (r_seq (r_seq ?_))
   refine r_bdeal i ht hd fun hy => ?_
   refine r_cat ?_
   refine r_rd t.wv fun hrw => ?_
   refine r_rd t.yv fun hry => ?_
   refine r_rd t.tv fun hrt => ?_
   have hysl := hy.len
   refine r_region (p_fa fa_106_1 rfl rfl (p_ldc tc_3 rfl (by rfl) rfl ?_))
   refine p_eql rfl rfl rfl (o_keep (.c 0 rfl (.c 2 rfl (.c 3 rfl (.c 4 rfl (.c 5 rfl (.c 27 rfl .n)))))) (r_cond _ rfl (fun h2 => ?_) (fun h2 => ?_)))
   ·skip
    have h0 : d.state = 0 := of_decide_eq_true h2
    refine r_seq (r_sr (p_as rfl rfl (o_keep (.c 0 rfl (.c 2 rfl (.c 3 rfl (.c 4 rfl (.c 5 rfl (.c 6 rfl .n)))))) (r_block ?_))))
    refine r_loop_2 (fun (j : Nat) (ov2 : Value) => [(6, true, .int .i64 (j : Int)), (3, true, ov2)]) (.c 0 rfl (.c 2 rfl (.c 4 rfl (.c 5 rfl .n)))) (fun (j : Nat) (ov2 : Value) => sl ov2 72 6 ((dueL 0 (s.l.take i) ++ dueW i (d.wants.take j) (d.yes.take j)).map rM) :: blk b5 (rowD t d) 106 :: sl t.wv 42 2 (d.wants.map rW) :: sl t.yv 3 1 (t.ys.map rI) :: sl t.tv 3 1 (d.over.map rI) :: restP bdealP ts s.l i :: blk b (lv :: ov :: rest) T :: sl lv 106 4 (List.zipWith rowD ts s.l) :: sl ov 3 1 (s.order.map rI) :: R) (fun (j : Nat) (ov2 : Value) => j ≤ d.wants.length) (fun (j : Nat) (ov2 : Value) => d.wants.length - j) (0) (ov1) ?_ (.c 6 rfl (.c 3 rfl .n)) ?_ (fun j ov2 hI => ?_)
    ·exact Nat.zero_le _
    ·rw [List.take_zero, show dueW (i : Int) [] (d.yes.take 0) = [] from rfl, List.append_nil]; repeat first|exact eR|refine eB ?_|refine eS ?_|refine eN ?_|refine eX ?_|refine eD ?_
    ·skip
     refine r_seq (r_sr (p_mv rfl rfl (p_fa fa_106_0 rfl rfl (p_ldc tc_32 rfl (by rfl) rfl ?_))))
     refine l_op (x_p (pv_lens (Rd.len hrw) ⟨_, Tryz.underlying32⟩ (.n rfl) rfl rfl rfl rfl (fun _ => rfl)) rfl rfl (p_lss rfl rfl rfl (o_keep (.c 0 rfl (.c 2 rfl (.c 3 rfl (.c 4 rfl (.c 5 rfl (.c 6 rfl (.c 32 rfl .n))))))) (r_cond _ rfl (fun h3 => ?_) (fun h3 => ?_)))))
     ·skip
      obtain ⟨w, hw⟩ := getlt (l := d.wants) (i := j) (by have := of_decide_eq_true h3; omega)
      have hjl := (List.getElem?_eq_some_iff.1 hw).1
      obtain ⟨y, hyj⟩ := getlt (l := d.yes) (i := j) (by omega)
      have hye := yes_at hy hyj hjl
      have hds := dueW_len (n := (i : Int)) (d.wants.take j) (d.yes.take j)
      have htk : (d.wants.take j).length ≤ 4 := by simp; omega
      refine r_skip (r_seq (r_block (r_sr (p_fa fa_106_2 rfl rfl (p_ldc tc_57 rfl (by rfl) rfl ?_)))))
      refine p_mv rfl rfl ?_
      refine p_callv cf_77 (.c rfl (.c rfl .n)) rfl (ref_In _ _ t.yv t.ys (j : Int) (Rd.ent hry (by repeat (first | exact Ent.rfl | exact Ent.one Ent.h | exact Ent.one (SelS.ent) | exact Ent.nil | exact Ent.left | refine Ent.dropR ?_))) (by omega)) ?_
      refine p_not rfl rfl (o_keep (.c 0 rfl (.c 2 rfl (.c 3 rfl (.c 4 rfl (.c 5 rfl (.c 6 rfl (.c 39 rfl .n))))))) (r_cond _ rfl (fun h4 => ?_) (fun h4 => ?_)))
      ·skip
       have hc : y = false := by rw [hye]; simpa using h4
       refine r_plan (_) ([sl ov2 72 6 ((dueL 0 (s.l.take i) ++ dueW i (d.wants.take j) (d.yes.take j)).map rM)]) mo (.c 0 rfl (.c 2 rfl (.c 3 rfl (.c 4 rfl (.c 5 rfl (.c 6 rfl .n)))))) (SelS.ent) ?_
       refine qp 0 [.k 3] rfl rfl rfl rfl (by kernel_rfl) rfl (u_mv rfl rfl rfl) (qp 1 [.k 4] rfl rfl rfl rfl (by kernel_rfl) rfl (u_mv rfl rfl rfl) (qp 2 [.k 5] rfl rfl rfl rfl (by kernel_rfl) rfl (u_fa fa_106_0 rfl rfl rfl) (qr 3 [.o 2] rfl rfl rfl rfl (by kernel_rfl) rfl (fun He => u_ldc tc_32 rfl rfl rfl (by rfl)) ?_)))
       refine qp 4 [.k 6] rfl rfl rfl rfl (by kernel_rfl) rfl (u_mv rfl rfl rfl) (qp 5 [.o 3, .o 4] rfl rfl rfl rfl (by kernel_rfl) rfl (pv_idx Tryz.underlying32 (.ofA ta_42) hrw (fun hg => ⟨rfl, (mapget hw)⟩) (.n rfl) rfl rfl rfl (fun _ => ⟨rfl, rfl⟩)) (qp 6 [.o 5] rfl rfl rfl rfl (by kernel_rfl) rfl (pv_faat fa_42_0 (fun hg => Rd.sh hrw (mapget hw)) (.n rfl) rfl rfl (fun _ => rfl)) ?_))
       refine qr 7 [.o 6] rfl rfl rfl rfl (by kernel_rfl) rfl (fun He => rv_ldat (j := 0) tc_3 (Rd.ent hrw (by repeat (first | exact Ent.rfl | exact Ent.one Ent.h | exact Ent.one (SelS.ent) | exact Ent.nil | exact Ent.left | refine Ent.dropR ?_ | refine Ent.tr Ent.skip ?_))) (fun hg => (mapget hw)) (.n rfl) rfl rfl (fun _ => rfl) rfl (fun _ => rfl)) ?_
       refine qm_q (i := 8) (l := [.o 7]) rfl rfl rfl rfl (by kernel_rfl) rfl (fun He => rq_call cf_78 (.n rfl) rfl (.c rfl (fun _ => rfl) .n) (fun hg => ref_ShopOf _ _ _)) ?_
       refine qp 9 [.k 5] rfl rfl rfl rfl (by kernel_rfl) rfl (u_fa fa_106_0 rfl rfl rfl) (qr 10 [.o 9] rfl rfl rfl rfl (by kernel_rfl) rfl (fun He => u_ldc tc_32 rfl rfl rfl (by rfl)) ?_)
       refine qp 11 [.k 6] rfl rfl rfl rfl (by kernel_rfl) rfl (u_mv rfl rfl rfl) (qp 12 [.o 10, .o 11] rfl rfl rfl rfl (by kernel_rfl) rfl (pv_idx Tryz.underlying32 (.ofA ta_42) hrw (fun hg => ⟨rfl, (mapget hw)⟩) (.n rfl) rfl rfl rfl (fun _ => ⟨rfl, rfl⟩)) ?_)
       refine qr 13 [.o 12] rfl rfl rfl rfl (by kernel_rfl) rfl (fun He => rv_ldats (j := 0) ta_42 (Rd.ent hrw (by repeat (first | exact Ent.rfl | exact Ent.one Ent.h | exact Ent.one (SelS.ent) | exact Ent.nil | exact Ent.left | refine Ent.dropR ?_ | refine Ent.tr Ent.skip ?_))) (fun hg => (mapget hw)) (.n rfl) rfl rfl (fun _ => rfl) rfl (.s (.s .z))) ?_
       refine qp 14 [.o 1, .o 8, .o 13] rfl rfl rfl rfl (by kernel_rfl) rfl (pv_build zr_72 pl_72 (.n rfl) rfl (.c rfl (fun _ => rfl) rfl rfl rfl (by repeat constructor) (.c rfl (fun _ => rfl) rfl rfl rfl (by repeat constructor) (.c rfl (fun _ => rfl) rfl rfl rfl (by repeat constructor) (.c rfl (fun _ => rfl) rfl rfl rfl (by repeat constructor) .n))))) ?_
       refine qm_bslice1 Tryz.underlying43 (.ofA ta_72) zr_72 rfl (i := 15) [.o 14] (by kernel_rfl) (by kernel_rfl) rfl rfl rfl rfl (by kernel_rfl) (by kernel_rfl) ⟨_, .n rfl, rfl⟩ rfl rfl rfl rfl rfl rfl fun b55 => ?_
       refine qa_append Tryz.underlying43 el_72 rfl rfl (i := 16) [.o 0, .o 15] (by kernel_rfl) (by kernel_rfl) rfl rfl rfl rfl (by kernel_rfl) (by kernel_rfl) ⟨_, .n rfl, rfl⟩ rfl rfl rfl (Rd.blit rfl rfl) (by simp only [List.length_map, List.length_append, List.length_cons, List.length_nil]; omega) fun v56 => ?_
       refine qm_rd v56 fun hr56 => ?_
       refine qp 17 [.o 16] rfl rfl rfl rfl (by kernel_rfl) rfl (u_as rfl rfl rfl) ?_
       refine qm_n (by kernel_rfl) (by kernel_rfl) (by kernel_rfl) (by kernel_rfl) (.c 0 rfl (.c 2 rfl (.c 3 rfl (.c 4 rfl (.c 5 rfl (.c 6 rfl .n)))))) ?_
       refine r_end (r_region (p_mv rfl rfl (p_add rfl rfl (by omega) rfl (p_as rfl rfl (o_keep (.c 0 rfl (.c 2 rfl (.c 3 rfl (.c 4 rfl (.c 5 rfl (.c 6 rfl .n)))))) ?_)))))
       refine r_back_2 (j + 1) (_) ?_ ?_ (Keep.app (.c 6 rfl (.c 3 rfl .n)) (.c 0 rfl (.c 2 rfl (.c 4 rfl (.c 5 rfl .n))))) ?_
       ·omega
       ·omega
       ·rw [dueW_take hw hyj, if_neg (by rw [hc]; simp), ← List.append_assoc, snocM]; repeat first|exact eR|refine eB ?_|refine eS ?_|refine eN ?_|refine eX ?_|refine eD ?_
      ·skip
       have hc : y = true := by rw [hye]; simpa using h4
       refine r_skip (r_end (r_region (p_mv rfl rfl (p_add rfl rfl (by omega) rfl (p_as rfl rfl (o_keep (.c 0 rfl (.c 2 rfl (.c 3 rfl (.c 4 rfl (.c 5 rfl (.c 6 rfl .n)))))) ?_))))))
       refine r_back_2 (j + 1) (ov2) ?_ ?_ (Keep.app (.c 6 rfl (.c 3 rfl .n)) (.c 0 rfl (.c 2 rfl (.c 4 rfl (.c 5 rfl .n))))) ?_
       ·omega
       ·omega
       ·rw [dueW_take hw hyj, if_pos hc, List.append_nil]; repeat first|exact eR|refine eB ?_|refine eS ?_|refine eN ?_|refine eX ?_|refine eD ?_
     ·skip
      have hj : d.wants.length ≤ j := by have := of_decide_eq_false h3; omega
      refine r_exit rfl (r_exit rfl (r_region (p_mv rfl rfl (p_add rfl rfl (by omega) rfl (p_as rfl rfl (o_keep (.c 0 rfl (.c 2 rfl (.c 3 rfl (.c 4 rfl .n)))) ?_))))))
      refine r_back_2 (i + 1) (ov2) ?_ ?_ (Keep.app (.c 4 rfl (.c 3 rfl .n)) (.c 0 rfl (.c 2 rfl .n))) ?_
      ·omega
      ·omega
      ·rw [dueL_take hd, Int.zero_add, dueD_ask h0]; rw [List.take_of_length_le hj, List.take_of_length_le (show d.yes.length ≤ j by omega)]; refine Ent.tr (bdealP_close (d := d) t hy rfl rfl rfl) ?_; refine Ent.tr (Ent.mono (SelX.ent (X := restP bdealP ts s.l i))) ?_; refine Ent.tr (many_back ht hd) ?_; repeat first|exact eR|refine eB ?_|refine eS ?_|refine eN ?_|refine eX ?_|refine eD ?_
   ·skip
    have h0 : d.state ≠ 0 := of_decide_eq_false h2
    have hsl : (shopsL d.wants).length ≤ 3 := List.length_filter_le _ _
    refine r_skip (r_sr (p_fa fa_106_0 rfl rfl (p_ldc tc_32 rfl (by rfl) rfl ?_)))
    refine p_calle cf_79 (.c rfl .n) rfl (ref_ShopsOf _ [sl t.wv 42 2 (d.wants.map rW)] t.wv d.wants hrw (by omega)) fun sv => ?_
    refine o_cat ?_
    refine o_rd sv fun hrs => ?_
    refine p_as rfl rfl (o_keep (.c 0 rfl (.c 2 rfl (.c 3 rfl (.c 4 rfl (.c 5 rfl (.c 7 rfl .n)))))) (r_sr (p_as rfl rfl (o_keep (.c 0 rfl (.c 2 rfl (.c 3 rfl (.c 4 rfl (.c 5 rfl (.c 7 rfl (.c 8 rfl .n))))))) (r_block ?_)))))
    refine r_loop_2 (fun (j : Nat) (ov2 : Value) => [(8, true, .int .i64 (j : Int)), (3, true, ov2)]) (.c 0 rfl (.c 2 rfl (.c 4 rfl (.c 5 rfl (.c 7 rfl .n))))) (fun (j : Nat) (ov2 : Value) => sl ov2 72 6 ((dueL 0 (s.l.take i) ++ dueS i d ((shopsL d.wants).take j)).map rM) :: sl sv 3 1 ((shopsL d.wants).map rI) :: blk b5 (rowD t d) 106 :: sl t.wv 42 2 (d.wants.map rW) :: sl t.yv 3 1 (t.ys.map rI) :: sl t.tv 3 1 (d.over.map rI) :: restP bdealP ts s.l i :: blk b (lv :: ov :: rest) T :: sl lv 106 4 (List.zipWith rowD ts s.l) :: sl ov 3 1 (s.order.map rI) :: R) (fun (j : Nat) (ov2 : Value) => j ≤ (shopsL d.wants).length) (fun (j : Nat) (ov2 : Value) => (shopsL d.wants).length - j) (0) (ov1) ?_ (.c 8 rfl (.c 3 rfl .n)) ?_ (fun j ov2 hI => ?_)
    ·exact Nat.zero_le _
    ·rw [List.take_zero, show dueS (i : Int) d [] = [] from rfl, List.append_nil]; repeat first|exact eR|refine eB ?_|refine eS ?_|refine eN ?_|refine eX ?_|refine eD ?_
    ·skip
     refine r_seq (r_sr (p_mv rfl rfl (p_mv rfl rfl (l_op (x_p (pv_lens (Rd.len hrs) ⟨_, Tryz.underlying57⟩ (.n rfl) rfl rfl rfl rfl (fun _ => rfl)) rfl rfl (p_lss rfl rfl rfl (o_keep (.c 0 rfl (.c 2 rfl (.c 3 rfl (.c 4 rfl (.c 5 rfl (.c 7 rfl (.c 8 rfl (.c 63 rfl .n)))))))) (r_cond _ rfl (fun h5 => ?_) (fun h5 => ?_)))))))))
     ·skip
      obtain ⟨z, hz⟩ := getlt (l := shopsL d.wants) (i := j) (by have := of_decide_eq_true h5; omega)
      have hzl := (List.getElem?_eq_some_iff.1 hz).1
      have hds := dueS_len (n := (i : Int)) (d := d) ((shopsL d.wants).take j)
      have htk : ((shopsL d.wants).take j).length ≤ 3 := by simp; omega
      refine r_skip (r_seq (r_block (r_seq ?_)))
      refine r_plan _ [] mo (.c 0 rfl (.c 2 rfl (.c 3 rfl (.c 4 rfl (.c 5 rfl (.c 7 rfl (.c 8 rfl .n))))))) Ent.rfl ?_
      refine qp 0 [.k 5] rfl rfl rfl rfl (by kernel_rfl) rfl (u_fa fa_106_3 rfl rfl rfl) (qr 1 [.o 0] rfl rfl rfl rfl (by kernel_rfl) rfl (fun He => u_ldc tc_57 rfl rfl rfl (by rfl)) ?_)
      refine qp 2 [.k 7] rfl rfl rfl rfl (by kernel_rfl) rfl (u_mv rfl rfl rfl) (qp 3 [.k 8] rfl rfl rfl rfl (by kernel_rfl) rfl (u_mv rfl rfl rfl) (qp 4 [.o 2, .o 3] rfl rfl rfl rfl (by kernel_rfl) rfl (pv_idx Tryz.underlying57 (.ofC tc_3) hrs (fun hg => ⟨rfl, (mapget hz)⟩) (.n rfl) rfl rfl rfl (fun _ => ⟨rfl, rfl⟩)) ?_))
      refine qr 5 [.o 4] rfl rfl rfl rfl (by kernel_rfl) rfl (fun He => rv_ldat (j := 0) tc_3 (Rd.ent hrs (by repeat (first | exact Ent.rfl | exact Ent.one Ent.h | exact Ent.one (SelS.ent) | exact Ent.nil | exact Ent.left | refine Ent.dropR ?_ | refine Ent.tr Ent.skip ?_))) (fun hg => (mapget hz)) (.n rfl) rfl rfl (fun _ => rfl) rfl (fun _ => rfl)) ?_
      refine qm_q (i := 6) (l := [.o 1, .o 5]) rfl rfl rfl rfl (by kernel_rfl) rfl (fun He => rq_call cf_77 (.n rfl) rfl (.c rfl (fun _ => rfl) (.c rfl (fun _ => rfl) .n)) (fun hg => ref_In _ _ t.tv d.over z (Rd.ent hrt (by repeat (first | exact Ent.rfl | exact Ent.one Ent.h | exact Ent.one (SelS.ent) | exact Ent.nil | exact Ent.left | refine Ent.dropR ?_))) (by omega))) ?_
      refine qp 7 [.o 6] rfl rfl rfl rfl (by kernel_rfl) rfl (pv_not (.n rfl) rfl rfl (fun _ => rfl)) ?_
      refine qm_n (by kernel_rfl) (by kernel_rfl) (by kernel_rfl) (by kernel_rfl) (.c 0 rfl (.c 2 rfl (.c 3 rfl (.c 4 rfl (.c 5 rfl (.c 7 rfl (.c 8 rfl (.c 73 rfl .n)))))))) ?_
      refine r_cond _ rfl (fun h6 => ?_) (fun h6 => ?_)
      ·skip
       have hc : d.over.contains z = false := by simpa using h6
       refine r_plan (_) ([sl ov2 72 6 ((dueL 0 (s.l.take i) ++ dueS i d ((shopsL d.wants).take j)).map rM)]) mo (.c 0 rfl (.c 2 rfl (.c 3 rfl (.c 4 rfl (.c 5 rfl (.c 7 rfl (.c 8 rfl .n))))))) (SelS.ent) ?_
       refine qp 0 [.k 3] rfl rfl rfl rfl (by kernel_rfl) rfl (u_mv rfl rfl rfl) (qp 1 [.k 4] rfl rfl rfl rfl (by kernel_rfl) rfl (u_mv rfl rfl rfl) (qp 2 [.k 7] rfl rfl rfl rfl (by kernel_rfl) rfl (u_mv rfl rfl rfl) (qp 3 [.k 8] rfl rfl rfl rfl (by kernel_rfl) rfl (u_mv rfl rfl rfl) ?_)))
       refine qp 4 [.o 2, .o 3] rfl rfl rfl rfl (by kernel_rfl) rfl (pv_idx Tryz.underlying57 (.ofC tc_3) hrs (fun hg => ⟨rfl, (mapget hz)⟩) (.n rfl) rfl rfl rfl (fun _ => ⟨rfl, rfl⟩)) ?_
       refine qr 5 [.o 4] rfl rfl rfl rfl (by kernel_rfl) rfl (fun He => rv_ldat (j := 0) tc_3 (Rd.ent hrs (by repeat (first | exact Ent.rfl | exact Ent.one Ent.h | exact Ent.one (SelS.ent) | exact Ent.nil | exact Ent.left | refine Ent.dropR ?_ | refine Ent.tr Ent.skip ?_))) (fun hg => (mapget hz)) (.n rfl) rfl rfl (fun _ => rfl) rfl (fun _ => rfl)) ?_
       refine qp 6 [.k 5] rfl rfl rfl rfl (by kernel_rfl) rfl (u_fa fa_106_1 rfl rfl rfl) (qr 7 [.o 6] rfl rfl rfl rfl (by kernel_rfl) rfl (fun He => u_ldc tc_3 rfl rfl rfl (by rfl)) ?_)
       refine qp 8 [.o 7] rfl rfl rfl rfl (by kernel_rfl) rfl (pv_eql (.n rfl) rfl rfl rfl (fun _ => ⟨rfl, rfl⟩)) ?_
       refine qp 9 [.o 1, .o 5, .o 8] rfl rfl rfl rfl (by kernel_rfl) rfl (pv_build zr_72 pl_72 (.n rfl) rfl (.c rfl (fun _ => rfl) rfl rfl rfl (by repeat constructor) (.c rfl (fun _ => rfl) rfl rfl rfl (by repeat constructor) (.c rfl (fun _ => rfl) rfl rfl rfl (by repeat constructor) (.c rfl (fun _ => rfl) rfl rfl rfl (by repeat constructor) .n))))) ?_
       refine qm_bslice1 Tryz.underlying43 (.ofA ta_72) zr_72 rfl (i := 10) [.o 9] (by kernel_rfl) (by kernel_rfl) rfl rfl rfl rfl (by kernel_rfl) (by kernel_rfl) ⟨_, .n rfl, rfl⟩ rfl rfl rfl rfl rfl rfl fun b84 => ?_
       refine qa_append Tryz.underlying43 el_72 rfl rfl (i := 11) [.o 0, .o 10] (by kernel_rfl) (by kernel_rfl) rfl rfl rfl rfl (by kernel_rfl) (by kernel_rfl) ⟨_, .n rfl, rfl⟩ rfl rfl rfl (Rd.blit rfl rfl) (by simp only [List.length_map, List.length_append, List.length_cons, List.length_nil]; omega) fun v85 => ?_
       refine qm_rd v85 fun hr85 => ?_
       refine qp 12 [.o 11] rfl rfl rfl rfl (by kernel_rfl) rfl (u_as rfl rfl rfl) ?_
       refine qm_n (by kernel_rfl) (by kernel_rfl) (by kernel_rfl) (by kernel_rfl) (.c 0 rfl (.c 2 rfl (.c 3 rfl (.c 4 rfl (.c 5 rfl (.c 7 rfl (.c 8 rfl .n))))))) ?_
       refine r_end (r_region (p_mv rfl rfl (p_add rfl rfl (by omega) rfl (p_as rfl rfl (o_keep (.c 0 rfl (.c 2 rfl (.c 3 rfl (.c 4 rfl (.c 5 rfl (.c 7 rfl (.c 8 rfl .n))))))) ?_)))))
       refine r_back_2 (j + 1) (_) ?_ ?_ (Keep.app (.c 8 rfl (.c 3 rfl .n)) (.c 0 rfl (.c 2 rfl (.c 4 rfl (.c 5 rfl (.c 7 rfl .n)))))) ?_
       ·omega
       ·omega
       ·rw [dueS_take hz, if_neg (by rw [hc]; simp), ← List.append_assoc, snocM]; repeat first|exact eR|refine eB ?_|refine eS ?_|refine eN ?_|refine eX ?_|refine eD ?_
      ·skip
       have hc : d.over.contains z = true := by simpa using h6
       refine r_skip (r_end (r_region (p_mv rfl rfl (p_add rfl rfl (by omega) rfl (p_as rfl rfl (o_keep (.c 0 rfl (.c 2 rfl (.c 3 rfl (.c 4 rfl (.c 5 rfl (.c 7 rfl (.c 8 rfl .n))))))) ?_))))))
       refine r_back_2 (j + 1) (ov2) ?_ ?_ (Keep.app (.c 8 rfl (.c 3 rfl .n)) (.c 0 rfl (.c 2 rfl (.c 4 rfl (.c 5 rfl (.c 7 rfl .n)))))) ?_
       ·omega
       ·omega
       ·rw [dueS_take hz, if_pos hc, List.append_nil]; repeat first|exact eR|refine eB ?_|refine eS ?_|refine eN ?_|refine eX ?_|refine eD ?_
     ·skip
      have hj : (shopsL d.wants).length ≤ j := by have := of_decide_eq_false h5; omega
      refine r_exit rfl (r_end (r_region (p_mv rfl rfl (p_add rfl rfl (by omega) rfl (p_as rfl rfl (o_keep (.c 0 rfl (.c 2 rfl (.c 3 rfl (.c 4 rfl .n)))) ?_))))))
      refine r_back_2 (i + 1) (ov2) ?_ ?_ (Keep.app (.c 4 rfl (.c 3 rfl .n)) (.c 0 rfl (.c 2 rfl .n))) ?_
      ·omega
      ·omega
      ·rw [dueL_take hd, Int.zero_add, dueD_end h0]; rw [List.take_of_length_le hj]; refine Ent.tr (bdealP_close (d := d) t hy rfl rfl rfl) ?_; refine Ent.tr (Ent.mono (SelX.ent (X := restP bdealP ts s.l i))) ?_; refine Ent.tr (many_back ht hd) ?_; repeat first|exact eR|refine eB ?_|refine eS ?_|refine eN ?_|refine eX ?_|refine eD ?_
  ·skip
   have hilt : s.l.length ≤ i := by have := of_decide_eq_false h1; omega
   refine r_exit rfl (r_sr (p_mv rfl rfl (p_as rfl rfl (o_keep (.c 2 rfl .n) ?_))))
   refine r_rete (ov1) hF rfl (.c (.t rfl) .n) ?_ ?_
   ·refine Ent.catI ?_; rw [show dueB s = dueL 0 (s.l.take i) by rw [List.take_of_length_le hilt]; rfl]; refine Ent.c (SelS.ent) ?_; repeat first|exact eR|refine eB ?_|refine eS ?_|refine eN ?_|refine eX ?_|refine eD ?_
   ·rfl

theorem book_DueN (M : Amb) (T : TypeId) (rest : List Value) (b : Nat) (s : BrokS) (hI : BInv s) (lv ov : Value) (ts : List DT) (hts : ts.length = s.l.length) : FnN (α := Value) Tryz.prog M 40 [ptr b] [blk b (lv :: ov :: rest) T, sl lv 106 4 (List.zipWith rowD ts s.l), sl ov 3 1 (s.order.map rI), manyP bdealP ts s.l] (fun x => x) (fun x => [sl x 72 6 ((dueB s).map rM)]) := book_Due_o M T rest b s hI lv ov ts hts
theorem broker_DueN (M : Amb) (b : Nat) (s : BrokS) (hI : BInv s) : FnN (α := Value) Tryz.prog M 20 [ptr b] [brokP b s] (fun x => x) (fun x => [sl x 72 6 ((dueB s).map rM)]) := broker_Due M b s hI
theorem broker_DoneN (M : Amb) (b : Nat) (s : BrokS) (hI : BInv s) (hb : s.order.length ≤ 1000) : FnN (α := Value) Tryz.prog M 44 [ptr b] [brokP b s] (fun x => x) (fun x => [sl x 3 1 (s.order.map rI)]) := broker_Done M b s hI hb
theorem broker_WantsN (M : Amb) (b : Nat) (s : BrokS) (hI : BInv s) (n : Int) (hw : ∀ d ∈ s.l, d.wants.length ≤ 1000) : FnN (α := Value) Tryz.prog M 52 [ptr b, .int .i64 n] [brokP b s] (fun x => x) (fun x => [sl x 42 2 ((wantsB s n).map rW)]) := broker_Wants M b s hI n hw
section opening3
variable {P : Program} {F : Exit → Act → World → Prop} {N : Nat} {M : Amb} {K : List KI} {env : Env} {ops : Array Oper} {rest : List Oper} {b : Nat} {s : BrokS} {R : List HP} {T : TypeId} {rs : List Value}
variable {E0 : Env} {Hq He : List HP} {p : Plan} {eff : List Nat}
end opening3

end Go.Proofs.YtmakdilmibjpbacGreat
