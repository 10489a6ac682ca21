/- The walks of BookW: written by a program of ours (gen.py) over the engine. -/
import Derived.Test.YtmakdilmibjpbacGreatPlain
import Derived.Test.YtmakdilmibjpbacGreatFacts
import Derived.Test.YtmakdilmibjpbacGreatBookP
import Derived.Test.YtmakdilmibjpbacGreatBrokW2
import Derived.Test.YtmakdilmibjpbacGreatFun
namespace Go.Proofs.YtmakdilmibjpbacGreat
open Go Go.RowKit
set_option linter.unusedVariables false
set_option linter.unusedSimpArgs false
set_option maxRecDepth 20000

theorem zip_set1 {ts : List DT} {ds : List Deal} {i : Nat} {t : DT} {d' : Deal} (h : ts[i]? = some t) : (List.zipWith rowD ts ds).set i (rowD t d') = List.zipWith rowD ts (ds.set i d') := zip_set.trans (by rw [set_selfE h])

theorem book_State_o (M : Amb) (T : TypeId) (rest : List Value) (b : Nat) (s : BrokS) (hI : BInv s) (lv ov : Value) (ts : List DT) (hts : ts.length = s.l.length) (n : Int) : FnC Tryz.prog M 74 [ptr b, .int .i64 n] (.int .i64 (stateB s n)) [blk b (lv :: ov :: rest) T, sl lv 106 4 (List.zipWith rowD ts s.l), sl ov 3 1 (s.order.map rI), manyP bdealP ts s.l] [blk b (lv :: ov :: rest) T, sl lv 106 4 (List.zipWith rowD ts s.l), sl ov 3 1 (s.order.map rI), manyP bdealP ts s.l] := by
 refine fnc_intro Tryz.func74 rfl Tryz.ntmps74 rfl fun R F hF => ?_
 refine r_cat ?_
 refine r_rd lv fun hrd => ?_
 refine r_rd ov fun hro => ?_
 refine r_sr (p_as rfl rfl (o_keep (.c 0 rfl (.c 1 rfl (.c 4 rfl .n))) (r_seq (r_sr (p_mv rfl rfl (p_lss rfl rfl rfl (p_mv rfl rfl ?_)))))))
 refine l_op (x_p (pv_mv (.s rfl rfl rfl) rfl rfl (by first | exact fun _ => rfl | exact id | exact fun h => (Bool.and_eq_true_iff.1 h).1 | simp_all)) rfl rfl (l_op (x_p (pv_mv (.s rfl rfl rfl) rfl rfl (by first | exact fun _ => rfl | exact id | exact fun h => (Bool.and_eq_true_iff.1 h).1 | simp_all)) rfl rfl ?_)))
 refine l_op (x_p (pv_nilp (.s rfl rfl rfl) rfl rfl (by first | exact fun _ => rfl | exact id | exact fun h => (Bool.and_eq_true_iff.1 h).1 | simp_all)) rfl rfl (l_op (x_p (pv_fa fa_59_0 (.s rfl rfl rfl) rfl rfl (by first | exact fun _ => rfl | exact id | exact fun h => (Bool.and_eq_true_iff.1 h).1 | simp_all)) rfl rfl ?_)))
 refine l_op (x_r (q_ldc tc_56 (.s rfl rfl rfl) rfl rfl (by first | exact fun _ => rfl | exact id | exact fun h => (Bool.and_eq_true_iff.1 h).1 | simp_all) (by rfl)) rfl rfl ?_)
 refine l_op (x_p (pv_lens (Rd.lenz hrd hts) ⟨_, Tryz.underlying56⟩ (.s rfl rfl rfl) rfl rfl rfl rfl (by first | exact fun _ => rfl | exact id | exact fun h => (Bool.and_eq_true_iff.1 h).1 | simp_all)) rfl rfl ?_)
 refine l_op (x_p (pv_geq (.s rfl rfl rfl) rfl rfl rfl (by refine fun h => ⟨?_, ?_⟩ <;> first | rfl | exact h | exact (Bool.and_eq_true_iff.1 h).1 | simp_all)) rfl rfl ?_)
 refine l_op (x_p (pv_or (.n rfl) rfl rfl rfl (fun _ => ⟨rfl, fun hc => by first | rfl | (rw [hc]; rfl) | simp_all⟩)) rfl rfl ?_)
 refine o_keep (.c 0 rfl (.c 1 rfl (.c 4 rfl (.c 15 rfl .n)))) (r_cond _ rfl (fun h1 => ?_) (fun h1 => ?_))
 ·skip
  have hst := stateB_out (b := s) (n := n) (by simp at h1; omega)
  refine r_sr (p_as rfl rfl (o_keep (.c 0 rfl (.c 1 rfl (.c 4 rfl .n))) ?_))
  refine r_retv hF rfl (.c (.t rfl) .n) ?_ ?_
  ·refine Ent.catI ?_; repeat first|exact eR|refine eB ?_|refine eS ?_|refine eN ?_|refine eX ?_|refine eD ?_
  ·rw [hst]; rfl
 ·skip
  have hn0 : 0 ≤ n ∧ n < s.l.length := by simp at h1; omega
  obtain ⟨i, hni⟩ : ∃ i : Nat, n = (i : Int) := ⟨n.toNat, by omega⟩
  obtain ⟨t, ht⟩ := getlt (l := ts) (i := i) (by omega)
  obtain ⟨d, hd⟩ := getlt (l := s.l) (i := i) (by omega)
  have hst : stateB s n = d.state := by rw [hni]; exact stateB_at hd
  refine r_skip (r_sr (p_mv rfl rfl (p_nil rfl rfl (p_fa fa_59_0 rfl rfl (p_ldc tc_56 rfl (by rfl) rfl ?_)))))
  refine p_mv rfl rfl (p_idx Tryz.underlying56 (.ofA ta_106) hrd hni (zip_get ht hd) rfl rfl rfl (p_faat fa_106_1 (Rd.sh hrd (zip_get ht hd)) rfl rfl (p_ldat 1 tc_3 (Rd.ent hrd (by repeat (first | exact Ent.rfl | exact Ent.one Ent.h | exact Ent.one (SelS.ent) | exact Ent.nil | exact Ent.left | refine Ent.dropR ?_ | refine Ent.tr Ent.skip ?_))) (zip_get ht hd) rfl rfl rfl rfl ?_)))
  refine p_as rfl rfl (o_keep (.c 4 rfl .n) ?_)
  refine r_retv hF rfl (.c (.t rfl) .n) ?_ ?_
  ·refine Ent.catI ?_; repeat first|exact eR|refine eB ?_|refine eS ?_|refine eN ?_|refine eX ?_|refine eD ?_
  ·rw [hst]; rfl

theorem bookP_open {M : Amb} {R : List HP} {b : Nat} {s : BrokS} {T : TypeId} {rest : List Value} {w : World} (ho : Own M (bookP b T rest s :: R) w) : ∃ lv ov ts, ts.length = s.l.length ∧ Own M (bookL b T rest s lv ov ts ++ R) w := by
  obtain ⟨hb, hs, g, ⟨x, y, ⟨lv, ov, ts, hl, hx⟩, hr, hd, e⟩, hh⟩ := ho
  subst e
  exact ⟨lv, ov, ts, hl, hb, hs, _, sep_app' hx hr hd, hh⟩
theorem FnC.book {P : Program} {M : Amb} {f : FuncId} {vs : List Value} {ret : Value} {b : Nat} {T : TypeId} {rest : List Value} {s : BrokS} (h : ∀ lv ov ts, ts.length = s.l.length → FnC P M f vs ret (bookL b T rest s lv ov ts) (bookL b T rest s lv ov ts)) : FnC P M f vs ret [bookP b T rest s] [bookP b T rest s] := fun R w ho => by
  obtain ⟨lv, ov, ts, hl, ho'⟩ := bookP_open ho
  refine (h lv ov ts hl R w ho').mono fun _ _ ⟨v, H', e, ⟨h1, h2⟩, ho2⟩ => ⟨v, _, e, ⟨h1, rfl⟩, ?_⟩
  subst h2
  have ho3 : Own M (blk b (lv :: ov :: rest) T :: sl lv 106 4 (List.zipWith rowD ts s.l) :: sl ov 3 1 (s.order.map rI) :: manyP bdealP ts s.l :: R) _ := ho2
  exact ho3.ent (bookP_close (b := b) (s := s) lv ov ts hl rfl rfl rfl)
theorem book_State (M : Amb) (T : TypeId) (rest : List Value) (b : Nat) (s : BrokS) (hI : BInv s) (n : Int) : FnC Tryz.prog M 74 [ptr b, .int .i64 n] (.int .i64 (stateB s n)) [bookP b T rest s] [bookP b T rest s] := FnC.book fun lv ov ts hts => book_State_o M T rest b s hI lv ov ts hts n

theorem book_Quit (M : Amb) (T : TypeId) (rest : List Value) (b : Nat) (s : BrokS) (hI : BInv s) (n : Int) : FnC Tryz.prog M 36 [ptr b, .int .i64 n] (.int .i64 (quitB s n).2) [bookP b T rest s] [bookP b T rest (quitB s n).1] := by
 refine fnc_intro Tryz.func36 rfl Tryz.ntmps36 rfl fun R F hF => ?_
 refine r_cat ?_
 refine r_sr (p_as rfl rfl (o_keep (.c 0 rfl (.c 1 rfl (.c 4 rfl .n))) (r_seq (r_sr (p_mv rfl rfl (p_mv rfl rfl ?_))))))
 refine p_callv cf_74 (.c rfl (.c rfl .n)) rfl ((book_State _ T rest b s hI n).q) ?_
 refine p_eql rfl rfl rfl (o_keep (.c 0 rfl (.c 1 rfl (.c 4 rfl (.c 8 rfl .n)))) (r_cond _ rfl (fun h1 => ?_) (fun h1 => ?_)))
 ·skip
  have hs : quitB s n = (s, 7) := by unfold quitB; rw [if_pos (of_decide_eq_true h1)]
  refine r_sr (p_as rfl rfl (o_keep (.c 0 rfl (.c 1 rfl (.c 4 rfl .n))) ?_))
  refine r_retv hF rfl (.c (.t rfl) .n) ?_ ?_
  ·refine Ent.catI ?_; rw [hs]; refine Ent.c (SelX.ent) ?_; repeat first|exact eR|refine eB ?_|refine eS ?_|refine eN ?_|refine eX ?_|refine eD ?_
  ·rw [hs]; rfl
 ·skip
  have h1 : ¬ stateB s n = -1 := of_decide_eq_false h1
  have hn0 : 0 ≤ n ∧ n < s.l.length := by rcases hI.st n with h | h; omega; exact ⟨h.1, h.2.1⟩
  obtain ⟨i, hni⟩ : ∃ i : Nat, n = (i : Int) := ⟨n.toNat, by omega⟩
  obtain ⟨d, hd⟩ := getlt (l := s.l) (i := i) (by omega)
  have hst : stateB s n = d.state := by rw [hni]; exact stateB_at hd
  refine r_skip (r_seq (r_seq ?_))
  refine r_book fun lv ov ts hts => ?_
  refine r_cat ?_
  refine r_rd lv fun hrd => ?_
  refine r_rd ov fun hro => ?_
  obtain ⟨t, ht⟩ := getlt (l := ts) (i := i) (by omega)
  refine r_region (p_mv rfl rfl (p_nil rfl rfl (p_fa fa_59_0 rfl rfl (p_ldc tc_56 rfl (by rfl) rfl ?_))))
  refine p_mv rfl rfl (p_idx Tryz.underlying56 (.ofA ta_106) hrd hni (zip_get ht hd) rfl rfl rfl (p_faat fa_106_1 (Rd.sh hrd (zip_get ht hd)) rfl rfl (p_ldat 1 tc_3 (Rd.ent hrd (by repeat (first | exact Ent.rfl | exact Ent.one Ent.h | exact Ent.one (SelS.ent) | exact Ent.nil | exact Ent.left | refine Ent.dropR ?_ | refine Ent.tr Ent.skip ?_))) (zip_get ht hd) rfl rfl rfl rfl ?_)))
  refine p_neq rfl rfl rfl (o_keep (.c 0 rfl (.c 1 rfl (.c 4 rfl (.c 17 rfl .n)))) (r_cond _ rfl (fun h2 => ?_) (fun h2 => ?_)))
  ·skip
   have h2 : d.state ≠ 0 := by simpa using h2
   have hs : quitB s n = (s, 8) := by unfold quitB; rw [if_neg h1, if_neg (by omega)]
   refine r_sr (p_as rfl rfl (o_keep (.c 0 rfl (.c 1 rfl (.c 4 rfl .n))) ?_))
   refine r_retv hF rfl (.c (.t rfl) .n) ?_ ?_
   ·refine Ent.catI ?_; rw [hs]; refine Ent.c (bookP_close lv ov ts hts rfl rfl rfl) ?_; repeat first|exact eR|refine eB ?_|refine eS ?_|refine eN ?_|refine eX ?_|refine eD ?_
   ·rw [hs]; rfl
  ·skip
   have h2 : d.state = 0 := by simpa using h2
   have hs : quitB s n = (⟨s.l.set i { d with state := 2 }, s.order⟩, 0) := by unfold quitB; rw [if_neg h1, if_pos (by omega)]; rw [show n.toNat = i by omega, decideB_2 hd h2]; rfl
   refine r_skip (r_seq ?_)
   refine r_bdeal i ht hd fun hy => ?_
   refine r_cat ?_
   refine r_rd t.wv fun hrw => ?_
   refine r_rd t.yv fun hry => ?_
   refine r_rd t.tv fun hrt => ?_
   refine r_region (p_mv rfl rfl (p_nil rfl rfl (p_fa fa_59_0 rfl rfl (p_ldc tc_56 rfl (by rfl) rfl ?_))))
   refine p_mv rfl rfl (p_idx Tryz.underlying56 (.ofA ta_106) hrd hni (zip_get ht hd) rfl rfl rfl (p_faat fa_106_1 (Rd.sh hrd (zip_get ht hd)) rfl rfl ?_))
   refine p_stel 1 (.ofC tc_3) rfl (zip_get ht hd) rfl rfl rfl rfl rfl (by repeat constructor) ?_
   refine o_keep (.c 4 rfl .n) (r_sr (p_as rfl rfl (o_keep (.c 4 rfl .n) ?_)))
   refine r_retv hF rfl (.c (.t rfl) .n) ?_ ?_
   ·refine Ent.catI ?_; rw [hs]; refine Ent.tr (bdealP_close (d := { d with state := 2 }) t ⟨hy.nd, hy.rng, hy.is⟩ rfl rfl rfl) ?_; refine Ent.tr (Ent.mono (SelX.ent (X := restP bdealP ts s.l i))) ?_; refine Ent.tr (many_in ht hd) ?_; refine Ent.c (bookP_close (s := ⟨s.l.set i { d with state := 2 }, s.order⟩) lv ov ts (by simpa using hts) rfl (zip_set1 ht) rfl) ?_; repeat first|exact eR|refine eB ?_|refine eS ?_|refine eN ?_|refine eX ?_|refine eD ?_
   ·rw [hs]; rfl

theorem crashT_set {s : BrokS} {i : Nat} {d : Deal} (h : s.l[i]? = some d) : (crashT s i).l.set i (crashD d) = (crashT s (i + 1)).l := by
  have hi := (List.getElem?_eq_some_iff.1 h).1
  unfold crashT
  dsimp only
  rw [List.set_append_right _ _ (by simp; omega), List.length_map, List.length_take, Nat.min_eq_left (by omega), Nat.sub_self, drop_at h, List.take_add_one, h]
  simp
theorem yes_no (l : List Want) {st : Int} {ov : List Int} : YesR [] ⟨l, st, noYes l, ov⟩ :=
  ⟨List.nodup_nil, fun x hx => by simp at hx, fun i hi => by simp [noYes, List.getElem?_replicate]⟩
theorem sgs {α : Type} {l : List α} {i : Nat} {r : α} (h : i < l.length) : (l.set i r)[i]? = some r := List.getElem?_set_self h
theorem zlen {ts : List DT} {ds : List Deal} (h : ts.length = ds.length) : (List.zipWith rowD ts ds).length = ds.length := by simp [h]

abbrev bgD (ws : List Want) : Deal := ⟨ws, 0, noYes ws, []⟩
abbrev bgT0 (v : Value) : DT := ⟨v, .slice Option.none 0 0, .slice Option.none 0 0, []⟩
def nilS : Value := .slice Option.none 0 0
theorem crash_rows {s : BrokS} {us : List DT} {t : DT} {i : Nat} {d : Deal} {l2 : List Deal} {r1 : List Value} {st : Int} {yv tv : Value} {y : List Int} (hd : s.l[i]? = some d) (hl2 : l2 = (crashT s i).l.set i { d with state := st }) (hst : st = if d.state = 0 then 2 else d.state) :
    ((List.zipWith rowD us l2).set i r1).set i [t.wv, .int .i64 st, .slice Option.none 0 0, .slice Option.none 0 0] = List.zipWith rowD (us.set i ⟨t.wv, .slice Option.none 0 0, .slice Option.none 0 0, []⟩) (crashT s (i + 1)).l := by
  have e : ([t.wv, .int .i64 st, .slice Option.none 0 0, .slice Option.none 0 0] : List Value) = rowD ⟨t.wv, .slice Option.none 0 0, .slice Option.none 0 0, []⟩ (crashD d) := by subst hst; rfl
  rw [List.set_set, e, zip_set, hl2, List.set_set, crashT_set hd]

theorem book_Crash (M : Amb) (T : TypeId) (rest : List Value) (b : Nat) (s : BrokS) (hI : BInv s) : FnC Tryz.prog M 38 [ptr b] (resVal []) [bookP b T rest s] [bookP b T rest (crashB s)] := by
 have hl8 := hI.len
 refine fnc_intro Tryz.func38 rfl Tryz.ntmps38 rfl fun R F hF => ?_
 refine r_cat ?_
 refine r_book fun lv ov ts hts => ?_
 refine r_cat ?_
 refine r_rd lv fun hrd => ?_
 refine r_rd ov fun hro => ?_
 refine r_sr (p_as rfl rfl (o_keep (.c 0 rfl (.c 2 rfl .n)) (r_block ?_)))
 refine r_loop_2 (fun (i : Nat) (us : List DT) => [(2, true, .int .i64 (i : Int))]) (.c 0 rfl .n) (fun (i : Nat) (us : List DT) => blk b (lv :: ov :: rest) T :: sl lv 106 4 (List.zipWith rowD us (crashT s i).l) :: sl ov 3 1 (s.order.map rI) :: manyP bdealP us (crashT s i).l :: R) (fun (i : Nat) (us : List DT) => i ≤ s.l.length ∧ us.length = s.l.length) (fun (i : Nat) (us : List DT) => s.l.length - i) (0) (ts) ?_ (.c 2 rfl .n) ?_ (fun i us hI => ?_)
 ·exact ⟨Nat.zero_le _, hts⟩
 ·rw [crashT_0]; repeat first|exact eR|refine eB ?_|refine eS ?_|refine eN ?_|refine eX ?_|refine eD ?_
 ·skip
  obtain ⟨hi0, hus⟩ := hI
  refine r_rd lv fun hrl => ?_
  refine r_seq (r_sr (p_mv rfl rfl (p_mv rfl rfl (p_nil rfl rfl (p_fa fa_59_0 rfl rfl (p_ldc tc_56 rfl (by rfl) rfl ?_))))))
  refine l_op (x_p (pv_lens (Rd.lenz hrl (hus.trans (crashT_len s i).symm)) ⟨_, Tryz.underlying56⟩ (.n rfl) rfl rfl rfl rfl (fun _ => rfl)) rfl rfl (p_lss rfl rfl rfl (o_keep (.c 0 rfl (.c 2 rfl (.c 9 rfl .n))) (r_cond _ rfl (fun h1 => ?_) (fun h1 => ?_)))))
  ·skip
   have hil : i < s.l.length := by have := of_decide_eq_true h1; have := crashT_len s i; omega
   obtain ⟨d, hd⟩ := getlt hil
   obtain ⟨t, ht⟩ := getlt (l := us) (i := i) (by omega)
   have hdc := crashT_at hd
   refine r_skip (r_seq (r_block (r_seq (r_sr (p_mv rfl rfl (p_nil rfl rfl (p_fa fa_59_0 rfl rfl ?_)))))))
   refine p_ldc tc_56 rfl (by rfl) rfl ?_
   refine p_mv rfl rfl (p_idx Tryz.underlying56 (.ofA ta_106) hrl rfl (zip_get ht hdc) rfl rfl rfl (p_faat fa_106_1 (Rd.sh hrl (zip_get ht hdc)) rfl rfl (p_ldat 1 tc_3 (Rd.ent hrl (by repeat (first | exact Ent.rfl | exact Ent.one Ent.h | exact Ent.one (SelS.ent) | exact Ent.nil | exact Ent.left | refine Ent.dropR ?_ | refine Ent.tr Ent.skip ?_))) (zip_get ht hdc) rfl rfl rfl rfl ?_)))
   refine p_eql rfl rfl rfl (o_keep (.c 0 rfl (.c 2 rfl (.c 20 rfl .n))) ?_)
   refine r_cut_1 (fun (l2 : List Deal) => []) (.c 0 rfl (.c 2 rfl .n)) (fun (l2 : List Deal) => blk b (lv :: ov :: rest) T :: sl lv 106 4 (List.zipWith rowD us l2) :: sl ov 3 1 (s.order.map rI) :: manyP bdealP us (crashT s i).l :: R) (fun (l2 : List Deal) => l2 = ((crashT s i).l.set i { d with state := if d.state = 0 then 2 else d.state })) ?_ (fun l2 hI => ?_)
   ·skip
    refine r_cond _ rfl (fun h2 => ?_) (fun h2 => ?_)
    ·skip
     have h0 : d.state = 0 := of_decide_eq_true h2
     refine r_region (p_mv rfl rfl (p_nil rfl rfl (p_fa fa_59_0 rfl rfl (p_ldc tc_56 rfl (by rfl) rfl ?_))))
     refine p_mv rfl rfl (p_idx Tryz.underlying56 (.ofA ta_106) hrl rfl (zip_get ht hdc) rfl rfl rfl (p_faat fa_106_1 (Rd.sh hrl (zip_get ht hdc)) rfl rfl ?_))
     refine p_stel 1 (.ofC tc_3) rfl (zip_get ht hdc) rfl rfl rfl rfl rfl (by repeat constructor) ?_
     refine o_keep (.c 0 rfl (.c 2 rfl .n)) ?_
     refine r_join_1 ((crashT s i).l.set i { d with state := 2 }) ?_ (Keep.app (.n) (.c 0 rfl (.c 2 rfl .n))) ?_
     ·rw [if_pos h0]
     ·rw [← zip_set1 ht]; repeat first|exact eR|refine eB ?_|refine eS ?_|refine eN ?_|refine eX ?_|refine eD ?_
    ·skip
     have h0 : ¬ d.state = 0 := of_decide_eq_false h2
     refine r_skip ?_
     refine r_join_1 ((crashT s i).l) ?_ (Keep.app (.n) (.c 0 rfl (.c 2 rfl .n))) ?_
     ·rw [if_neg h0]; exact (set_selfE hdc).symm
     ·repeat first|exact eR|refine eB ?_|refine eS ?_|refine eN ?_|refine eX ?_|refine eD ?_
   have hl2 := hI
   have hd2 : l2[i]? = some { d with state := if d.state = 0 then 2 else d.state } := by rw [hl2]; exact sgs (by rw [crashT_len]; exact hil)
   refine r_rd lv fun hr2 => ?_
   refine r_bdeal i ht hdc fun hy => ?_
   refine r_cat ?_
   refine r_rd t.wv fun hrw => ?_
   refine r_rd t.yv fun hry => ?_
   refine r_rd t.tv fun hrt => ?_
   refine r_plan (_) ([sl lv 106 4 (List.zipWith rowD us l2)]) mo (.c 0 rfl (.c 2 rfl .n)) (SelS.ent) ?_
   refine qp 0 [.k 0] rfl rfl rfl rfl (by kernel_rfl) rfl (u_mv rfl rfl rfl) (qp 1 [.o 0] rfl rfl rfl rfl (by kernel_rfl) rfl (u_nil rfl rfl rfl) (qp 2 [.o 1] rfl rfl rfl rfl (by kernel_rfl) rfl (u_fa fa_59_0 rfl rfl rfl) (qr 3 [.o 2] rfl rfl rfl rfl (by kernel_rfl) rfl (fun He => u_ldc tc_56 rfl rfl rfl (by rfl)) ?_)))
   refine qp 4 [.k 2] rfl rfl rfl rfl (by kernel_rfl) rfl (u_mv rfl rfl rfl) (qp 5 [.k 0] rfl rfl rfl rfl (by kernel_rfl) rfl (u_mv rfl rfl rfl) (qp 6 [.o 5] rfl rfl rfl rfl (by kernel_rfl) rfl (u_nil rfl rfl rfl) (qp 7 [.o 6] rfl rfl rfl rfl (by kernel_rfl) rfl (u_fa fa_59_0 rfl rfl rfl) (qr 8 [.o 7] rfl rfl rfl rfl (by kernel_rfl) rfl (fun He => u_ldc tc_56 rfl rfl rfl (by rfl)) ?_))))
   refine qp 9 [.k 2] rfl rfl rfl rfl (by kernel_rfl) rfl (u_mv rfl rfl rfl) (qp 10 [.o 3, .o 4] rfl rfl rfl rfl (by kernel_rfl) rfl (pv_idx Tryz.underlying56 (.ofA ta_106) hr2 (fun hg => ⟨rfl, (zip_get ht hd2)⟩) (.n rfl) rfl rfl rfl (fun _ => ⟨rfl, rfl⟩)) (qp 11 [.o 10] rfl rfl rfl rfl (by kernel_rfl) rfl (pv_faat fa_106_2 (fun hg => Rd.sh hr2 (zip_get ht hd2)) (.n rfl) rfl rfl (fun _ => rfl)) ?_))
   refine qm_stel 2 (.ofC tc_57) (zip_get ht hd2) rfl (i := 12) [.o 11] (by kernel_rfl) (by kernel_rfl) rfl rfl rfl (by kernel_rfl) (by kernel_rfl) ⟨_, .n rfl, rfl⟩ rfl rfl rfl rfl rfl rfl (by repeat constructor) ?_
   refine qp 13 [.o 8, .o 9] rfl rfl rfl rfl (by kernel_rfl) rfl (pv_idx Tryz.underlying56 (.ofA ta_106) hr2 (fun hg => ⟨rfl, (zip_get ht hd2)⟩) (.n rfl) rfl rfl rfl (fun _ => ⟨rfl, rfl⟩)) (qp 14 [.o 13] rfl rfl rfl rfl (by kernel_rfl) rfl (pv_faat fa_106_3 (fun hg => Rd.sh hr2 (zip_get ht hd2)) (.n rfl) rfl rfl (fun _ => rfl)) ?_)
   refine qb_stel 3 (.ofC tc_57) (sgs (by rw [zlen (by rw [hl2]; simp [crashT_len, hus])]; rw [hl2]; simp [crashT_len]; omega)) rfl (i := 15) [.o 14] (by kernel_rfl) (by kernel_rfl) rfl rfl rfl (by kernel_rfl) (by kernel_rfl) (by kernel_rfl) ⟨_, .n rfl, rfl⟩ rfl rfl rfl rfl rfl rfl (by repeat constructor) ?_
   refine qm_n (by kernel_rfl) (by kernel_rfl) (by kernel_rfl) (by kernel_rfl) (.c 0 rfl (.c 2 rfl .n)) ?_
   refine r_end (r_region (p_mv rfl rfl (p_add rfl rfl (by omega) rfl (p_as rfl rfl (o_keep (.c 0 rfl (.c 2 rfl .n)) ?_)))))
   refine r_back_2 (i + 1) (us.set i ⟨t.wv, .slice Option.none 0 0, .slice Option.none 0 0, []⟩) ?_ ?_ (Keep.app (.c 2 rfl .n) (.c 0 rfl .n)) ?_
   ·exact ⟨by omega, by simpa using hus⟩
   ·omega
   ·rw [← crash_rows (t := t) (r1 := [t.wv, .int .i64 (if d.state = 0 then 2 else d.state), .slice Option.none 0 0, t.tv]) (yv := nilS) (tv := nilS) (y := []) hd hl2 rfl]; refine Ent.c (SelB.ent) ?_; refine Ent.c (SelS.ent) ?_; refine Ent.c (SelS.ent) ?_; refine Ent.tr (Ent.slN (E := 3) (sz := 1)) (Ent.tr (Ent.slN (E := 3) (sz := 1)) ?_); refine Ent.tr (bdealP_close (d := crashD d) ⟨t.wv, .slice Option.none 0 0, .slice Option.none 0 0, []⟩ (yes_no d.wants) rfl rfl rfl) ?_; refine Ent.tr (Ent.mono (SelX.ent (X := restP bdealP us (crashT s i).l i))) ?_; refine Ent.tr (many_in2 (b' := ⟨t.wv, .slice Option.none 0 0, .slice Option.none 0 0, []⟩) (d' := crashD d) ht hdc) ?_; rw [crashT_set hd]; repeat first|exact eR|refine eB ?_|refine eS ?_|refine eN ?_|refine eX ?_|refine eD ?_
  ·skip
   have hil : s.l.length ≤ i := by have := of_decide_eq_false h1; have := crashT_len s i; omega
   refine r_exit rfl ?_
   refine r_fallc hF rfl ?_
   ·refine Ent.catI ?_; rw [← crashT_all s hil]; refine Ent.c (bookP_close (s := crashT s i) lv ov us (hus.trans (crashT_len s i).symm) rfl rfl rfl) ?_; repeat first|exact eR|refine eB ?_|refine eS ?_|refine eN ?_|refine eX ?_|refine eD ?_

theorem one_cons {M : Amb} {H : List HP} {v : Value} {sz : Nat} {rows : List (List Value)} {r : List Value} (h : Rd M H v sz rows) (hr : r.all (·.oneCell') = true) : (v :: r).all (·.oneCell') = true := by
  obtain ⟨ao, c, rfl⟩ := h.shape; exact hr
theorem Rd.lenz1 {H : List HP} {M : Amb} {v : Value} {sz : Nat} {ts : List DT} {l : List Deal} {r : List Value} (h : Rd M H v sz (List.zipWith rowD ts l ++ [r])) (e : ts.length = l.length) : ∃ ao c, v = .slice ao (l.length + 1) c := by
  obtain ⟨ao, c, e'⟩ := h.shape
  exact ⟨ao, c, by rw [e', List.length_append, List.length_zipWith, e, Nat.min_self]; rfl⟩
theorem zip_add {ts : List DT} {ds : List Deal} {t : DT} {d : Deal} (h : ts.length = ds.length) : List.zipWith rowD ts ds ++ [rowD t d] = List.zipWith rowD (ts ++ [t]) (ds ++ [d]) := by
  rw [List.zipWith_append h]; rfl

theorem book_BeginR (M : Amb) (T : TypeId) (rest : List Value) (b : Nat) (s : BrokS) (hI : BInv s) (R : List HP) (wv : Value) (ws : List Want) (hw : Rd M R wv 2 (ws.map rW)) (hb : ws.length ≤ 1000) : FnR Tryz.prog M (bookP b T rest s :: R) 31 [ptr b, wv] (fun u H' => u = .tuple #[.int .i64 (beginB s ws).2.1, .int .i64 (beginB s ws).2.2] ∧ H' = bookP b T rest (beginB s ws).1 :: R) := by
 have hl8 := hI.len
 refine fn_intro Tryz.func31 rfl Tryz.ntmps31 rfl fun F hF => ?_
 refine r_book fun lv ov ts hts => ?_
 refine r_cat ?_
 refine r_rd lv fun hrd => ?_
 refine r_rd ov fun hro => ?_
 refine r_sr (p_as rfl rfl (p_as rfl rfl (o_keep (.c 0 rfl (.c 1 rfl (.c 4 rfl (.c 5 rfl .n)))) (r_seq (r_sr (p_mv rfl rfl ?_))))))
 refine p_callv cf_69 (.c rfl .n) rfl (ref_WantsFault _ _ wv ws (Rd.ent hw (by repeat (first | exact Ent.rfl | refine Ent.dropR ?_))) hb) ?_
 refine p_alloc zr_78 rfl fun b6 => ?_
 refine p_store (.ofA ta_78) rfl rfl rfl (by first | rfl | exact rfl) (by first | rfl | exact rfl) (Ins.whole (by first | rfl | (simp only [List.length_map, List.length_cons, List.length_nil]; omega) | (simp [*]; done) | (simp [*]; rfl))) ?_
 refine o_keep (.c 0 rfl (.c 1 rfl (.c 4 rfl (.c 5 rfl (.c 6 rfl .n))))) (r_sr (p_fa fa_78_0 rfl rfl (p_ldc tc_3 rfl (by rfl) rfl ?_)))
 refine p_neq rfl rfl rfl (o_keep (.c 0 rfl (.c 1 rfl (.c 4 rfl (.c 5 rfl (.c 6 rfl (.c 12 rfl .n)))))) (r_cond _ rfl (fun h1 => ?_) (fun h1 => ?_)))
 ·skip
  have hc : (checkL ws).code ≠ 0 := by simpa using h1
  have hs : beginB s ws = (s, 0, (checkL ws).code) := by unfold beginB; rw [if_pos hc]
  refine r_seq ?_
  refine r_plan _ [] mo (.c 0 rfl (.c 1 rfl (.c 6 rfl .n))) Ent.rfl ?_
  refine qp 0 [.k 6] rfl rfl rfl rfl (by kernel_rfl) rfl (u_fa fa_78_0 rfl rfl rfl) (qr 1 [.o 0] rfl rfl rfl rfl (by kernel_rfl) rfl (fun He => u_ldc tc_3 rfl rfl rfl (by rfl)) ?_)
  refine qp 2 [] rfl rfl rfl rfl (by kernel_rfl) rfl (u_as rfl rfl rfl) (qp 3 [.o 1] rfl rfl rfl rfl (by kernel_rfl) rfl (u_as rfl rfl rfl) ?_)
  refine qm_n (by kernel_rfl) (by kernel_rfl) (by kernel_rfl) (by kernel_rfl) (.c 0 rfl (.c 1 rfl (.c 4 rfl (.c 5 rfl .n)))) ?_
  refine r_retv hF rfl (.c (.t rfl) (.c (.t rfl) .n)) ?_ ?_
  ·rw [hs]; refine Ent.c (bookP_close lv ov ts hts rfl rfl rfl) ?_; repeat first|exact eR|refine eB ?_|refine eS ?_|refine eN ?_|refine eX ?_|refine eD ?_
  ·rw [hs]; rfl
 ·skip
  have hc : ¬ (checkL ws).code ≠ 0 := by simpa using h1
  refine r_skip (r_seq (r_sr (p_mv rfl rfl (p_nil rfl rfl (p_fa fa_59_0 rfl rfl (p_ldc tc_56 rfl (by rfl) rfl ?_))))))
  refine l_op (x_p (pv_lens (Rd.lenz hrd hts) ⟨_, Tryz.underlying56⟩ (.n rfl) rfl rfl rfl rfl (fun _ => rfl)) rfl rfl (p_geq rfl rfl rfl (o_keep (.c 0 rfl (.c 1 rfl (.c 4 rfl (.c 5 rfl (.c 20 rfl .n))))) (r_cond _ rfl (fun h2 => ?_) (fun h2 => ?_)))))
  ·skip
   have h8 : 8 ≤ s.l.length := by have := of_decide_eq_true h2; omega
   have hs : beginB s ws = (s, 0, 6) := by unfold beginB; rw [if_neg hc, if_pos h8]
   refine r_sr (p_as rfl rfl (p_as rfl rfl (o_keep (.c 0 rfl (.c 1 rfl (.c 4 rfl (.c 5 rfl .n)))) ?_)))
   refine r_retv hF rfl (.c (.t rfl) (.c (.t rfl) .n)) ?_ ?_
   ·rw [hs]; refine Ent.c (bookP_close lv ov ts hts rfl rfl rfl) ?_; repeat first|exact eR|refine eB ?_|refine eS ?_|refine eN ?_|refine eX ?_|refine eD ?_
   ·rw [hs]; rfl
  ·skip
   have h8 : ¬ 8 ≤ s.l.length := by have := of_decide_eq_false h2; omega
   have hs : beginB s ws = ({ s with l := s.l ++ [(bgD ws)] }, (s.l.length : Int), 0) := by unfold beginB; rw [if_neg hc, if_neg h8]
   refine r_skip (r_sr (p_as rfl rfl (o_keep (.c 0 rfl (.c 1 rfl (.c 4 rfl (.c 5 rfl (.c 7 rfl .n))))) (r_seq ?_))))
   refine r_slN 42 2 ?_
   refine r_plan (_) ([sl (.slice Option.none 0 0) 42 2 [], sl lv 106 4 (List.zipWith rowD ts s.l)]) mo (.c 0 rfl (.c 1 rfl (.c 4 rfl (.c 5 rfl (.c 7 rfl .n))))) ((Ent.c SelS.ent (Ent.c SelS.ent Ent.rfl))) ?_
   refine qp 0 [.k 0] rfl rfl rfl rfl (by kernel_rfl) rfl (u_mv rfl rfl rfl) (qp 1 [.k 0] rfl rfl rfl rfl (by kernel_rfl) rfl (u_mv rfl rfl rfl) (qp 2 [.o 1] rfl rfl rfl rfl (by kernel_rfl) rfl (u_nil rfl rfl rfl) (qp 3 [.o 2] rfl rfl rfl rfl (by kernel_rfl) rfl (u_fa fa_59_0 rfl rfl rfl) (qr 4 [.o 3] rfl rfl rfl rfl (by kernel_rfl) rfl (fun He => u_ldc tc_56 rfl rfl rfl (by rfl)) ?_))))
   refine qp 5 [.k 7] rfl rfl rfl rfl (by kernel_rfl) rfl (u_mv rfl rfl rfl) (qp 6 [.k 1] rfl rfl rfl rfl (by kernel_rfl) rfl (u_mv rfl rfl rfl) ?_)
   refine qa_append Tryz.underlying32 el_42 rfl rfl (i := 7) [.o 5, .o 6] (by kernel_rfl) (by kernel_rfl) rfl rfl rfl rfl (by kernel_rfl) (by kernel_rfl) ⟨_, .n rfl, rfl⟩ rfl rfl rfl ((Rd.ent hw (by repeat (first | exact Ent.rfl | refine Ent.dropR ?_)))) (by simp; omega) fun v28 => ?_
   refine qm_rd v28 fun hr28 => ?_
   refine qp 8 [.o 7] rfl rfl rfl rfl (by kernel_rfl) rfl (pv_build zr_106 pl_106 (.n rfl) rfl (.c rfl (fun _ => rfl) rfl hr28.c1 rfl (by repeat constructor) .n)) ?_
   refine qm_bslice1 Tryz.underlying56 (.ofA ta_106) zr_106 rfl (i := 9) [.o 8] (by kernel_rfl) (by kernel_rfl) rfl rfl rfl rfl (by kernel_rfl) (by kernel_rfl) ⟨_, .n rfl, rfl⟩ rfl rfl rfl rfl (one_cons hr28 rfl) rfl fun b30 => ?_
   refine qa_append Tryz.underlying56 el_106 rfl rfl (i := 10) [.o 4, .o 9] (by kernel_rfl) (by kernel_rfl) rfl rfl rfl rfl (by kernel_rfl) (by kernel_rfl) ⟨_, .n rfl, rfl⟩ rfl rfl rfl (Rd.blit rfl (one_cons hr28 rfl)) (by simp; omega) fun v31 => ?_
   refine qm_rd v31 fun hr31 => ?_
   refine qp 11 [.o 0] rfl rfl rfl rfl (by kernel_rfl) rfl (u_nil rfl rfl rfl) (qp 12 [.o 11] rfl rfl rfl rfl (by kernel_rfl) rfl (u_fa fa_59_0 rfl rfl rfl) ?_)
   refine qb_store (.ofC tc_56) (i := 13) [.o 12, .o 10] (by kernel_rfl) (by kernel_rfl) rfl rfl rfl (by kernel_rfl) (by kernel_rfl) (by kernel_rfl) ⟨_, .n rfl, rfl⟩ rfl rfl rfl hr31.c1 rfl hr31.o1 (by repeat constructor) ?_
   refine qm_n (by kernel_rfl) (by kernel_rfl) (by kernel_rfl) (by kernel_rfl) (.c 0 rfl (.c 4 rfl (.c 5 rfl .n))) ?_
   refine r_seq ?_
   refine r_rd v31 fun hr9 => ?_
   refine r_region (p_mv rfl rfl (p_nil rfl rfl (p_fa fa_59_0 rfl rfl (p_ldc tc_56 rfl (by rfl) rfl ?_))))
   refine l_op (x_p (pv_lens (Rd.lenz1 hr9 hts) ⟨_, Tryz.underlying56⟩ (.n rfl) rfl rfl rfl rfl (fun _ => rfl)) rfl rfl (p_sub rfl rfl (by omega) rfl (p_as rfl rfl (p_as rfl rfl (o_keep (.c 4 rfl (.c 5 rfl .n)) ?_)))))
   refine r_retv hF rfl (.c (.t rfl) (.c (.t rfl) .n)) ?_ ?_
   ·rw [hs]; dsimp only; refine Ent.tr (Ent.slN (E := 3) (sz := 1)) (Ent.tr (Ent.slN (E := 3) (sz := 1)) ?_); refine Ent.tr (bdealP_close (d := (bgD ws)) (bgT0 v28) (yes_no ws) rfl rfl rfl) ?_; refine Ent.tr (Ent.mono (SelX.ent (X := manyP bdealP ts s.l))) ?_; refine Ent.tr (many_add hts) ?_; refine Ent.c (bookP_close (s := ⟨s.l ++ [(bgD ws)], s.order⟩) v31 ov (ts ++ [(bgT0 v28)]) (by simp [hts]) rfl (zip_add (t := (bgT0 v28)) (d := (bgD ws)) hts) rfl) ?_; repeat first|exact eR|refine eB ?_|refine eS ?_|refine eN ?_|refine eX ?_|refine eD ?_
   ·rw [hs]; show Value.tuple #[.int .i64 (((s.l.length + 1 : Nat) : Int) - 1), .int .i64 0] = _; rw [show ((s.l.length + 1 : Nat) : Int) - 1 = s.l.length by omega]

end Go.Proofs.YtmakdilmibjpbacGreat
