/- The walks of BrokW: written by a program of ours (gen.py) over the engine. -/
import Derived.Test.YtmakdilmibjpbabGreatDoorWants
import Derived.Test.YtmakdilmibjpbabGreatDoorFacts
import Derived.Test.YtmakdilmibjpbabGreatDoorBrokP
import Derived.Test.YtmakdilmibjpbabGreatDoorKeepW
namespace Go.Proofs.YtmakdilmibjpbabGreatDoor
open Go Go.RowKit
set_option linter.unusedVariables false
set_option linter.unusedSimpArgs false
set_option maxRecDepth 20000

def brk0 : BrokS := ⟨[], []⟩

theorem broker_New (M : Amb)  : FnE (α := Nat) Tryz.prog M 13 [] [] (fun x => ptr x) (fun x => [brokP x brk0]) := by
 refine fne_intro Tryz.func13 rfl Tryz.ntmps13 rfl fun R F hF => ?_
 refine r_cat ?_
 refine r_sr (p_as rfl rfl (o_keep (.c 0 rfl .n) (r_sr ?_)))
 refine p_build zr_70 pl_70 (.n) rfl ?_
 refine p_box rfl rfl rfl fun b2 => ?_
 refine p_as rfl rfl (o_keep (.c 0 rfl .n) ?_)
 refine r_rete (b2) hF rfl (.c (.t rfl) .n) ?_ ?_
 ·refine Ent.catI ?_; refine Ent.tr (show Ent _ (manyP dealP [] brk0.l :: _) from many_nil) (Ent.tr (Ent.slN (E := 3) (sz := 1)) (Ent.tr (Ent.slN (E := 126) (sz := 1)) ?_)); refine Ent.c (brokP_close (s := brk0) (r1 := []) (r2 := []) (.slice Option.none 0 0) (.slice Option.none 0 0) [] rfl rfl rfl rfl) ?_; repeat first|exact eR|refine eB ?_|refine eS ?_|refine eN ?_|refine eX ?_|refine eD ?_
 ·rfl

theorem int_Clone (M : Amb) (A : List HP) (v : Value) (rows : List (List Value)) (hr : Rd M A v 1 rows) (hb : rows.length ≤ 100000) : FnE (α := Value) Tryz.prog M 75 [v] A (fun x => x) (fun x => sl x 3 1 rows :: A) := by
 refine fne_intro Tryz.func75 rfl Tryz.ntmps75 rfl fun R F hF => ?_
 obtain ⟨ao, c, rfl⟩ := hr.shape
 refine r_sr (p_as rfl rfl (o_keep (.c 0 rfl (.c 2 rfl .n)) (r_seq (r_sr (p_mv rfl rfl (l_op (x_p (pv_seqn Tryz.underlying59 (.n rfl) rfl rfl rfl (fun _ => ⟨rfl, rfl⟩)) rfl rfl (o_keep (.c 0 rfl (.c 2 rfl (.c 4 rfl .n))) ?_))))))))
 refine r_cond _ rfl (fun h1 => ?_) (fun h1 => ?_)
 ·skip
  cases ao with
  | some _ => cases h1
  | none =>
  obtain rfl := hr.nilrows
  refine r_sr (p_as rfl rfl (o_keep (.c 0 rfl (.c 2 rfl .n)) ?_))
  refine r_rete (.slice Option.none 0 0) hF rfl (.c (.t rfl) .n) ?_ ?_
  ·exact Ent.slN
  ·rfl
 ·skip
  refine r_skip (r_sr ?_)
  refine p_bslice0 Tryz.underlying59 (.ofC tc_3) zr_3 rfl fun b5 => ?_
  refine p_mv rfl rfl ?_
  refine p_append Tryz.underlying59 el_3 rfl rfl rfl rfl rfl (Rd.ent hr (Ent.dropR Ent.left)) (by simp; omega) fun v7 => ?_
  refine o_rd v7 fun hr7 => ?_
  refine p_as rfl rfl (o_keep (.c 2 rfl .n) ?_)
  refine r_rete (v7) hF rfl (.c (.t rfl) .n) ?_ ?_
  ·exact Ent.rfl
  ·rfl

theorem want_Clone (M : Amb) (A : List HP) (v : Value) (rows : List (List Value)) (hr : Rd M A v 2 rows) (hb : rows.length ≤ 100000) : FnE (α := Value) Tryz.prog M 95 [v] A (fun x => x) (fun x => sl x 115 2 rows :: A) := by
 refine fne_intro Tryz.func95 rfl Tryz.ntmps95 rfl fun R F hF => ?_
 obtain ⟨ao, c, rfl⟩ := hr.shape
 refine r_sr (p_as rfl rfl (o_keep (.c 0 rfl (.c 2 rfl .n)) (r_seq (r_sr (p_mv rfl rfl (l_op (x_p (pv_seqn Tryz.underlying85 (.n rfl) rfl rfl rfl (fun _ => ⟨rfl, rfl⟩)) rfl rfl (o_keep (.c 0 rfl (.c 2 rfl (.c 4 rfl .n))) ?_))))))))
 refine r_cond _ rfl (fun h1 => ?_) (fun h1 => ?_)
 ·skip
  cases ao with
  | some _ => cases h1
  | none =>
  obtain rfl := hr.nilrows
  refine r_sr (p_as rfl rfl (o_keep (.c 0 rfl (.c 2 rfl .n)) ?_))
  refine r_rete (.slice Option.none 0 0) hF rfl (.c (.t rfl) .n) ?_ ?_
  ·exact Ent.slN
  ·rfl
 ·skip
  refine r_skip (r_sr ?_)
  refine p_bslice0 Tryz.underlying85 (.ofA ta_115) zr_115 rfl fun b5 => ?_
  refine p_mv rfl rfl ?_
  refine p_append Tryz.underlying85 el_115 rfl rfl rfl rfl rfl (Rd.ent hr (Ent.dropR Ent.left)) (by simp; omega) fun v7 => ?_
  refine o_rd v7 fun hr7 => ?_
  refine p_as rfl rfl (o_keep (.c 2 rfl .n) ?_)
  refine r_rete (v7) hF rfl (.c (.t rfl) .n) ?_ ?_
  ·exact Ent.rfl
  ·rfl

theorem broker_Done (M : Amb) (b : Nat) (s : BrokS) (hI : BInv s) (hb : s.order.length ≤ 100000) : FnE (α := Value) Tryz.prog M 43 [ptr b] [brokP b s] (fun x => x) (fun x => [sl x 3 1 (s.order.map rI), brokP b s]) := by
 refine fne_intro Tryz.func43 rfl Tryz.ntmps43 rfl fun R F hF => ?_
 refine r_cat ?_
 refine r_brok fun dv ov bs hbl => ?_
 refine r_cat ?_
 refine r_rd dv fun hrd => ?_
 refine r_rd ov fun hro => ?_
 refine r_sr (p_as rfl rfl (o_keep (.c 0 rfl (.c 2 rfl .n)) (r_sr (p_mv rfl rfl (p_nil rfl rfl (p_fa fa_70_1 rfl rfl (p_ldc tc_59 rfl (by rfl) rfl ?_)))))))
 refine p_calle cf_75 (.c rfl .n) rfl (int_Clone _ [sl ov 3 1 (s.order.map rI)] _ _ hro (by simpa using hb)) fun lv => ?_
 refine o_cat ?_
 refine p_as rfl rfl (o_keep (.c 2 rfl .n) ?_)
 refine r_rete (lv) hF rfl (.c (.t rfl) .n) ?_ ?_
 ·refine Ent.catI ?_; refine Ent.c (SelS.ent) ?_; exact brokP_close dv ov bs hbl rfl rfl rfl
 ·rfl

theorem bptr {bs : List Nat} {i : Nat} {q : Nat} (h : bs[i]? = some q) : (bs.map rPt)[i]? = some (rPt q) := by rw [List.getElem?_map, h]; rfl

theorem broker_State (M : Amb) (b : Nat) (s : BrokS) (hI : BInv s) (n : Int) : FnC Tryz.prog M 42 [ptr b, .int .i64 n] (.int .i64 (stateB s n)) [brokP b s] [brokP b s] := by
 refine fnc_intro Tryz.func42 rfl Tryz.ntmps42 rfl fun R F hF => ?_
 refine r_cat ?_
 refine r_brok fun dv ov bs hbl => ?_
 refine r_cat ?_
 refine r_rd dv fun hrd => ?_
 refine r_rd ov fun hro => ?_
 refine r_sr (p_as rfl rfl (o_keep (.c 0 rfl (.c 1 rfl (.c 4 rfl .n))) (r_seq (r_sr (p_mv rfl rfl (p_lss rfl rfl rfl (p_mv rfl rfl ?_)))))))
 refine l_op (x_p (pv_mv (.s rfl rfl rfl) rfl rfl (by first | exact fun _ => rfl | exact id | exact fun h => (Bool.and_eq_true_iff.1 h).1 | simp_all)) rfl rfl (l_op (x_p (pv_mv (.s rfl rfl rfl) rfl rfl (by first | exact fun _ => rfl | exact id | exact fun h => (Bool.and_eq_true_iff.1 h).1 | simp_all)) rfl rfl ?_)))
 refine l_op (x_p (pv_nilp (.s rfl rfl rfl) rfl rfl (by first | exact fun _ => rfl | exact id | exact fun h => (Bool.and_eq_true_iff.1 h).1 | simp_all)) rfl rfl (l_op (x_p (pv_fa fa_70_0 (.s rfl rfl rfl) rfl rfl (by first | exact fun _ => rfl | exact id | exact fun h => (Bool.and_eq_true_iff.1 h).1 | simp_all)) rfl rfl ?_)))
 refine l_op (x_r (q_ldc tc_68 (.s rfl rfl rfl) rfl rfl (by first | exact fun _ => rfl | exact id | exact fun h => (Bool.and_eq_true_iff.1 h).1 | simp_all) (by rfl)) rfl rfl ?_)
 refine l_op (x_p (pv_lens (Rd.len hrd) ⟨_, Tryz.underlying68⟩ (.s rfl rfl rfl) rfl rfl rfl rfl (by first | exact fun _ => rfl | exact id | exact fun h => (Bool.and_eq_true_iff.1 h).1 | simp_all)) rfl rfl ?_)
 refine l_op (x_p (pv_geq (.s rfl rfl rfl) rfl rfl rfl (by refine fun h => ⟨?_, ?_⟩ <;> first | rfl | exact h | exact (Bool.and_eq_true_iff.1 h).1 | simp_all)) rfl rfl ?_)
 refine l_op (x_p (pv_or (.n rfl) rfl rfl rfl (fun _ => ⟨rfl, fun hc => by first | rfl | (rw [hc]; rfl) | simp_all⟩)) rfl rfl ?_)
 refine o_keep (.c 0 rfl (.c 1 rfl (.c 4 rfl (.c 15 rfl .n)))) (r_cond _ rfl (fun h1 => ?_) (fun h1 => ?_))
 ·skip
  have hst := stateB_out (b := s) (n := n) (by simp at h1; omega)
  refine r_sr (p_as rfl rfl (o_keep (.c 0 rfl (.c 1 rfl (.c 4 rfl .n))) ?_))
  refine r_retv hF rfl (.c (.t rfl) .n) ?_ ?_
  ·refine Ent.catI ?_; refine Ent.c (brokP_close dv ov bs hbl rfl rfl rfl) ?_; repeat first|exact eR|refine eB ?_|refine eS ?_|refine eN ?_|refine eX ?_|refine eD ?_
  ·rw [hst]; rfl
 ·skip
  have hn0 : 0 ≤ n ∧ n < s.l.length := by simp at h1; omega
  obtain ⟨i, hni⟩ : ∃ i : Nat, n = (i : Int) := ⟨n.toNat, by omega⟩
  obtain ⟨q, hq⟩ := getlt (l := bs) (i := i) (by omega)
  obtain ⟨d, hd⟩ := getlt (l := s.l) (i := i) (by omega)
  have hst : stateB s n = d.state := by rw [hni]; exact stateB_at hd
  refine r_skip (r_seq ?_)
  refine r_deal i hq hd ?_
  refine r_ex3 fun wv yv tv => ?_
  refine r_cat ?_
  refine r_rd wv fun hrw => ?_
  refine r_rd yv fun hry => ?_
  refine r_rd tv fun hrt => ?_
  refine r_region (p_mv rfl rfl (p_nil rfl rfl (p_fa fa_70_0 rfl rfl (p_ldc tc_68 rfl (by rfl) rfl ?_))))
  refine p_mv rfl rfl (p_idx Tryz.underlying68 (.ofC tc_126) hrd hni (bptr hq) rfl rfl rfl (p_ldat 0 tc_126 (Rd.ent hrd (by repeat (first | exact Ent.rfl | exact Ent.one Ent.h | exact Ent.one (SelS.ent) | exact Ent.nil | exact Ent.left | refine Ent.dropR ?_ | refine Ent.tr Ent.skip ?_))) (bptr hq) rfl rfl rfl rfl ?_))
  refine p_nil rfl rfl (p_fa fa_125_1 rfl rfl (p_ldc tc_3 rfl (by rfl) rfl ?_))
  refine p_as rfl rfl (o_keep (.c 4 rfl .n) ?_)
  refine r_retv hF rfl (.c (.t rfl) .n) ?_ ?_
  ·refine Ent.catI ?_; refine Ent.tr (dealP_close (q := q) (d := d) wv yv tv rfl rfl rfl rfl) ?_; refine Ent.tr (many_back hq hd) ?_; refine Ent.c (brokP_close dv ov bs hbl rfl rfl rfl) ?_; repeat first|exact eR|refine eB ?_|refine eS ?_|refine eN ?_|refine eX ?_|refine eD ?_
  ·rw [hst]; rfl

theorem wantsB_out {b : BrokS} {n : Int} (h : n < 0 ∨ (b.l.length : Int) ≤ n) : wantsB b n = [] := by
  unfold wantsB
  split
  · rfl
  · rw [List.getElem?_eq_none (by omega)]

theorem broker_Wants (M : Amb) (b : Nat) (s : BrokS) (hI : BInv s) (n : Int) (hw : ∀ d ∈ s.l, d.wants.length ≤ 100000) : FnE (α := Value) Tryz.prog M 74 [ptr b, .int .i64 n] [brokP b s] (fun x => x) (fun x => [sl x 115 2 ((wantsB s n).map rW), brokP b s]) := by
 refine fne_intro Tryz.func74 rfl Tryz.ntmps74 rfl fun R F hF => ?_
 refine r_cat ?_
 refine r_brok fun dv ov bs hbl => ?_
 refine r_cat ?_
 refine r_rd dv fun hrd => ?_
 refine r_rd ov fun hro => ?_
 refine r_sr (p_as rfl rfl (o_keep (.c 0 rfl (.c 1 rfl (.c 4 rfl .n))) (r_seq (r_sr (p_mv rfl rfl (p_lss rfl rfl rfl (p_mv rfl rfl ?_)))))))
 refine l_op (x_p (pv_mv (.s rfl rfl rfl) rfl rfl (by first | exact fun _ => rfl | exact id | exact fun h => (Bool.and_eq_true_iff.1 h).1 | simp_all)) rfl rfl (l_op (x_p (pv_mv (.s rfl rfl rfl) rfl rfl (by first | exact fun _ => rfl | exact id | exact fun h => (Bool.and_eq_true_iff.1 h).1 | simp_all)) rfl rfl ?_)))
 refine l_op (x_p (pv_nilp (.s rfl rfl rfl) rfl rfl (by first | exact fun _ => rfl | exact id | exact fun h => (Bool.and_eq_true_iff.1 h).1 | simp_all)) rfl rfl (l_op (x_p (pv_fa fa_70_0 (.s rfl rfl rfl) rfl rfl (by first | exact fun _ => rfl | exact id | exact fun h => (Bool.and_eq_true_iff.1 h).1 | simp_all)) rfl rfl ?_)))
 refine l_op (x_r (q_ldc tc_68 (.s rfl rfl rfl) rfl rfl (by first | exact fun _ => rfl | exact id | exact fun h => (Bool.and_eq_true_iff.1 h).1 | simp_all) (by rfl)) rfl rfl ?_)
 refine l_op (x_p (pv_lens (Rd.len hrd) ⟨_, Tryz.underlying68⟩ (.s rfl rfl rfl) rfl rfl rfl rfl (by first | exact fun _ => rfl | exact id | exact fun h => (Bool.and_eq_true_iff.1 h).1 | simp_all)) rfl rfl ?_)
 refine l_op (x_p (pv_geq (.s rfl rfl rfl) rfl rfl rfl (by refine fun h => ⟨?_, ?_⟩ <;> first | rfl | exact h | exact (Bool.and_eq_true_iff.1 h).1 | simp_all)) rfl rfl ?_)
 refine l_op (x_p (pv_or (.n rfl) rfl rfl rfl (fun _ => ⟨rfl, fun hc => by first | rfl | (rw [hc]; rfl) | simp_all⟩)) rfl rfl ?_)
 refine o_keep (.c 0 rfl (.c 1 rfl (.c 4 rfl (.c 15 rfl .n)))) (r_cond _ rfl (fun h1 => ?_) (fun h1 => ?_))
 ·skip
  have hst := stateB_out (b := s) (n := n) (by simp at h1; omega)
  have hwb := wantsB_out (b := s) (n := n) (by simp at h1; omega)
  refine r_sr (p_as rfl rfl (o_keep (.c 0 rfl (.c 1 rfl (.c 4 rfl .n))) ?_))
  refine r_rete (.slice Option.none 0 0) hF rfl (.c (.t rfl) .n) ?_ ?_
  ·refine Ent.catI ?_; rw [hwb]; refine Ent.tr (Ent.slN (E := 115) (sz := 2)) ?_; refine Ent.c (SelS.ent) ?_; refine Ent.c (brokP_close dv ov bs hbl rfl rfl rfl) ?_; repeat first|exact eR|refine eB ?_|refine eS ?_|refine eN ?_|refine eX ?_|refine eD ?_
  ·rfl
 ·skip
  have hn0 : 0 ≤ n ∧ n < s.l.length := by simp at h1; omega
  obtain ⟨i, hni⟩ : ∃ i : Nat, n = (i : Int) := ⟨n.toNat, by omega⟩
  obtain ⟨q, hq⟩ := getlt (l := bs) (i := i) (by omega)
  obtain ⟨d, hd⟩ := getlt (l := s.l) (i := i) (by omega)
  have hwb : wantsB s n = d.wants := by rw [hni]; exact wantsB_at hd
  refine r_skip (r_seq ?_)
  have hdw := hw d (List.mem_of_getElem? hd)
  refine r_deal i hq hd ?_
  refine r_ex3 fun wv yv tv => ?_
  refine r_cat ?_
  refine r_rd wv fun hrw => ?_
  refine r_rd yv fun hry => ?_
  refine r_rd tv fun hrt => ?_
  refine r_region (p_mv rfl rfl (p_nil rfl rfl (p_fa fa_70_0 rfl rfl (p_ldc tc_68 rfl (by rfl) rfl ?_))))
  refine p_mv rfl rfl (p_idx Tryz.underlying68 (.ofC tc_126) hrd hni (bptr hq) rfl rfl rfl (p_ldat 0 tc_126 (Rd.ent hrd (by repeat (first | exact Ent.rfl | exact Ent.one Ent.h | exact Ent.one (SelS.ent) | exact Ent.nil | exact Ent.left | refine Ent.dropR ?_ | refine Ent.tr Ent.skip ?_))) (bptr hq) rfl rfl rfl rfl ?_))
  refine p_nil rfl rfl (p_fa fa_125_0 rfl rfl (p_ldc tc_85 rfl (by rfl) rfl ?_))
  refine p_calle cf_95 (.c rfl .n) rfl (want_Clone _ [sl wv 115 2 (d.wants.map rW)] _ _ hrw (by simpa using hdw)) fun lv => ?_
  refine o_cat ?_
  refine p_as rfl rfl (o_keep (.c 4 rfl .n) ?_)
  refine r_rete (lv) hF rfl (.c (.t rfl) .n) ?_ ?_
  ·refine Ent.catI ?_; rw [hwb]; refine Ent.c (SelS.ent) ?_; refine Ent.tr (dealP_close (q := q) (d := d) wv yv tv rfl rfl rfl rfl) ?_; refine Ent.tr (many_back hq hd) ?_; refine Ent.c (brokP_close dv ov bs hbl rfl rfl rfl) ?_; repeat first|exact eR|refine eB ?_|refine eS ?_|refine eN ?_|refine eX ?_|refine eD ?_
  ·rfl

theorem decideB_1 {s : BrokS} {i : Nat} {d : Deal} {st : Int} (h : s.l[i]? = some d) (h0 : d.state ≠ 0) : decideB s i st = s := by unfold decideB; rw [h]; dsimp only; rw [if_pos h0]
theorem decideB_2 {s : BrokS} {i : Nat} {d : Deal} {st : Int} (h : s.l[i]? = some d) (h0 : d.state = 0) : decideB s i st = ⟨s.l.set i { d with state := st }, if st = 1 then s.order ++ [(i : Int)] else s.order⟩ := by unfold decideB; rw [h]; dsimp only; rw [if_neg (by omega)]

theorem broker_decide_o (M : Amb) (b : Nat) (s : BrokS) (dv ov : Value) (bs : List Nat) (hbl : bs.length = s.l.length) (i : Nat) (d : Deal) (hd : s.l[i]? = some d) (st : Int) (hb : s.order.length ≤ 100000) : FnE (α := Value) Tryz.prog M 99 [ptr b, .int .i64 (i : Int), .int .i64 st] [blk b [dv, ov] 70, sl dv 126 1 (bs.map rPt), sl ov 3 1 (s.order.map rI), manyP dealP bs s.l] (fun _ => resVal []) (fun x => [blk b [dv, x] 70, sl dv 126 1 (bs.map rPt), sl x 3 1 ((decideB s i st).order.map rI), manyP dealP bs (decideB s i st).l]) := by
 refine fne_intro Tryz.func99 rfl Tryz.ntmps99 rfl fun R F hF => ?_
 refine r_cat ?_
 refine r_rd dv fun hrd => ?_
 refine r_rd ov fun hro => ?_
 have hil := (List.getElem?_eq_some_iff.1 hd).1
 obtain ⟨q, hq⟩ := getlt (l := bs) (i := i) (by omega)
 refine r_deal i hq hd ?_
 refine r_ex3 fun wv yv tv => ?_
 refine r_cat ?_
 refine r_rd wv fun hrw => ?_
 refine r_rd yv fun hry => ?_
 refine r_rd tv fun hrt => ?_
 refine r_seq (r_sr (p_mv rfl rfl (p_nil rfl rfl (p_fa fa_70_0 rfl rfl (p_ldc tc_68 rfl (by rfl) rfl ?_)))))
 refine p_mv rfl rfl (p_idx Tryz.underlying68 (.ofC tc_126) hrd rfl (bptr hq) rfl rfl rfl (p_ldat 0 tc_126 (Rd.ent hrd (by repeat (first | exact Ent.rfl | exact Ent.one Ent.h | exact Ent.one (SelS.ent) | exact Ent.nil | exact Ent.left | refine Ent.dropR ?_ | refine Ent.tr Ent.skip ?_))) (bptr hq) rfl rfl rfl rfl ?_))
 refine p_nil rfl rfl (p_fa fa_125_1 rfl rfl (p_ldc tc_3 rfl (by rfl) rfl ?_))
 refine p_neq rfl rfl rfl (o_keep (.c 0 rfl (.c 1 rfl (.c 2 rfl (.c 16 rfl .n)))) (r_cond _ rfl (fun h1 => ?_) (fun h1 => ?_)))
 ·skip
  have hde := decideB_1 (st := st) hd (by simpa using h1)
  refine r_rete (ov) hF rfl .n ?_ ?_
  ·refine Ent.catI ?_; rw [hde]; refine Ent.tr (dealP_close (q := q) (d := d) wv yv tv rfl rfl rfl rfl) ?_; refine Ent.tr (many_back hq hd) ?_; repeat first|exact eR|refine eB ?_|refine eS ?_|refine eN ?_|refine eX ?_|refine eD ?_
  ·rfl
 ·skip
  have hde := decideB_2 (st := st) hd (by simpa using h1)
  refine r_skip (r_sr (p_mv rfl rfl (p_nil rfl rfl (p_fa fa_70_0 rfl rfl (p_ldc tc_68 rfl (by rfl) rfl ?_)))))
  refine p_mv rfl rfl (p_idx Tryz.underlying68 (.ofC tc_126) hrd rfl (bptr hq) rfl rfl rfl (p_ldat 0 tc_126 (Rd.ent hrd (by repeat (first | exact Ent.rfl | exact Ent.one Ent.h | exact Ent.one (SelS.ent) | exact Ent.nil | exact Ent.left | refine Ent.dropR ?_ | refine Ent.tr Ent.skip ?_))) (bptr hq) rfl rfl rfl rfl ?_))
  refine p_mv rfl rfl (p_nil rfl rfl (p_fa fa_125_1 rfl rfl ?_))
  refine p_store (.ofC tc_3) rfl rfl rfl rfl rfl (by repeat constructor) ?_
  refine o_keep (.c 0 rfl (.c 1 rfl (.c 2 rfl .n))) (r_sr (p_mv rfl rfl (p_eql rfl rfl rfl (o_keep (.c 0 rfl (.c 1 rfl (.c 28 rfl .n))) (r_cond _ rfl (fun h2 => ?_) (fun h2 => ?_))))))
  ·skip
   have h1 : st = 1 := of_decide_eq_true h2
   rw [if_pos h1] at hde
   refine r_region (p_mv rfl rfl (p_mv rfl rfl (p_nil rfl rfl (p_fa fa_70_1 rfl rfl (p_ldc tc_59 rfl (by rfl) rfl ?_)))))
   refine p_mv rfl rfl ?_
   refine p_bslice1 Tryz.underlying59 (.ofC tc_3) zr_3 rfl rfl rfl rfl rfl rfl rfl fun b35 => ?_
   refine p_append Tryz.underlying59 el_3 rfl rfl rfl rfl rfl (Rd.blit rfl rfl) (by simp; omega) fun v36 => ?_
   refine o_rd v36 fun hr36 => ?_
   refine p_nil rfl rfl (p_fa fa_70_1 rfl rfl ?_)
   refine p_store (.ofC tc_59) rfl rfl hr36.c1 rfl hr36.o1 (by repeat constructor) ?_
   refine o_keep (.n) ?_
   refine r_falle (v36) hF rfl ?_
   ·refine Ent.catI ?_; rw [hde]; dsimp only; rw [List.map_append]; refine Ent.tr (dealP_close (q := q) (d := { d with state := st }) wv yv tv rfl rfl rfl rfl) ?_; refine Ent.tr (Ent.mono (SelX.ent (X := restP dealP bs s.l i))) ?_; refine Ent.tr (many_in hq hd) ?_; repeat first|exact eR|refine eB ?_|refine eS ?_|refine eN ?_|refine eX ?_|refine eD ?_
  ·skip
   have h1 : ¬ st = 1 := of_decide_eq_false h2
   rw [if_neg h1] at hde
   refine r_skip ?_
   refine r_falle (ov) hF rfl ?_
   ·refine Ent.catI ?_; rw [hde]; refine Ent.tr (dealP_close (q := q) (d := { d with state := st }) wv yv tv rfl rfl rfl rfl) ?_; refine Ent.tr (Ent.mono (SelX.ent (X := restP dealP bs s.l i))) ?_; refine Ent.tr (many_in hq hd) ?_; repeat first|exact eR|refine eB ?_|refine eS ?_|refine eN ?_|refine eX ?_|refine eD ?_

theorem decideB_len (s : BrokS) (i : Nat) (st : Int) : (decideB s i st).l.length = s.l.length := by
  unfold decideB; split
  · rfl
  · split
    · rfl
    · simp
theorem brokP_open {M : Amb} {R : List HP} {b : Nat} {s : BrokS} {w : World} (ho : Own M (brokP b s :: R) w) : ∃ dv ov bs, bs.length = s.l.length ∧ Own M (bkL b s dv ov bs ++ R) w := by
  obtain ⟨hb, hs, g, ⟨x, y, ⟨dv, ov, bs, hl, hx⟩, hr, hd, e⟩, hh⟩ := ho
  subst e
  exact ⟨dv, ov, bs, hl, hb, hs, _, sep_app' hx hr hd, hh⟩
theorem broker_decide (M : Amb) (b : Nat) (s : BrokS) (i : Nat) (d : Deal) (hd : s.l[i]? = some d) (st : Int) (hb : s.order.length ≤ 100000) : FnC Tryz.prog M 99 [ptr b, .int .i64 (i : Int), .int .i64 st] (resVal []) [brokP b s] [brokP b (decideB s i st)] := fun R w ho => by
  obtain ⟨dv, ov, bs, hl, ho'⟩ := brokP_open ho
  refine (broker_decide_o M b s dv ov bs hl i d hd st hb R w ho').mono ?_
  rintro _ _ ⟨v, H', e, ⟨x, h1, h2⟩, h3⟩
  refine ⟨v, _, e, ⟨h1, rfl⟩, (h2 ▸ h3).ent (brokP_close dv x bs (by rw [decideB_len]; exact hl) rfl rfl rfl)⟩

theorem broker_Quit (M : Amb) (b : Nat) (s : BrokS) (hI : BInv s) (n : Int) (hb : s.order.length ≤ 100000) : FnC Tryz.prog M 66 [ptr b, .int .i64 n] (.int .i64 (quitB s n).2) [brokP b s] [brokP b (quitB s n).1] := by
 refine fnc_intro Tryz.func66 rfl Tryz.ntmps66 rfl fun R F hF => ?_
 refine r_cat ?_
 refine r_sr (p_as rfl rfl (o_keep (.c 0 rfl (.c 1 rfl (.c 4 rfl .n))) (r_seq (r_sr (p_mv rfl rfl (p_mv rfl rfl ?_))))))
 refine p_callv cf_42 (.c rfl (.c rfl .n)) rfl ((broker_State _ b s hI n).q) ?_
 refine o_keep (.c 0 rfl (.c 1 rfl (.c 4 rfl (.c 7 rfl .n)))) (r_block (r_sr (p_eql rfl rfl rfl (p_as rfl rfl (o_keep (.c 0 rfl (.c 1 rfl (.c 4 rfl (.c 7 rfl (.c 8 rfl .n))))) (r_cond _ rfl (fun h1 => ?_) (fun h1 => ?_)))))))
 ·skip
  have hs : quitB s n = (s, 7) := by unfold quitB; rw [if_pos (of_decide_eq_true h1)]
  refine r_sr (p_as rfl rfl (o_keep (.c 4 rfl .n) ?_))
  refine r_retv hF rfl (.c (.t rfl) .n) ?_ ?_
  ·refine Ent.catI ?_; rw [hs]; refine Ent.c (SelX.ent) ?_; repeat first|exact eR|refine eB ?_|refine eS ?_|refine eN ?_|refine eX ?_|refine eD ?_
  ·rw [hs]; rfl
 ·skip
  have h1 : ¬ stateB s n = -1 := of_decide_eq_false h1
  refine r_sr (p_eql rfl rfl rfl (p_as rfl rfl (o_keep (.c 0 rfl (.c 1 rfl (.c 4 rfl (.c 10 rfl .n)))) (r_cond _ rfl (fun h2 => ?_) (fun h2 => ?_)))))
  ·skip
   have h2 : stateB s n = 0 := of_decide_eq_true h2
   obtain ⟨i, d, rfl, hdd⟩ : ∃ (i : Nat) (d : Deal), n = (i : Int) ∧ s.l[i]? = some d := by rcases hI.st n with h | h; omega; exact ⟨n.toNat, s.l[n.toNat]'(by omega), by omega, List.getElem?_eq_getElem (by omega)⟩
   have hs : quitB s (i : Int) = (decideB s i 2, 0) := by unfold quitB; rw [if_neg h1, if_pos h2, Int.toNat_natCast]
   refine r_sr (p_mv rfl rfl (p_mv rfl rfl ?_))
   refine p_callc cf_99 (.c rfl (.c rfl (.c rfl .n))) rfl (broker_decide _ b s i d hdd 2 hb) ?_
   refine o_keep (.c 4 rfl .n) (r_sr (p_as rfl rfl (o_keep (.c 4 rfl .n) ?_)))
   refine r_retv hF rfl (.c (.t rfl) .n) ?_ ?_
   ·refine Ent.catI ?_; rw [hs]; refine Ent.c (SelX.ent) ?_; repeat first|exact eR|refine eB ?_|refine eS ?_|refine eN ?_|refine eX ?_|refine eD ?_
   ·rw [hs]; rfl
  ·skip
   have hs : quitB s n = (s, 8) := by unfold quitB; rw [if_neg h1, if_neg (of_decide_eq_false h2)]
   refine r_skip (r_end (r_sr (p_as rfl rfl (o_keep (.c 4 rfl .n) ?_))))
   refine r_retv hF rfl (.c (.t rfl) .n) ?_ ?_
   ·refine Ent.catI ?_; rw [hs]; refine Ent.c (SelX.ent) ?_; repeat first|exact eR|refine eB ?_|refine eS ?_|refine eN ?_|refine eX ?_|refine eD ?_
   ·rw [hs]; rfl

end Go.Proofs.YtmakdilmibjpbabGreatDoor
