/- The walks of MarkB: written by a program of ours (gen.py) over the engine. -/
import Derived.Test.YtmakdilmibjpbacGreatPlain
import Derived.Test.YtmakdilmibjpbacGreatFacts
import Derived.Test.YtmakdilmibjpbacGreatPostW
namespace Go.Proofs.YtmakdilmibjpbacGreat
open Go Go.RowKit
set_option linter.unusedVariables false
set_option linter.unusedSimpArgs false
set_option maxRecDepth 20000

theorem sl_eqR {H R : List HP} {v : Value} {E : TypeId} {sz : Nat} {rows rows' : List (List Value)} [s : SelS H v E sz rows R] (e : rows = rows') : Ent H (sl v E sz rows' :: R) := e ▸ s.ent

theorem mbag_at (M : Amb) (b : Nat) (T : TypeId) (c0 c1 c2 c3 c4 c5 c6 c7 c8 c9 c10 pv : Value) (l : List Mail) (hb : l.length ≤ 1000) (n : Int) (h0 : 0 < l.length) : FnC Tryz.prog M 73 [.pointer (some ⟨b, 11, Option.none⟩), .int .i64 n] (.int .i64 (rnd n l.length : Int)) [blk b [c0, c1, c2, c3, c4, c5, c6, c7, c8, c9, c10, pv] T, sl pv 72 6 (l.map rM)] [blk b [c0, c1, c2, c3, c4, c5, c6, c7, c8, c9, c10, pv] T, sl pv 72 6 (l.map rM)] := by
 refine fnc_intro Tryz.func73 rfl Tryz.ntmps73 rfl fun R F hF => ?_
 refine r_cat ?_
 refine r_rd pv fun hr => ?_
 refine r_sr (p_as rfl rfl (o_keep (.c 0 rfl (.c 1 rfl (.c 4 rfl .n))) (r_sr (p_mv rfl rfl (l_op (x_p (pv_conv Tryz.underlying3 Tryz.underlying149 (.n rfl) rfl rfl (fun _ => rfl)) rfl rfl (p_mv rfl rfl (p_nil rfl rfl ?_))))))))
 refine p_ldc tc_62 rfl (by rfl) rfl ?_
 refine l_op (x_p (pv_lens (Rd.len hr) ⟨_, Tryz.underlying62⟩ (.n rfl) rfl rfl rfl rfl (fun _ => rfl)) rfl rfl (l_op (x_p (pv_conv Tryz.underlying3 Tryz.underlying149 (.n rfl) rfl rfl (fun _ => rfl)) rfl rfl (l_op (x_p (pv_rem (fun _ => by first | omega | exact u64_ne (by omega) (by omega)) (.n rfl) rfl rfl rfl (fun _ => ⟨rfl, rfl⟩)) rfl rfl ?_)))))
 refine l_op (x_p (pv_conv Tryz.underlying149 Tryz.underlying3 (.n rfl) rfl rfl (fun _ => rfl)) rfl rfl (p_as rfl rfl (o_keep (.c 4 rfl .n) ?_)))
 refine r_retv hF rfl (.c (.t rfl) .n) ?_ ?_
 ·refine Ent.catI ?_; repeat first|exact eR|refine eB ?_|refine eS ?_|refine eN ?_|refine eX ?_|refine eD ?_
 ·exact int_eq (rnd_eq (by omega) (by omega))

theorem mbag_Send (M : Amb) (b : Nat) (T : TypeId) (c0 c1 c2 c3 c4 c5 c6 c7 c8 c9 c10 pv : Value) (l : List Mail) (hb : l.length ≤ 1000) (m : Mail) : FnE (α := Value) Tryz.prog M 70 [.pointer (some ⟨b, 11, Option.none⟩), vM m] [blk b [c0, c1, c2, c3, c4, c5, c6, c7, c8, c9, c10, pv] T, sl pv 72 6 (l.map rM)] (fun _ => .bool (decide (l.length < 40))) (fun x => [blk b [c0, c1, c2, c3, c4, c5, c6, c7, c8, c9, c10, x] T, sl x 72 6 ((sendL l m).map rM)]) := by
 refine fne_intro Tryz.func70 rfl Tryz.ntmps70 rfl fun R F hF => ?_
 refine r_cat ?_
 refine r_rd pv fun hr => ?_
 refine r_sr (p_box rfl rfl rfl fun b3 => ?_)
 refine p_as rfl rfl (o_keep (.c 0 rfl (.c 3 rfl (.c 4 rfl .n))) (r_seq (r_sr (p_mv rfl rfl (p_nil rfl rfl (p_ldc tc_62 rfl (by rfl) rfl ?_))))))
 refine l_op (x_p (pv_lens (Rd.len hr) ⟨_, Tryz.underlying62⟩ (.n rfl) rfl rfl rfl rfl (fun _ => rfl)) rfl rfl (p_geq rfl rfl rfl (o_keep (.c 0 rfl (.c 3 rfl (.c 4 rfl (.c 9 rfl .n)))) (r_cond _ rfl (fun h1 => ?_) (fun h1 => ?_)))))
 ·try simp only [bq1, bq2, bq3, bq4, bq5, bq6, bq7, bq8] at h1
  have hs : sendL l m = l := by unfold sendL; rw [if_neg (by omega)]
  refine r_sr (p_as rfl rfl (o_keep (.c 0 rfl (.c 3 rfl (.c 4 rfl .n))) ?_))
  refine r_rete (pv) hF rfl (.c (.t rfl) .n) ?_ ?_
  ·refine Ent.catI ?_; rw [hs]; repeat first|exact eR|refine eB ?_|refine eS ?_|refine eN ?_|refine eX ?_|refine eD ?_
  ·exact bool_eq (by simp; omega)
 ·try simp only [bq1, bq2, bq3, bq4, bq5, bq6, bq7, bq8] at h1
  have hs : sendL l m = l ++ [m] := by unfold sendL; rw [if_pos (by omega)]
  refine r_skip (r_seq ?_)
  refine r_plan (_) ([sl pv 72 6 (l.map rM)]) mo (.c 0 rfl (.c 3 rfl (.c 4 rfl .n))) (SelS.ent) ?_
  refine qp 0 [.k 0] rfl rfl rfl rfl (by kernel_rfl) rfl (u_mv rfl rfl rfl) (qp 1 [.k 0] rfl rfl rfl rfl (by kernel_rfl) rfl (u_mv rfl rfl rfl) (qp 2 [.o 1] rfl rfl rfl rfl (by kernel_rfl) rfl (u_nil rfl rfl rfl) (qr 3 [.o 2] rfl rfl rfl rfl (by kernel_rfl) rfl (fun He => u_ldc tc_62 rfl rfl rfl (by rfl)) ?_)))
  refine qr 4 [.k 3] rfl rfl rfl rfl (by kernel_rfl) rfl (fun He => q_lda ta_72 (.n rfl) rfl rfl (fun _ => rfl) (by exact (.s (.s (.s (.s (.s (.s .z)))))))) ?_
  refine qm_bslice1 Tryz.underlying62 (.ofA ta_72) zr_72 rfl (i := 5) [.o 4] (by kernel_rfl) (by kernel_rfl) rfl rfl rfl rfl (by kernel_rfl) (by kernel_rfl) ⟨_, .n rfl, rfl⟩ rfl rfl rfl rfl rfl rfl fun b15 => ?_
  refine qa_append Tryz.underlying62 el_72 rfl rfl (i := 6) [.o 3, .o 5] (by kernel_rfl) (by kernel_rfl) rfl rfl rfl rfl (by kernel_rfl) (by kernel_rfl) ⟨_, .n rfl, rfl⟩ rfl rfl rfl (Rd.blit rfl rfl) (by simp; omega) fun v16 => ?_
  refine qm_rd v16 fun hr16 => ?_
  refine qp 7 [.o 0] rfl rfl rfl rfl (by kernel_rfl) rfl (u_nil rfl rfl rfl) ?_
  refine qb_store (.ofC tc_62) (i := 8) [.o 7, .o 6] (by kernel_rfl) (by kernel_rfl) rfl rfl rfl (by kernel_rfl) (by kernel_rfl) (by kernel_rfl) ⟨_, .n rfl, rfl⟩ rfl rfl rfl hr16.c1 rfl hr16.o1 (by repeat constructor) ?_
  refine qm_n (by kernel_rfl) (by kernel_rfl) (by kernel_rfl) (by kernel_rfl) (.c 4 rfl .n) ?_
  refine r_sr (p_as rfl rfl (o_keep (.c 4 rfl .n) ?_))
  refine r_rete (v16) hF rfl (.c (.t rfl) .n) ?_ ?_
  ·refine Ent.catI ?_; rw [hs, List.map_append]; repeat first|exact eR|refine eB ?_|refine eS ?_|refine eN ?_|refine eX ?_|refine eD ?_
  ·exact bool_eq (by simp; omega)

theorem mbag_Take (M : Amb) (b : Nat) (T : TypeId) (c0 c1 c2 c3 c4 c5 c6 c7 c8 c9 c10 pv : Value) (l : List Mail) (hb : l.length ≤ 1000) (n : Int) : FnE (α := Value) Tryz.prog M 34 [.pointer (some ⟨b, 11, Option.none⟩), .int .i64 n] [blk b [c0, c1, c2, c3, c4, c5, c6, c7, c8, c9, c10, pv] T, sl pv 72 6 (l.map rM)] (fun _ => .tuple #[vM ((takeM l n).getD .z), .bool (takeM l n).isSome]) (fun x => [blk b [c0, c1, c2, c3, c4, c5, c6, c7, c8, c9, c10, x] T, sl x 72 6 ((takeL l n).map rM)]) := by
 refine fne_intro Tryz.func34 rfl Tryz.ntmps34 rfl fun R F hF => ?_
 refine r_cat ?_
 refine r_rd pv fun hr => ?_
 refine r_sr (p_alloc zr_72 rfl fun b4 => ?_)
 refine p_as rfl rfl (o_keep (.c 0 rfl (.c 1 rfl (.c 4 rfl (.c 5 rfl .n)))) (r_seq (r_sr (p_mv rfl rfl (p_nil rfl rfl (p_ldc tc_62 rfl (by rfl) rfl ?_))))))
 refine l_op (x_p (pv_lens (Rd.len hr) ⟨_, Tryz.underlying62⟩ (.n rfl) rfl rfl rfl rfl (fun _ => rfl)) rfl rfl (p_eql rfl rfl rfl (o_keep (.c 0 rfl (.c 1 rfl (.c 4 rfl (.c 5 rfl (.c 13 rfl .n))))) (r_cond _ rfl (fun h1 => ?_) (fun h1 => ?_)))))
 ·skip
  have h0 : l.length = 0 := by have := of_decide_eq_true h1; omega
  obtain ⟨e1, e2⟩ := take_none (n := n) h0
  refine r_sr ?_
  refine p_build zr_72 pl_72 (.n) rfl ?_
  refine p_store (.ofA ta_72) rfl rfl rfl rfl rfl (by repeat constructor) ?_
  refine p_as rfl rfl (o_keep (.c 0 rfl (.c 1 rfl (.c 4 rfl (.c 5 rfl .n)))) ?_)
  refine r_rete (pv) hF rfl (.c (.a rfl ta_72 (.blk (SelB.ent) (.s (.s (.s (.s (.s (.s .z))))))) rfl) (.c (.t rfl) .n)) ?_ ?_
  ·refine Ent.catI ?_; rw [e2]; repeat first|exact eR|refine eB ?_|refine eS ?_|refine eN ?_|refine eX ?_|refine eD ?_
  ·rw [e1]; rfl
 ·skip
  have h0 : 0 < l.length := by have := of_decide_eq_false h1; omega
  have hi := rnd_lt (n := n) h0
  obtain ⟨m, hm⟩ := takeM_some (l := l) n h0
  refine r_skip (r_sr (p_mv rfl rfl (p_mv rfl rfl ?_)))
  refine p_callv cf_73 (.c rfl (.c rfl .n)) rfl ((mbag_at _ b T c0 c1 c2 c3 c4 c5 c6 c7 c8 c9 c10 pv l hb _ (by omega)).q) ?_
  refine p_as rfl rfl (o_keep (.c 0 rfl (.c 4 rfl (.c 5 rfl (.c 6 rfl .n)))) (r_sr (p_mv rfl rfl (p_nil rfl rfl (p_ldc tc_62 rfl (by rfl) rfl ?_)))))
  refine p_mv rfl rfl (p_idx Tryz.underlying62 (.ofA ta_72) hr rfl (mapget hm) rfl rfl rfl ?_)
  refine p_ldats 0 ta_72 (Rd.ent hr (by repeat (first | exact Ent.rfl | exact Ent.one Ent.h | exact Ent.one (SelS.ent) | exact Ent.nil | exact Ent.left | refine Ent.dropR ?_ | refine Ent.tr Ent.skip ?_))) (mapget hm) rfl rfl (.s (.s (.s (.s (.s (.s .z)))))) rfl ?_
  refine p_alloc zr_72 rfl fun b7 => ?_
  refine p_store (.ofA ta_72) rfl rfl rfl rfl rfl (by repeat constructor) ?_
  refine o_keep (.c 0 rfl (.c 4 rfl (.c 5 rfl (.c 6 rfl (.c 7 rfl .n))))) (r_sr (p_as rfl rfl (o_keep (.c 0 rfl (.c 4 rfl (.c 5 rfl (.c 6 rfl (.c 7 rfl (.c 8 rfl .n)))))) (r_seq ?_))))
  refine r_plan (_) ([sl (.slice Option.none 0 0) 72 6 []]) mo (.c 0 rfl (.c 4 rfl (.c 5 rfl (.c 6 rfl (.c 7 rfl (.c 8 rfl .n)))))) (Ent.slN) ?_
  refine qp 0 [.k 0] rfl rfl rfl rfl (by kernel_rfl) rfl (u_mv rfl rfl rfl) (qp 1 [.k 8] rfl rfl rfl rfl (by kernel_rfl) rfl (u_mv rfl rfl rfl) (qp 2 [.k 0] rfl rfl rfl rfl (by kernel_rfl) rfl (u_mv rfl rfl rfl) (qp 3 [.o 2] rfl rfl rfl rfl (by kernel_rfl) rfl (u_nil rfl rfl rfl) (qr 4 [.o 3] rfl rfl rfl rfl (by kernel_rfl) rfl (fun He => u_ldc tc_62 rfl rfl rfl (by rfl)) ?_))))
  refine qp 5 [.k 6] rfl rfl rfl rfl (by kernel_rfl) rfl (u_mv rfl rfl rfl) ?_
  refine qp 6 [.o 4, .o 5] rfl rfl rfl rfl (by kernel_rfl) rfl (pv_slc (l := 0) (h := rnd n l.length) Tryz.underlying62 (.ofA ta_72) hr (Nat.zero_le _) (by rw [List.length_map]; omega) rfl rfl rfl (.inl ⟨rfl, rfl, rfl⟩) (.inr ⟨_, _, rfl, rfl, rfl⟩)) ?_
  refine qp 8 [.k 0] rfl rfl rfl rfl (by kernel_rfl) rfl (u_mv rfl rfl rfl) (qp 9 [.o 8] rfl rfl rfl rfl (by kernel_rfl) rfl (u_nil rfl rfl rfl) (qr 10 [.o 9] rfl rfl rfl rfl (by kernel_rfl) rfl (fun He => u_ldc tc_62 rfl rfl rfl (by rfl)) ?_))
  refine qp 11 [.k 6] rfl rfl rfl rfl (by kernel_rfl) rfl (u_mv rfl rfl rfl) (qp 12 [.o 11] rfl rfl rfl rfl (by kernel_rfl) rfl (pv_add (fun _ => by omega) (.n rfl) rfl rfl rfl (fun _ => ⟨rfl, rfl⟩)) ?_)
  refine qp 13 [.o 10, .o 12] rfl rfl rfl rfl (by kernel_rfl) rfl (pv_slc (l := rnd n l.length + 1) (h := (l.map rM).length) Tryz.underlying62 (.ofA ta_72) hr (by rw [List.length_map]; omega) (Nat.le_refl _) rfl rfl rfl (.inr ⟨_, _, rfl, rfl, rfl⟩) (.inl ⟨rfl, rfl, rfl⟩)) ?_
  refine qa_append Tryz.underlying62 el_72 rfl rfl (i := 7) [.o 1, .o 6] (by kernel_rfl) (by kernel_rfl) rfl rfl rfl rfl (by kernel_rfl) (by kernel_rfl) ⟨_, .n rfl, rfl⟩ rfl rfl rfl (Rd.ent (hr.resl (Nat.zero_le _) (show rnd n l.length ≤ (l.map rM).length by rw [List.length_map]; omega)) (Ent.one SelS.ent)) (by simp; omega) fun v31 => ?_
  refine qm_rd v31 fun hr31 => ?_
  refine qa_append Tryz.underlying62 el_72 rfl rfl (i := 14) [.o 7, .o 13] (by kernel_rfl) (by kernel_rfl) rfl rfl rfl rfl (by kernel_rfl) (by kernel_rfl) ⟨_, .n rfl, rfl⟩ rfl rfl rfl (Rd.ent (hr.resl (show rnd n l.length + 1 ≤ (l.map rM).length by rw [List.length_map]; omega) (Nat.le_refl _)) (Ent.one SelS.ent)) (by simp; omega) fun v38 => ?_
  refine qm_rd v38 fun hr38 => ?_
  refine qp 15 [.o 0] rfl rfl rfl rfl (by kernel_rfl) rfl (u_nil rfl rfl rfl) ?_
  refine qb_store (.ofC tc_62) (i := 16) [.o 15, .o 14] (by kernel_rfl) (by kernel_rfl) rfl rfl rfl (by kernel_rfl) (by kernel_rfl) (by kernel_rfl) ⟨_, .n rfl, rfl⟩ rfl rfl rfl hr38.c1 rfl hr38.o1 (by repeat constructor) ?_
  refine qm_n (by kernel_rfl) (by kernel_rfl) (by kernel_rfl) (by kernel_rfl) (.c 4 rfl (.c 5 rfl (.c 7 rfl .n))) ?_
  refine r_sr ?_
  refine p_lda ta_72 rfl (by exact (.s (.s (.s (.s (.s (.s .z))))))) rfl ?_
  refine p_store (.ofA ta_72) rfl rfl rfl rfl rfl (by repeat constructor) ?_
  refine p_as rfl rfl (o_keep (.c 4 rfl (.c 5 rfl .n)) ?_)
  refine r_rete (v38) hF rfl (.c (.a rfl ta_72 (.blk (SelB.ent) (.s (.s (.s (.s (.s (.s .z))))))) rfl) (.c (.t rfl) .n)) ?_ ?_
  ·refine Ent.catI ?_; refine Ent.c (SelB.ent) ?_; refine Ent.c (sl_eqR (by rw [List.take_length]; simp [takeL])) ?_; repeat first|exact eR|refine eB ?_|refine eS ?_|refine eN ?_|refine eX ?_|refine eD ?_
  ·rw [hm]; rfl

theorem mbag_Double (M : Amb) (b : Nat) (T : TypeId) (c0 c1 c2 c3 c4 c5 c6 c7 c8 c9 c10 pv : Value) (l : List Mail) (hb : l.length ≤ 1000) (n : Int) : FnE (α := Value) Tryz.prog M 35 [.pointer (some ⟨b, 11, Option.none⟩), .int .i64 n] [blk b [c0, c1, c2, c3, c4, c5, c6, c7, c8, c9, c10, pv] T, sl pv 72 6 (l.map rM)] (fun _ => .bool (dblOk l)) (fun x => [blk b [c0, c1, c2, c3, c4, c5, c6, c7, c8, c9, c10, x] T, sl x 72 6 ((dblL l n).map rM)]) := by
 refine fne_intro Tryz.func35 rfl Tryz.ntmps35 rfl fun R F hF => ?_
 refine r_cat ?_
 refine r_rd pv fun hr => ?_
 refine r_sr (p_as rfl rfl (o_keep (.c 0 rfl (.c 1 rfl (.c 4 rfl .n))) (r_seq (r_sr (p_mv rfl rfl (p_nil rfl rfl (p_ldc tc_62 rfl (by rfl) rfl ?_)))))))
 refine l_op (x_p (pv_lens (Rd.len hr) ⟨_, Tryz.underlying62⟩ (.n rfl) rfl rfl rfl rfl (fun _ => rfl)) rfl rfl (p_eql rfl rfl rfl (o_keep (.c 0 rfl (.c 1 rfl (.c 4 rfl (.c 9 rfl .n)))) (r_cond _ rfl (fun h1 => ?_) (fun h1 => ?_)))))
 ·skip
  have h0 : l.length = 0 := by have := of_decide_eq_true h1; omega
  obtain ⟨e1, e2⟩ := dbl_none (n := n) h0
  refine r_sr (p_as rfl rfl (o_keep (.c 0 rfl (.c 1 rfl (.c 4 rfl .n))) ?_))
  refine r_rete (pv) hF rfl (.c (.t rfl) .n) ?_ ?_
  ·refine Ent.catI ?_; rw [e1]; repeat first|exact eR|refine eB ?_|refine eS ?_|refine eN ?_|refine eX ?_|refine eD ?_
  ·rw [e2]; rfl
 ·skip
  have h0 : 0 < l.length := by have := of_decide_eq_false h1; omega
  obtain ⟨m, hm⟩ := takeM_some (l := l) n h0
  obtain ⟨e1, e2⟩ := dbl_some hm h0
  refine r_skip (r_seq ?_)
  refine r_plan _ [] mo (.c 0 rfl (.c 1 rfl .n)) Ent.rfl ?_
  refine qp 0 [.k 0] rfl rfl rfl rfl (by kernel_rfl) rfl (u_mv rfl rfl rfl) (qp 1 [.k 0] rfl rfl rfl rfl (by kernel_rfl) rfl (u_mv rfl rfl rfl) (qp 2 [.o 1] rfl rfl rfl rfl (by kernel_rfl) rfl (u_nil rfl rfl rfl) (qr 3 [.o 2] rfl rfl rfl rfl (by kernel_rfl) rfl (fun He => u_ldc tc_62 rfl rfl rfl (by rfl)) ?_)))
  refine qp 4 [.k 0] rfl rfl rfl rfl (by kernel_rfl) rfl (u_mv rfl rfl rfl) (qp 5 [.k 1] rfl rfl rfl rfl (by kernel_rfl) rfl (u_mv rfl rfl rfl) ?_)
  refine qm_q (i := 6) (l := [.o 4, .o 5]) rfl rfl rfl rfl (by kernel_rfl) rfl (fun He => rq_call cf_73 (.n rfl) rfl (.c rfl (fun _ => rfl) (.c rfl (fun _ => rfl) .n)) (fun hg => (mbag_at _ b T c0 c1 c2 c3 c4 c5 c6 c7 c8 c9 c10 pv l hb _ h0).q)) ?_
  refine qp 7 [.o 3, .o 6] rfl rfl rfl rfl (by kernel_rfl) rfl (pv_idx Tryz.underlying62 (.ofA ta_72) hr (fun hg => ⟨rfl, (mapget hm)⟩) (.n rfl) rfl rfl rfl (fun _ => ⟨rfl, rfl⟩)) ?_
  refine qr 8 [.o 7] rfl rfl rfl rfl (by kernel_rfl) rfl (fun He => rv_ldats (j := 0) ta_72 (Rd.ent hr (by repeat (first | exact Ent.rfl | exact Ent.one Ent.h | exact Ent.one (SelS.ent) | exact Ent.nil | exact Ent.left | refine Ent.dropR ?_ | refine Ent.tr Ent.skip ?_))) (fun hg => (mapget hm)) (.n rfl) rfl rfl (fun _ => rfl) rfl (.s (.s (.s (.s (.s (.s .z))))))) ?_
  refine qb_calle (i := 9) [.o 0, .o 8] (by kernel_rfl) (by kernel_rfl) rfl rfl rfl rfl (by kernel_rfl) (by kernel_rfl) (by kernel_rfl) ⟨_, .n rfl, rfl⟩ cf_70 rfl (.c rfl (.c rfl .n)) (mbag_Send _ b T c0 c1 c2 c3 c4 c5 c6 c7 c8 c9 c10 pv l hb m) fun pv2 => ?_
  refine qm_cat ?_
  refine qp 10 [.o 9] rfl rfl rfl rfl (by kernel_rfl) rfl (u_as rfl rfl rfl) ?_
  refine qm_n (by kernel_rfl) (by kernel_rfl) (by kernel_rfl) (by kernel_rfl) (.c 4 rfl .n) ?_
  refine r_rete (pv2) hF rfl (.c (.t rfl) .n) ?_ ?_
  ·refine Ent.catI ?_; rw [e1]; repeat first|exact eR|refine eB ?_|refine eS ?_|refine eN ?_|refine eX ?_|refine eD ?_
  ·rw [e2]; rfl

end Go.Proofs.YtmakdilmibjpbacGreat
