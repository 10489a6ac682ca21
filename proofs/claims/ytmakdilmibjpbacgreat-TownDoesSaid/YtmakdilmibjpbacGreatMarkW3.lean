/- The walks of MarkW3: written by a program of ours (gen.py) over the engine. -/
import Derived.Test.YtmakdilmibjpbacGreatPlain
import Derived.Test.YtmakdilmibjpbacGreatFacts
import Derived.Test.YtmakdilmibjpbacGreatMarkW2
import Derived.Test.YtmakdilmibjpbacGreatShopLaws3
namespace Go.Proofs.YtmakdilmibjpbacGreat
open Go Go.RowKit
set_option linter.unusedVariables false
set_option linter.unusedSimpArgs false
set_option maxRecDepth 20000

theorem FnC.market {P : Program} {M : Amb} {f : FuncId} {vs : List Value} {ret : Value} {b : Nat} {t : TownS} (h : ∀ lv ov ts p0 p1 p2 bv, ts.length = t.b.l.length → FnC P M f vs ret (mkL b t lv ov ts p0 p1 p2 bv) (mkL b t lv ov ts p0 p1 p2 bv)) : FnC P M f vs ret [marketP b t] [marketP b t] := fun R w ho => by
  obtain ⟨lv, ov, ts, p0, p1, p2, bv, hl, ho'⟩ := marketP_open (show Own M (marketP b t :: R) w from ho)
  refine (h lv ov ts p0 p1 p2 bv hl R w ho').mono fun _ _ ⟨v, H', e, ⟨h1, h2⟩, ho2⟩ => ⟨v, _, e, ⟨h1, rfl⟩, ?_⟩
  subst h2
  have ho3 : Own M (blk b (lv :: ov :: mkR t.ws p0 p1 p2 bv) 64 :: sl lv 106 4 (List.zipWith rowD ts t.b.l) :: sl ov 3 1 (t.b.order.map rI) :: manyP bdealP ts t.b.l :: manyP penP [p0, p1, p2] t.ks :: sl bv 72 6 (t.post.map rM) :: R) _ := ho2
  exact ho3.ent (marketP_close (b := b) (t := t) lv ov ts p0 p1 p2 bv hl rfl rfl rfl rfl)
theorem market_Serial (M : Amb) (b : Nat) (t : TownS) (hT : TInv t) : FnC Tryz.prog M 12 [ptr b] (.tuple #[.agg ((serialT t).1.map vI).toArray, .int .i64 (serialT t).2]) [marketP b t] [marketP b t] := FnC.market fun lv ov ts p0 p1 p2 bv hl => market_Serial_o M b t lv ov ts p0 p1 p2 bv hl hT
theorem market_StepC (M : Amb) (b : Nat) (t : TownS) (hT : TInv t) (x : TStep) {t' : TownS} {n : Int} (h : stepT t x.s = (t', n)) (hv : Rd M [] x.wv 2 (x.wants.map rW)) (hb : x.wants.length ≤ 1000) : FnC Tryz.prog M 9 [ptr b, .agg (rTS x).toArray] (.int .i64 n) [marketP b t] [marketP b t'] := fun R => by
  have := market_Step M R b t hT x hv.all hb
  rwa [h] at this

theorem TInv.drainI : ∀ (n : Nat) (t : TownS), wgtL t.post ≤ n → TInv t → TInv (drainT t) := by
  intro n
  induction n with
  | zero =>
    intro t hn h
    rw [drainT]
    split
    · rename_i h0
      obtain ⟨m, hm⟩ := takeM_some' (l := t.post) 0 h0
      have := deliver_wgt hm
      omega
    · exact h
  | succ n ih =>
    intro t hn h
    rw [drainT]
    split
    · rename_i h0
      obtain ⟨m, hm⟩ := takeM_some' (l := t.post) 0 h0
      have := deliver_wgt hm
      exact ih _ (by omega) (h.deliver 0)
    · exact h
theorem TInv.calmNI : ∀ (k : Nat) (n : Int) (t : TownS), TInv t → TInv (calmN k n t).1
  | 0, _, _, h => h
  | k + 1, n, t, h => by
    have hd := TInv.drainI _ t (Nat.le_refl _) h
    unfold calmN
    split
    · exact hd
    · exact TInv.calmNI k _ _ hd.tick
theorem TInv.calmI {t : TownS} (h : TInv t) : TInv (calmT t).1 := TInv.calmNI 20 0 t h

theorem law_sameTown (M : Amb) (a b : Nat) (t : TownS) (hI : TInv t) : FnC Tryz.prog M 10 [ptr a, ptr b] (.bool true) [townP a t, marketP b t] [townP a t, marketP b t] := by
 have hfull := hI.full
 have hlen3 := hI.len
 have hw6 := worldT_len hlen3
 have hor := hI.b.ord_le
 have hdl := hI.b.due_len
 refine fnc_intro Tryz.func10 rfl Tryz.ntmps10 rfl fun R F hF => ?_
 refine r_cat ?_
 refine r_town fun bb c0 c1 c2 pb => ?_
 refine r_cat ?_
 refine r_sel (marketP b t) ?_
 refine r_market fun lv ov ts p0 p1 p2 bv hts => ?_
 refine r_cat ?_
 refine r_rd lv fun hrl => ?_
 refine r_rd ov fun hro => ?_
 refine r_rd bv fun hrb => ?_
 refine r_sr (p_as rfl rfl (o_keep (.c 0 rfl (.c 1 rfl (.c 4 rfl .n))) (r_seq (r_seq ?_))))
 refine r_plan _ [] mo (.c 0 rfl (.c 1 rfl (.c 4 rfl .n))) Ent.rfl ?_
 refine qp 0 [.k 0] rfl rfl rfl rfl (by kernel_rfl) rfl (u_mv rfl rfl rfl) (qp 2 [.k 1] rfl rfl rfl rfl (by kernel_rfl) rfl (u_mv rfl rfl rfl) (qp 3 [.o 2] rfl rfl rfl rfl (by kernel_rfl) rfl (u_nil rfl rfl rfl) (qp 4 [.o 3] rfl rfl rfl rfl (by kernel_rfl) rfl (u_fa fa_64_3 rfl rfl rfl) (qr 5 [.o 4] rfl rfl rfl rfl (by kernel_rfl) rfl (fun He => u_ldc tc_62 rfl rfl rfl (by rfl)) ?_))))
 refine qm_calln (i := 1) [.o 0] (by kernel_rfl) (by kernel_rfl) rfl rfl rfl rfl (by kernel_rfl) (by kernel_rfl) ⟨_, .n rfl, rfl⟩ cf_16 rfl (.c rfl .n) (town_MailN _ a t bb c0 c1 c2 pb hI) fun m1 => ?_
 refine qm_cat ?_
 refine qm_rd m1 fun hrm1 => ?_
 refine qm_keep ?_
 refine qm_q (i := 6) (l := [.o 1, .o 5]) rfl rfl rfl rfl (by kernel_rfl) rfl (fun He => rq_call cf_39 (.n rfl) rfl (.c rfl (fun _ => rfl) (.c rfl (fun _ => rfl) .n)) (fun hg => fnv_tru (ref_SameMail _ _ m1 bv t.post t.post hrm1.own hrb.own (by omega)))) ?_
 refine qp 7 [.o 6] rfl rfl rfl rfl (by kernel_rfl) rfl (pv_not (.n rfl) rfl rfl (fun _ => rfl)) (qp 8 [.o 7] rfl rfl rfl rfl (by kernel_rfl) rfl (u_mv rfl rfl rfl) (qp 9 [.k 0, .o 8] rfl rfl rfl rfl (by kernel_rfl) rfl (pv_ung (.s rfl rfl rfl) rfl (u_mv rfl rfl rfl)) (qp 10 [.o 9, .o 8] rfl rfl rfl rfl (by kernel_rfl) rfl (pv_ung (.s rfl rfl rfl) rfl (u_nil rfl rfl rfl)) ?_)))
 refine qp 11 [.o 10, .o 8] rfl rfl rfl rfl (by kernel_rfl) rfl (pv_ung (.s rfl rfl rfl) rfl (u_fa fa_51_0 rfl rfl rfl)) (qr 12 [.o 11, .o 8] rfl rfl rfl rfl (by kernel_rfl) rfl (fun He => rv_ung (.s rfl rfl rfl) rfl (u_ldc tc_46 rfl rfl rfl (by rfl))) ?_)
 refine qp 14 [.k 1, .o 8] rfl rfl rfl rfl (by kernel_rfl) rfl (pv_ung (.s rfl rfl rfl) rfl (u_mv rfl rfl rfl)) (qp 15 [.o 14, .o 8] rfl rfl rfl rfl (by kernel_rfl) rfl (pv_ung (.s rfl rfl rfl) rfl (u_nil rfl rfl rfl)) (qp 16 [.o 15, .o 8] rfl rfl rfl rfl (by kernel_rfl) rfl (pv_ung (.s rfl rfl rfl) rfl (u_fa fa_64_0 rfl rfl rfl)) ?_))
 refine qm_calln (i := 13) [.o 12, .o 8] (by kernel_rfl) (by kernel_rfl) rfl rfl rfl rfl (by kernel_rfl) (by kernel_rfl) ⟨_, .s rfl rfl rfl, rfl⟩ cf_20 rfl (.c rfl .n) (broker_DueN _ bb t.b hI.b) fun m2 => ?_
 refine qm_cat ?_
 refine qm_rd m2 fun hrm2 => ?_
 refine qm_keep ?_
 refine qm_calln (i := 17) [.o 16, .o 8] (by kernel_rfl) (by kernel_rfl) rfl rfl rfl rfl (by kernel_rfl) (by kernel_rfl) ⟨_, .s rfl rfl rfl, rfl⟩ cf_40 rfl (.c rfl .n) (book_DueN _ 64 (mkR t.ws p0 p1 p2 bv) b t.b hI.b lv ov ts hts) fun m3 => ?_
 refine qm_cat ?_
 refine qm_rd m3 fun hrm3 => ?_
 refine qm_keep ?_
 refine qm_q (i := 18) (l := [.o 13, .o 17, .o 8]) rfl rfl rfl rfl (by kernel_rfl) rfl (fun He => rq_ung (.s rfl rfl rfl) rfl (rq_call cf_39 (.n rfl) rfl (.c rfl (fun _ => rfl) (.c rfl (fun _ => rfl) .n)) (fun hg => fnv_tru (ref_SameMail _ _ m2 m3 (dueB t.b) (dueB t.b) hrm2.own hrm3.own (by omega))))) ?_
 refine qp 19 [.o 18, .o 8] rfl rfl rfl rfl (by kernel_rfl) rfl (pv_ung (.s rfl rfl rfl) rfl (pv_not (.n rfl) rfl rfl (fun _ => rfl))) ?_
 refine qp 20 [.o 8, .o 19] rfl rfl rfl rfl (by kernel_rfl) rfl (pv_or (.n rfl) rfl rfl rfl (fun _ => ⟨rfl, fun hc => by first | rfl | (rw [hc]; rfl) | simp_all⟩)) ?_
 refine qp 21 [.o 20] rfl rfl rfl rfl (by kernel_rfl) rfl (u_mv rfl rfl rfl) (qp 22 [.k 0, .o 21] rfl rfl rfl rfl (by kernel_rfl) rfl (pv_ung (.s rfl rfl rfl) rfl (u_mv rfl rfl rfl)) ?_)
 refine qm_q (i := 23) (l := [.o 22, .o 21]) rfl rfl rfl rfl (by kernel_rfl) rfl (fun He => rq_ung (.s rfl rfl rfl) rfl (rq_call cf_17 (.n rfl) rfl (.c rfl (fun _ => rfl) .n) (fun hg => (town_World_o _ a t bb c0 c1 c2 pb hI).q))) ?_
 refine qp 24 [.k 1, .o 21] rfl rfl rfl rfl (by kernel_rfl) rfl (pv_ung (.s rfl rfl rfl) rfl (u_mv rfl rfl rfl)) ?_
 refine qm_q (i := 25) (l := [.o 24, .o 21]) rfl rfl rfl rfl (by kernel_rfl) rfl (fun He => rq_ung (.s rfl rfl rfl) rfl (rq_call cf_41 (.n rfl) rfl (.c rfl (fun _ => rfl) .n) (fun hg => (market_World_o _ b t lv ov ts p0 p1 p2 bv hts hI).q))) ?_
 refine qp 26 [.o 23, .o 25, .o 21] rfl rfl rfl rfl (by kernel_rfl) rfl (pv_ung (.s rfl rfl rfl) rfl (pv_to (pv_ane (eq_World hw6 hw6) (.n rfl) rfl rfl rfl (fun _ => ⟨rfl, rfl⟩)) (show _ = Value.bool false by simp))) ?_
 refine qp 27 [.o 21, .o 26] rfl rfl rfl rfl (by kernel_rfl) rfl (pv_or (.n rfl) rfl rfl rfl (fun _ => ⟨rfl, fun hc => by first | rfl | (rw [hc]; rfl) | simp_all⟩)) ?_
 refine qp 28 [.o 27] rfl rfl rfl rfl (by kernel_rfl) rfl (u_mv rfl rfl rfl) (qp 29 [.k 0, .o 28] rfl rfl rfl rfl (by kernel_rfl) rfl (pv_ung (.s rfl rfl rfl) rfl (u_mv rfl rfl rfl)) (qp 30 [.o 29, .o 28] rfl rfl rfl rfl (by kernel_rfl) rfl (pv_ung (.s rfl rfl rfl) rfl (u_nil rfl rfl rfl)) (qp 31 [.o 30, .o 28] rfl rfl rfl rfl (by kernel_rfl) rfl (pv_ung (.s rfl rfl rfl) rfl (u_fa fa_51_0 rfl rfl rfl)) ?_)))
 refine qr 32 [.o 31, .o 28] rfl rfl rfl rfl (by kernel_rfl) rfl (fun He => rv_ung (.s rfl rfl rfl) rfl (u_ldc tc_46 rfl rfl rfl (by rfl))) ?_
 refine qm_q (i := 33) (l := [.o 32, .o 28]) rfl rfl rfl rfl (by kernel_rfl) rfl (fun He => rq_ung (.s rfl rfl rfl) rfl (rq_call cf_42 (.n rfl) rfl (.c rfl (fun _ => rfl) .n) (fun hg => (broker_Len _ bb t.b hI.b).q))) ?_
 refine qp 34 [.k 1, .o 28] rfl rfl rfl rfl (by kernel_rfl) rfl (pv_ung (.s rfl rfl rfl) rfl (u_mv rfl rfl rfl)) (qp 35 [.o 34, .o 28] rfl rfl rfl rfl (by kernel_rfl) rfl (pv_ung (.s rfl rfl rfl) rfl (u_nil rfl rfl rfl)) (qp 36 [.o 35, .o 28] rfl rfl rfl rfl (by kernel_rfl) rfl (pv_ung (.s rfl rfl rfl) rfl (u_fa fa_64_0 rfl rfl rfl)) ?_))
 refine qp 37 [.o 36, .o 28] rfl rfl rfl rfl (by kernel_rfl) rfl (pv_ung (.s rfl rfl rfl) rfl (u_fa fa_59_0 rfl rfl rfl)) (qr 38 [.o 37, .o 28] rfl rfl rfl rfl (by kernel_rfl) rfl (fun He => rv_ung (.s rfl rfl rfl) rfl (u_ldc tc_56 rfl rfl rfl (by rfl))) ?_)
 refine qp 39 [.o 38, .o 28] rfl rfl rfl rfl (by kernel_rfl) rfl (pv_ung (.s rfl rfl rfl) rfl (pv_lens (Rd.lenz hrl hts) ⟨_, Tryz.underlying56⟩ (.n rfl) rfl rfl rfl rfl (fun _ => rfl))) (qp 40 [.o 33, .o 39, .o 28] rfl rfl rfl rfl (by kernel_rfl) rfl (pv_ung (.s rfl rfl rfl) rfl (pv_to (pv_neq (.n rfl) rfl rfl rfl (fun _ => ⟨rfl, rfl⟩)) (show _ = Value.bool false by simp))) ?_)
 refine qp 41 [.o 28, .o 40] rfl rfl rfl rfl (by kernel_rfl) rfl (pv_or (.n rfl) rfl rfl rfl (fun _ => ⟨rfl, fun hc => by first | rfl | (rw [hc]; rfl) | simp_all⟩)) ?_
 refine qp 42 [.o 41] rfl rfl rfl rfl (by kernel_rfl) rfl (u_mv rfl rfl rfl) (qp 43 [.k 0, .o 42] rfl rfl rfl rfl (by kernel_rfl) rfl (pv_ung (.s rfl rfl rfl) rfl (u_mv rfl rfl rfl)) (qp 44 [.o 43, .o 42] rfl rfl rfl rfl (by kernel_rfl) rfl (pv_ung (.s rfl rfl rfl) rfl (u_nil rfl rfl rfl)) (qp 45 [.o 44, .o 42] rfl rfl rfl rfl (by kernel_rfl) rfl (pv_ung (.s rfl rfl rfl) rfl (u_fa fa_51_0 rfl rfl rfl)) ?_)))
 refine qr 46 [.o 45, .o 42] rfl rfl rfl rfl (by kernel_rfl) rfl (fun He => rv_ung (.s rfl rfl rfl) rfl (u_ldc tc_46 rfl rfl rfl (by rfl))) ?_
 refine qp 48 [.k 1, .o 42] rfl rfl rfl rfl (by kernel_rfl) rfl (pv_ung (.s rfl rfl rfl) rfl (u_mv rfl rfl rfl)) (qp 49 [.o 48, .o 42] rfl rfl rfl rfl (by kernel_rfl) rfl (pv_ung (.s rfl rfl rfl) rfl (u_nil rfl rfl rfl)) (qp 50 [.o 49, .o 42] rfl rfl rfl rfl (by kernel_rfl) rfl (pv_ung (.s rfl rfl rfl) rfl (u_fa fa_64_0 rfl rfl rfl)) ?_))
 refine qp 51 [.o 50, .o 42] rfl rfl rfl rfl (by kernel_rfl) rfl (pv_ung (.s rfl rfl rfl) rfl (u_fa fa_59_1 rfl rfl rfl)) (qr 52 [.o 51, .o 42] rfl rfl rfl rfl (by kernel_rfl) rfl (fun He => rv_ung (.s rfl rfl rfl) rfl (u_ldc tc_57 rfl rfl rfl (by rfl))) ?_)
 refine qm_calln (i := 47) [.o 46, .o 42] (by kernel_rfl) (by kernel_rfl) rfl rfl rfl rfl (by kernel_rfl) (by kernel_rfl) ⟨_, .s rfl rfl rfl, rfl⟩ cf_44 rfl (.c rfl .n) (broker_DoneN _ bb t.b hI.b (by omega)) fun o1 => ?_
 refine qm_cat ?_
 refine qm_rd o1 fun hro1 => ?_
 refine qm_keep ?_
 refine qm_q (i := 53) (l := [.o 47, .o 52, .o 42]) rfl rfl rfl rfl (by kernel_rfl) rfl (fun He => rq_ung (.s rfl rfl rfl) rfl (rq_call cf_43 (.n rfl) rfl (.c rfl (fun _ => rfl) (.c rfl (fun _ => rfl) .n)) (fun hg => fnv_tru (ref_SameInts _ _ o1 ov t.b.order t.b.order hro1.own hro.own (by omega))))) ?_
 refine qp 54 [.o 53, .o 42] rfl rfl rfl rfl (by kernel_rfl) rfl (pv_ung (.s rfl rfl rfl) rfl (pv_not (.n rfl) rfl rfl (fun _ => rfl))) ?_
 refine qp 55 [.o 42, .o 54] rfl rfl rfl rfl (by kernel_rfl) rfl (pv_or (.n rfl) rfl rfl rfl (fun _ => ⟨rfl, fun hc => by first | rfl | (rw [hc]; rfl) | simp_all⟩)) ?_
 refine qm_n (by kernel_rfl) (by kernel_rfl) (by kernel_rfl) (by kernel_rfl) (.c 0 rfl (.c 1 rfl (.c 4 rfl (.c 62 rfl .n)))) ?_
 refine r_cond _ rfl (fun h1 => ?_) (fun h1 => ?_)
 ·simp at h1
 ·skip
  refine r_skip (r_seq (r_sr (p_as rfl rfl (o_keep (.c 0 rfl (.c 1 rfl (.c 4 rfl (.c 5 rfl .n)))) (r_block ?_)))))
  have hTI := hI
  refine r_loop_1 (fun (s : Int) => [(5, true, .int .i64 s)]) (.c 0 rfl (.c 1 rfl (.c 4 rfl .n))) (fun (s : Int) => blk a (tnC bb t.ws c0 c1 c2 pb) 51 :: brokP bb t.b :: manyP clerkP [c0, c1, c2] t.ks :: postP pb t.post :: blk b (lv :: ov :: mkR t.ws p0 p1 p2 bv) 64 :: sl lv 106 4 (List.zipWith rowD ts t.b.l) :: sl ov 3 1 (t.b.order.map rI) :: manyP bdealP ts t.b.l :: manyP penP [p0, p1, p2] t.ks :: sl bv 72 6 (t.post.map rM) :: R) (fun (s : Int) => -1 ≤ s ∧ s ≤ 4) (fun (s : Int) => (4 - s).toNat) (-1) ?_ (.c 5 rfl .n) ?_ (fun s hI => ?_)
  ·exact ⟨by omega, by omega⟩
  ·repeat first|exact eR|refine eB ?_|refine eS ?_|refine eN ?_|refine eX ?_|refine eD ?_
  ·skip
   obtain ⟨hs0, hs4⟩ := hI
   refine r_seq (r_sr (p_mv rfl rfl (p_leq rfl rfl rfl (o_keep (.c 0 rfl (.c 1 rfl (.c 4 rfl (.c 5 rfl (.c 64 rfl .n))))) (r_cond _ rfl (fun h2 => ?_) (fun h2 => ?_))))))
   ·skip
    have hs3 : s ≤ 3 := of_decide_eq_true h2
    refine r_skip (r_seq (r_block (r_seq ?_)))
    have hsh : (s < 0 ∨ 3 ≤ s) ∨ ∃ i : Nat, s = (i : Int) ∧ i < 3 := by by_cases h : s < 0 ∨ 3 ≤ s; exact .inl h; exact .inr ⟨s.toNat, by omega, by omega⟩
    rcases hsh with hsh | ⟨i, hsi, hi3⟩
    ·skip
     refine r_region (p_mv rfl rfl (p_mv rfl rfl ?_))
     refine p_callv cf_19 (.c rfl (.c rfl .n)) rfl ((town_Clerk_n _ a bb t.ws c0 c1 c2 pb s hsh).q) ?_
     refine p_as rfl rfl (o_keep (.c 0 rfl (.c 1 rfl (.c 4 rfl (.c 5 rfl (.c 6 rfl .n))))) (r_seq (r_sr (p_mv rfl rfl (p_lss rfl rfl rfl (p_mv rfl rfl (l_op (x_p (pv_mv (.s rfl rfl rfl) rfl rfl (by first | exact fun _ => rfl | exact id | exact fun h => (Bool.and_eq_true_iff.1 h).1 | simp_all)) rfl rfl ?_))))))))
     refine l_op (x_p (pv_geq (.s rfl rfl rfl) rfl rfl rfl (by refine fun h => ⟨?_, ?_⟩ <;> first | rfl | exact h | exact (Bool.and_eq_true_iff.1 h).1 | simp_all)) rfl rfl ?_)
     refine l_op (x_p (pv_or (.n rfl) rfl rfl rfl (fun _ => ⟨rfl, fun hc => by first | rfl | (rw [hc]; rfl) | simp_all⟩)) rfl rfl ?_)
     refine o_keep (.c 0 rfl (.c 1 rfl (.c 4 rfl (.c 5 rfl (.c 6 rfl (.c 75 rfl .n)))))) (r_cond _ rfl (fun h3 => ?_) (fun h3 => ?_))
     ·skip
      refine r_seq (r_sr (p_mv rfl rfl (l_op (x_p (pv_pnen Tryz.underlying47 (.n rfl) rfl rfl rfl (fun _ => ⟨rfl, rfl⟩)) rfl rfl (o_keep (.c 0 rfl (.c 1 rfl (.c 4 rfl (.c 5 rfl (.c 6 rfl (.c 77 rfl .n)))))) (r_cond _ rfl (fun h4 => ?_) (fun h4 => ?_)))))))
      ·simp at h4
      ·skip
       refine r_skip (r_exit rfl (r_region (p_mv rfl rfl (p_add rfl rfl (by omega) rfl (p_as rfl rfl (o_keep (.c 0 rfl (.c 1 rfl (.c 4 rfl (.c 5 rfl .n)))) ?_))))))
       refine r_back_1 (s + 1) ?_ ?_ (Keep.app (.c 5 rfl .n) (.c 0 rfl (.c 1 rfl (.c 4 rfl .n)))) ?_
       ·exact ⟨by omega, by omega⟩
       ·omega
       ·repeat first|exact eR|refine eB ?_|refine eS ?_|refine eN ?_|refine eX ?_|refine eD ?_
     ·exfalso; simp at h3; omega
    ·skip
     obtain ⟨k, hk3⟩ := getlt (l := t.ks) (i := i) (by omega)
     obtain ⟨hK, hkn, hkw⟩ := hTI.k i k hk3
     refine r_region (p_mv rfl rfl (p_mv rfl rfl ?_))
     refine p_callv cf_19 (.c rfl (.c rfl .n)) rfl ((town_Clerk_s _ a bb t.ws c0 c1 c2 pb s i hsi hi3).q) ?_
     refine p_as rfl rfl (o_keep (.c 0 rfl (.c 1 rfl (.c 4 rfl (.c 5 rfl (.c 6 rfl .n))))) (r_seq (r_sr (p_mv rfl rfl (p_lss rfl rfl rfl (p_mv rfl rfl (l_op (x_p (pv_mv (.s rfl rfl rfl) rfl rfl (by first | exact fun _ => rfl | exact id | exact fun h => (Bool.and_eq_true_iff.1 h).1 | simp_all)) rfl rfl ?_))))))))
     refine l_op (x_p (pv_geq (.s rfl rfl rfl) rfl rfl rfl (by refine fun h => ⟨?_, ?_⟩ <;> first | rfl | exact h | exact (Bool.and_eq_true_iff.1 h).1 | simp_all)) rfl rfl ?_)
     refine l_op (x_p (pv_or (.n rfl) rfl rfl rfl (fun _ => ⟨rfl, fun hc => by first | rfl | (rw [hc]; rfl) | simp_all⟩)) rfl rfl ?_)
     refine o_keep (.c 0 rfl (.c 1 rfl (.c 4 rfl (.c 5 rfl (.c 6 rfl (.c 75 rfl .n)))))) (r_cond _ rfl (fun h5 => ?_) (fun h5 => ?_))
     ·exfalso; simp at h5; omega
     ·skip
      refine r_skip (r_seq ?_)
      refine r_many (P := clerkP) (bs := [c0, c1, c2]) i (cAt_get hi3) hk3 ?_
      refine r_ex fun kb => ?_
      refine r_cat ?_
      refine r_sel (keepP kb k) ?_
      refine r_ex2 fun sb kv => ?_
      refine r_cat ?_
      refine r_rd kv fun hrk => ?_
      refine r_many (P := penP) (bs := [p0, p1, p2]) i (cAt_get hi3) hk3 ?_
      refine r_ex2 fun bb2 pv => ?_
      refine r_cat ?_
      refine r_rd pv fun hrp => ?_
      refine r_sel (boothP bb2 k.shop) ?_
      refine r_ex3 fun hv xv dv => ?_
      refine r_cat ?_
      refine r_rd hv fun hrh => ?_
      have hh1 := hK.sh.holds_le
      have hh2 := hK.sh.over_le
      have hh3 := hK.l_le
      refine r_plan _ [] mo (.c 0 rfl (.c 1 rfl (.c 4 rfl (.c 5 rfl (.c 6 rfl .n))))) Ent.rfl ?_
      refine qp 0 [.k 6] rfl rfl rfl rfl (by kernel_rfl) rfl (u_mv rfl rfl rfl) (qp 1 [.o 0] rfl rfl rfl rfl (by kernel_rfl) rfl (pv_peqn Tryz.underlying47 (.n rfl) rfl rfl rfl (fun _ => ⟨rfl, rfl⟩)) (qp 2 [.o 1] rfl rfl rfl rfl (by kernel_rfl) rfl (u_mv rfl rfl rfl) (qp 3 [.k 6, .o 2] rfl rfl rfl rfl (by kernel_rfl) rfl (pv_ung (.s rfl rfl rfl) rfl (u_mv rfl rfl rfl)) ?_)))
      refine qp 4 [.o 3, .o 2] rfl rfl rfl rfl (by kernel_rfl) rfl (pv_ung (.s rfl rfl rfl) rfl (u_nil rfl rfl rfl)) (qp 5 [.o 4, .o 2] rfl rfl rfl rfl (by kernel_rfl) rfl (pv_ung (.s rfl rfl rfl) rfl (u_fa fa_70_0 rfl rfl rfl)) (qr 6 [.o 5, .o 2] rfl rfl rfl rfl (by kernel_rfl) rfl (fun He => rv_ung (.s rfl rfl rfl) rfl (u_ldc tc_68 rfl rfl rfl (by rfl))) ?_))
      refine qp 7 [.o 6, .o 2] rfl rfl rfl rfl (by kernel_rfl) rfl (pv_ung (.s rfl rfl rfl) rfl (u_nil rfl rfl rfl)) (qp 8 [.o 7, .o 2] rfl rfl rfl rfl (by kernel_rfl) rfl (pv_ung (.s rfl rfl rfl) rfl (u_fa fa_93_0 rfl rfl rfl)) (qr 9 [.o 8, .o 2] rfl rfl rfl rfl (by kernel_rfl) rfl (fun He => rv_ung (.s rfl rfl rfl) rfl (u_ldc tc_91 rfl rfl rfl (by rfl))) ?_))
      refine qm_q (i := 10) (l := [.o 9, .o 2]) rfl rfl rfl rfl (by kernel_rfl) rfl (fun He => rq_ung (.s rfl rfl rfl) rfl (rq_call cf_45 (.n rfl) rfl (.c rfl (fun _ => rfl) .n) (fun hg => (shop_Counts _ sb k.shop).q))) ?_
      refine qp 11 [.k 1, .o 2] rfl rfl rfl rfl (by kernel_rfl) rfl (pv_ung (.s rfl rfl rfl) rfl (u_mv rfl rfl rfl)) (qp 12 [.k 5, .o 2] rfl rfl rfl rfl (by kernel_rfl) rfl (pv_ung (.s rfl rfl rfl) rfl (u_mv rfl rfl rfl)) (qp 13 [.o 11, .o 2] rfl rfl rfl rfl (by kernel_rfl) rfl (pv_ung (.s rfl rfl rfl) rfl (u_nil rfl rfl rfl)) ?_))
      refine qp 14 [.o 13, .o 2] rfl rfl rfl rfl (by kernel_rfl) rfl (pv_ung (.s rfl rfl rfl) rfl (u_fa fa_64_2 rfl rfl rfl)) (qp 15 [.o 14, .o 12, .o 2] rfl rfl rfl rfl (by kernel_rfl) rfl (pv_ung (.s rfl rfl rfl) rfl (pv_aidx (i := i) Tryz.underlying61 (.ofC tc_60) (fun hg => ⟨hsi, hi3⟩) (.n rfl) rfl rfl rfl (fun _ => ⟨rfl, rfl⟩))) ?_)
      refine qr 16 [.o 15, .o 2] rfl rfl rfl rfl (by kernel_rfl) rfl (fun He => rv_ung (.s rfl rfl rfl) rfl (q_ldci (i := 8 + i) tc_60 (.n rfl) rfl rfl (fun _ => rfl) (by omega) (mk_cell hi3))) ?_
      refine qp 17 [.o 16, .o 2] rfl rfl rfl rfl (by kernel_rfl) rfl (pv_ung (.s rfl rfl rfl) rfl (u_nil rfl rfl rfl)) (qp 18 [.o 17, .o 2] rfl rfl rfl rfl (by kernel_rfl) rfl (pv_ung (.s rfl rfl rfl) rfl (u_fa fa_83_0 rfl rfl rfl)) (qr 19 [.o 18, .o 2] rfl rfl rfl rfl (by kernel_rfl) rfl (fun He => rv_ung (.s rfl rfl rfl) rfl (u_ldc tc_76 rfl rfl rfl (by rfl))) ?_))
      refine qm_q (i := 20) (l := [.o 19, .o 2]) rfl rfl rfl rfl (by kernel_rfl) rfl (fun He => rq_ung (.s rfl rfl rfl) rfl (rq_call cf_46 (.n rfl) rfl (.c rfl (fun _ => rfl) .n) (fun hg => (booth_Counts_o _ bb2 k.shop hK.sh hv xv dv).q))) ?_
      refine qp 21 [.o 10, .o 20, .o 2] rfl rfl rfl rfl (by kernel_rfl) rfl (pv_ung (.s rfl rfl rfl) rfl (pv_to (pv_ane eq_Cnts (.n rfl) rfl rfl rfl (fun _ => ⟨rfl, rfl⟩)) (show _ = Value.bool false by simp))) ?_
      refine qp 22 [.o 2, .o 21] rfl rfl rfl rfl (by kernel_rfl) rfl (pv_or (.n rfl) rfl rfl rfl (fun _ => ⟨rfl, fun hc => by first | rfl | (rw [hc]; rfl) | simp_all⟩)) ?_
      refine qp 23 [.o 22] rfl rfl rfl rfl (by kernel_rfl) rfl (u_mv rfl rfl rfl) (qp 24 [.k 6, .o 23] rfl rfl rfl rfl (by kernel_rfl) rfl (pv_ung (.s rfl rfl rfl) rfl (u_mv rfl rfl rfl)) (qp 25 [.o 24, .o 23] rfl rfl rfl rfl (by kernel_rfl) rfl (pv_ung (.s rfl rfl rfl) rfl (u_nil rfl rfl rfl)) ?_))
      refine qp 26 [.o 25, .o 23] rfl rfl rfl rfl (by kernel_rfl) rfl (pv_ung (.s rfl rfl rfl) rfl (u_fa fa_70_0 rfl rfl rfl)) (qr 27 [.o 26, .o 23] rfl rfl rfl rfl (by kernel_rfl) rfl (fun He => rv_ung (.s rfl rfl rfl) rfl (u_ldc tc_68 rfl rfl rfl (by rfl))) ?_)
      refine qp 28 [.o 27, .o 23] rfl rfl rfl rfl (by kernel_rfl) rfl (pv_ung (.s rfl rfl rfl) rfl (u_nil rfl rfl rfl)) (qp 29 [.o 28, .o 23] rfl rfl rfl rfl (by kernel_rfl) rfl (pv_ung (.s rfl rfl rfl) rfl (u_fa fa_93_0 rfl rfl rfl)) (qr 30 [.o 29, .o 23] rfl rfl rfl rfl (by kernel_rfl) rfl (fun He => rv_ung (.s rfl rfl rfl) rfl (u_ldc tc_91 rfl rfl rfl (by rfl))) ?_))
      refine qp 32 [.k 1, .o 23] rfl rfl rfl rfl (by kernel_rfl) rfl (pv_ung (.s rfl rfl rfl) rfl (u_mv rfl rfl rfl)) (qp 33 [.k 5, .o 23] rfl rfl rfl rfl (by kernel_rfl) rfl (pv_ung (.s rfl rfl rfl) rfl (u_mv rfl rfl rfl)) (qp 34 [.o 32, .o 23] rfl rfl rfl rfl (by kernel_rfl) rfl (pv_ung (.s rfl rfl rfl) rfl (u_nil rfl rfl rfl)) ?_))
      refine qp 35 [.o 34, .o 23] rfl rfl rfl rfl (by kernel_rfl) rfl (pv_ung (.s rfl rfl rfl) rfl (u_fa fa_64_2 rfl rfl rfl)) (qp 36 [.o 35, .o 33, .o 23] rfl rfl rfl rfl (by kernel_rfl) rfl (pv_ung (.s rfl rfl rfl) rfl (pv_aidx (i := i) Tryz.underlying61 (.ofC tc_60) (fun hg => ⟨hsi, hi3⟩) (.n rfl) rfl rfl rfl (fun _ => ⟨rfl, rfl⟩))) ?_)
      refine qr 37 [.o 36, .o 23] rfl rfl rfl rfl (by kernel_rfl) rfl (fun He => rv_ung (.s rfl rfl rfl) rfl (q_ldci (i := 8 + i) tc_60 (.n rfl) rfl rfl (fun _ => rfl) (by omega) (mk_cell hi3))) ?_
      refine qp 38 [.o 37, .o 23] rfl rfl rfl rfl (by kernel_rfl) rfl (pv_ung (.s rfl rfl rfl) rfl (u_nil rfl rfl rfl)) (qp 39 [.o 38, .o 23] rfl rfl rfl rfl (by kernel_rfl) rfl (pv_ung (.s rfl rfl rfl) rfl (u_fa fa_83_0 rfl rfl rfl)) (qr 40 [.o 39, .o 23] rfl rfl rfl rfl (by kernel_rfl) rfl (fun He => rv_ung (.s rfl rfl rfl) rfl (u_ldc tc_76 rfl rfl rfl (by rfl))) ?_))
      refine qp 41 [.o 40, .o 23] rfl rfl rfl rfl (by kernel_rfl) rfl (pv_ung (.s rfl rfl rfl) rfl (u_nil rfl rfl rfl)) (qp 42 [.o 41, .o 23] rfl rfl rfl rfl (by kernel_rfl) rfl (pv_ung (.s rfl rfl rfl) rfl (u_fa fa_99_2 rfl rfl rfl)) (qr 43 [.o 42, .o 23] rfl rfl rfl rfl (by kernel_rfl) rfl (fun He => rv_ung (.s rfl rfl rfl) rfl (u_ldc tc_95 rfl rfl rfl (by rfl))) ?_))
      refine qm_calln (i := 31) [.o 30, .o 23] (by kernel_rfl) (by kernel_rfl) rfl rfl rfl rfl (by kernel_rfl) (by kernel_rfl) ⟨_, .s rfl rfl rfl, rfl⟩ cf_48 rfl (.c rfl .n) (shop_HoldsN _ sb k.shop (by omega) (by omega)) fun z1 => ?_
      refine qm_cat ?_
      refine qm_rd z1 fun hrz1 => ?_
      refine qm_keep ?_
      refine qm_q (i := 44) (l := [.o 31, .o 43, .o 23]) rfl rfl rfl rfl (by kernel_rfl) rfl (fun He => rq_ung (.s rfl rfl rfl) rfl (rq_call cf_47 (.n rfl) rfl (.c rfl (fun _ => rfl) (.c rfl (fun _ => rfl) .n)) (fun hg => fnv_tru (ref_SameHolds _ _ _ _ k.shop.holds k.shop.holds hrz1.own hrh.own (by omega))))) ?_
      refine qp 45 [.o 44, .o 23] rfl rfl rfl rfl (by kernel_rfl) rfl (pv_ung (.s rfl rfl rfl) rfl (pv_not (.n rfl) rfl rfl (fun _ => rfl))) ?_
      refine qp 46 [.o 23, .o 45] rfl rfl rfl rfl (by kernel_rfl) rfl (pv_or (.n rfl) rfl rfl rfl (fun _ => ⟨rfl, fun hc => by first | rfl | (rw [hc]; rfl) | simp_all⟩)) ?_
      refine qp 47 [.o 46] rfl rfl rfl rfl (by kernel_rfl) rfl (u_mv rfl rfl rfl) (qp 48 [.k 6, .o 47] rfl rfl rfl rfl (by kernel_rfl) rfl (pv_ung (.s rfl rfl rfl) rfl (u_mv rfl rfl rfl)) (qp 49 [.o 48, .o 47] rfl rfl rfl rfl (by kernel_rfl) rfl (pv_ung (.s rfl rfl rfl) rfl (u_nil rfl rfl rfl)) ?_))
      refine qp 50 [.o 49, .o 47] rfl rfl rfl rfl (by kernel_rfl) rfl (pv_ung (.s rfl rfl rfl) rfl (u_fa fa_70_0 rfl rfl rfl)) (qr 51 [.o 50, .o 47] rfl rfl rfl rfl (by kernel_rfl) rfl (fun He => rv_ung (.s rfl rfl rfl) rfl (u_ldc tc_68 rfl rfl rfl (by rfl))) ?_)
      refine qp 53 [.k 1, .o 47] rfl rfl rfl rfl (by kernel_rfl) rfl (pv_ung (.s rfl rfl rfl) rfl (u_mv rfl rfl rfl)) (qp 54 [.k 5, .o 47] rfl rfl rfl rfl (by kernel_rfl) rfl (pv_ung (.s rfl rfl rfl) rfl (u_mv rfl rfl rfl)) (qp 55 [.o 53, .o 47] rfl rfl rfl rfl (by kernel_rfl) rfl (pv_ung (.s rfl rfl rfl) rfl (u_nil rfl rfl rfl)) ?_))
      refine qp 56 [.o 55, .o 47] rfl rfl rfl rfl (by kernel_rfl) rfl (pv_ung (.s rfl rfl rfl) rfl (u_fa fa_64_2 rfl rfl rfl)) (qp 57 [.o 56, .o 54, .o 47] rfl rfl rfl rfl (by kernel_rfl) rfl (pv_ung (.s rfl rfl rfl) rfl (pv_aidx (i := i) Tryz.underlying61 (.ofC tc_60) (fun hg => ⟨hsi, hi3⟩) (.n rfl) rfl rfl rfl (fun _ => ⟨rfl, rfl⟩))) ?_)
      refine qr 58 [.o 57, .o 47] rfl rfl rfl rfl (by kernel_rfl) rfl (fun He => rv_ung (.s rfl rfl rfl) rfl (q_ldci (i := 8 + i) tc_60 (.n rfl) rfl rfl (fun _ => rfl) (by omega) (mk_cell hi3))) ?_
      refine qp 59 [.o 58, .o 47] rfl rfl rfl rfl (by kernel_rfl) rfl (pv_ung (.s rfl rfl rfl) rfl (u_nil rfl rfl rfl)) (qp 60 [.o 59, .o 47] rfl rfl rfl rfl (by kernel_rfl) rfl (pv_ung (.s rfl rfl rfl) rfl (u_fa fa_83_1 rfl rfl rfl)) (qr 61 [.o 60, .o 47] rfl rfl rfl rfl (by kernel_rfl) rfl (fun He => rv_ung (.s rfl rfl rfl) rfl (u_ldc tc_81 rfl rfl rfl (by rfl))) ?_))
      refine qm_calln (i := 52) [.o 51, .o 47] (by kernel_rfl) (by kernel_rfl) rfl rfl rfl rfl (by kernel_rfl) (by kernel_rfl) ⟨_, .s rfl rfl rfl, rfl⟩ cf_50 rfl (.c rfl .n) (keep_Records_oN _ kb k hK sb kv) fun z2 => ?_
      refine qm_cat ?_
      refine qm_rd z2 fun hrz2 => ?_
      refine qm_keep ?_
      refine qm_q (i := 62) (l := [.o 52, .o 61, .o 47]) rfl rfl rfl rfl (by kernel_rfl) rfl (fun He => rq_ung (.s rfl rfl rfl) rfl (rq_call cf_49 (.n rfl) rfl (.c rfl (fun _ => rfl) (.c rfl (fun _ => rfl) .n)) (fun hg => fnv_tru (ref_SameRecordsM _ _ _ _ k.l k.l hrz2.own hrp.own (by omega))))) ?_
      refine qp 63 [.o 62, .o 47] rfl rfl rfl rfl (by kernel_rfl) rfl (pv_ung (.s rfl rfl rfl) rfl (pv_not (.n rfl) rfl rfl (fun _ => rfl))) ?_
      refine qp 64 [.o 47, .o 63] rfl rfl rfl rfl (by kernel_rfl) rfl (pv_or (.n rfl) rfl rfl rfl (fun _ => ⟨rfl, fun hc => by first | rfl | (rw [hc]; rfl) | simp_all⟩)) ?_
      refine qm_n (by kernel_rfl) (by kernel_rfl) (by kernel_rfl) (by kernel_rfl) (.c 0 rfl (.c 1 rfl (.c 4 rfl (.c 5 rfl (.c 142 rfl .n))))) ?_
      refine r_cond _ rfl (fun h6 => ?_) (fun h6 => ?_)
      ·simp at h6
      ·skip
       refine r_skip (r_end (r_region (p_mv rfl rfl (p_add rfl rfl (by omega) rfl (p_as rfl rfl (o_keep (.c 0 rfl (.c 1 rfl (.c 4 rfl (.c 5 rfl .n)))) ?_))))))
       refine r_back_1 (s + 1) ?_ ?_ (Keep.app (.c 5 rfl .n) (.c 0 rfl (.c 1 rfl (.c 4 rfl .n)))) ?_
       ·exact ⟨by omega, by omega⟩
       ·omega
       ·refine Ent.tr (keepP_close (b := kb) (k := k) sb kv rfl rfl) ?_; refine Ent.tr (clerkP_close (b := cAt c0 c1 c2 i) (k := k) kb rfl) ?_; refine Ent.tr (Ent.mono (SelX.ent (X := restP clerkP [c0, c1, c2] t.ks i))) ?_; refine Ent.tr (many_back (cAt_get hi3) hk3) ?_; refine Ent.tr (boothP_close (b := bb2) (s := k.shop) hv xv dv rfl rfl rfl rfl) ?_; refine Ent.tr (penP_close (b := cAt p0 p1 p2 i) (k := k) bb2 pv rfl rfl) ?_; refine Ent.tr (Ent.mono (SelX.ent (X := restP penP [p0, p1, p2] t.ks i))) ?_; refine Ent.tr (many_back (cAt_get hi3) hk3) ?_; repeat first|exact eR|refine eB ?_|refine eS ?_|refine eN ?_|refine eX ?_|refine eD ?_
   ·skip
    refine r_exit rfl (r_sr (p_as rfl rfl (o_keep (.c 4 rfl .n) ?_)))
    refine r_retv hF rfl (.c (.t rfl) .n) ?_ ?_
    ·refine Ent.catI ?_; refine Ent.tr (marketP_close (b := b) (t := t) lv ov ts p0 p1 p2 bv hts rfl rfl rfl rfl) ?_; refine Ent.c (townP_close bb c0 c1 c2 pb rfl) ?_; repeat first|exact eR|refine eB ?_|refine eS ?_|refine eN ?_|refine eX ?_|refine eD ?_
    ·rfl

end Go.Proofs.YtmakdilmibjpbacGreat
