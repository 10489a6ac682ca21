/- The walks of ClerkLaws: written by a program of ours (gen.py) over the engine. -/
import Derived.Test.YtmakdilmibjpbacPlain
import Derived.Test.YtmakdilmibjpbacFacts
import Derived.Test.YtmakdilmibjpbacClerkW
import Derived.Test.YtmakdilmibjpbacClerkL
import Derived.Test.YtmakdilmibjpbacAnn
import Derived.Test.YtmakdilmibjpbacElt
namespace Go.Proofs.Ytmakdilmibjpbac
open Go Go.RowKit
set_option linter.unusedVariables false
set_option linter.unusedSimpArgs false
set_option maxRecDepth 20000

theorem eq_WantC {a b c d : Int} : EqT Try.prog 29 [.int .i64 a, .int .i64 b] [.int .i64 c, .int .i64 d] (decide (a = c ∧ b = d)) :=
  ⟨Try.eqGuardType29, fun w => by
    rw [show (10000 : Nat) = 9998 + 1 + 1 from rfl, run_equalIn_agg w _ _ _ _ Try.underlying29 Try.stoodInHeld29]
    by_cases h1 : a = c <;> by_cases h2 : b = d <;> simp [Program.fieldsOf, Op.eqFields, part, run_equalIn_int w _ _ _ _ _ _ Try.underlying3, h1, h2]⟩
def ckW : List Int := [0, 0, 10, 20, 0, 0]
def ck0 : KeepS := ⟨1, ckW, ⟨1, ⟨10, 0, 0⟩, ⟨20, 0, 0⟩, [], []⟩, []⟩
def cm1 : Mail := ⟨1, 4, 1, 2, -6, false⟩
def cm2 : Mail := ⟨1, 5, 1, 2, -6, false⟩
def cm3 : Mail := ⟨3, 4, 1, 0, 0, true⟩
def cm4 : Mail := ⟨3, 4, 2, 0, 0, false⟩
def ck1 : KeepS := (ansK ck0 cm1).1
def ck2 : KeepS := (ansK ck1 cm2).1
def ck3 : KeepS := (ansK ck2 cm3).1
def ck4 : KeepS := (ansK ck3 cm4).1
theorem ckI0 : KInv ck0 := (KInv.new (no := 1) (ws := ckW) (k := ck0) rfl).1
theorem ckI1 : KInv ck1 := ckI0.ans _
theorem ckI2 : KInv ck2 := ckI1.ans _
theorem ckI3 : KInv ck3 := ckI2.ans _
theorem ckI4 : KInv ck4 := ckI3.ans _
theorem clerk_New_b (M : Amb) : FnE (α := Nat) Try.prog M 15 [.int .i64 1, .agg (ckW.map vI).toArray] [] (fun x => ptr x) (fun x => [clerkP x ck0]) := clerk_New_some M 1 ckW rfl rfl
theorem clerk_New_x (M : Amb) : FnC Try.prog M 15 [.int .i64 (-1), .agg (([0, 0, 0, 0, 0, 0] : List Int).map vI).toArray] (.pointer Option.none) [] [] := clerk_New_none M (-1) [0, 0, 0, 0, 0, 0] rfl rfl
theorem clerk_again (M : Amb) (b : Nat) (k : KeepS) (hI : KInv k) (m : Mail) (o : Option Mail) (h : ansK k m = (k, o)) : FnC Try.prog M 16 [ptr b, vM m] (.tuple #[vM (o.getD Mail.z0), .bool o.isSome]) [clerkP b k] [clerkP b k] := by
  have := clerk_Answer M b k hI m
  rwa [h] at this

theorem ref_SameRecords (M : Amb) (H : List HP) (v u : Value) (l k : List Rec) (hv : Rd M H v 5 (l.map rR)) (hu : Rd M H u 5 (k.map rR)) (hb : l.length ≤ 1000) : FnV Try.prog M H 21 [v, u] (.bool (decide (l = k))) := by
  refine fn_intro Try.func21 rfl Try.ntmps21 rfl fun F hF => ?_
  refine r_seq ?_
  refine r_region ?_
  refine p_as rfl rfl ?_
  refine o_keep (.c 0 rfl (.c 1 rfl (.c 4 rfl .n))) ?_
  refine r_seq ?_
  refine r_seq ?_
  refine r_region ?_
  refine p_mv rfl rfl ?_
  refine l_op (x_p (pv_lens hv.len ⟨_, Try.underlying42⟩ (.n rfl) rfl rfl rfl rfl (fun _ => rfl)) rfl rfl ?_)
  refine p_mv rfl rfl ?_
  refine l_op (x_p (pv_lens hu.len ⟨_, Try.underlying42⟩ (.n rfl) rfl rfl rfl rfl (fun _ => rfl)) rfl rfl ?_)
  refine p_neq rfl rfl rfl ?_
  refine o_keep (.c 0 rfl (.c 1 rfl (.c 4 rfl (.c 10 rfl .n)))) ?_
  refine r_cond _ rfl (fun h1 => ?_) (fun h1 => ?_)
  · skip
    have hne : l.length ≠ k.length := by simp at h1; omega
    refine r_seq ?_
    refine r_region ?_
    refine p_as rfl rfl ?_
    refine o_keep (.c 0 rfl (.c 1 rfl (.c 4 rfl .n))) ?_
    refine r_retv hF rfl (.c (.t rfl) .n) ?_ ?_
    · first | exact Ent.rfl | (repeat (first | exact Ent.rfl | refine Ent.c (SelB.ent) ?_ | refine Ent.c (SelS.ent) ?_ | refine Ent.cN ?_ | refine Ent.c (SelX.ent) ?_ | refine Ent.dropR ?_))
    · exact bool_eq (by rw [decide_eq_false]; intro e; exact hne (by rw [e]))
  · skip
    have hlen : l.length = k.length := by simp at h1; omega
    refine r_skip ?_
    refine r_seq ?_
    refine r_seq ?_
    refine r_region ?_
    refine p_as rfl rfl ?_
    refine o_keep (.c 0 rfl (.c 1 rfl (.c 4 rfl (.c 5 rfl .n)))) ?_
    refine r_block ?_
    refine r_loop_1 (fun (i : Nat) => [(5, true, .int .i64 (i : Int))]) (.c 0 rfl (.c 1 rfl (.c 4 rfl .n))) (fun (i : Nat) => H) (fun (i : Nat) => i ≤ l.length ∧ l.take i = k.take i) (fun (i : Nat) => l.length - i) (0) ?_ (.c 5 rfl .n) ?_ (fun i hI => ?_)
    · exact ⟨Nat.zero_le _, by simp⟩
    · first | exact Ent.rfl | (repeat (first | exact Ent.rfl | refine Ent.c (SelB.ent) ?_ | refine Ent.c (SelS.ent) ?_ | refine Ent.cN ?_ | refine Ent.c (SelX.ent) ?_ | refine Ent.dropR ?_))
    · skip
      obtain ⟨hil, hI⟩ := hI
      refine r_seq ?_
      refine r_seq ?_
      refine r_region ?_
      refine p_mv rfl rfl ?_
      refine p_mv rfl rfl ?_
      refine l_op (x_p (pv_lens hv.len ⟨_, Try.underlying42⟩ (.n rfl) rfl rfl rfl rfl (fun _ => rfl)) rfl rfl ?_)
      refine p_lss rfl rfl rfl ?_
      refine o_keep (.c 0 rfl (.c 1 rfl (.c 4 rfl (.c 5 rfl (.c 14 rfl .n))))) ?_
      refine r_cond _ rfl (fun h2 => ?_) (fun h2 => ?_)
      · skip
        have hi : i < l.length := by have := of_decide_eq_true h2; omega
        obtain ⟨x, h1⟩ := getlt hi
        obtain ⟨y, h2⟩ := getlt (l := k) (i := i) (by omega)
        refine r_skip ?_
        refine r_seq ?_
        refine r_block ?_
        refine r_seq ?_
        refine r_plan _ [] mo (.c 0 rfl (.c 1 rfl (.c 4 rfl (.c 5 rfl .n)))) Ent.rfl ?_
        refine qm_q (i := 0) (l := [.k 0]) rfl rfl rfl rfl (by kernel_rfl) rfl (fun He => PV.rq (pv_mv (.n rfl) rfl rfl (fun _ => rfl))) ?_
        refine qm_q (i := 1) (l := [.k 5]) rfl rfl rfl rfl (by kernel_rfl) rfl (fun He => PV.rq (pv_mv (.n rfl) rfl rfl (fun _ => rfl))) ?_
        refine qm_q (i := 2) (l := [.o 0, .o 1]) rfl rfl rfl rfl (by kernel_rfl) rfl (fun He => PV.rq (pv_idx Try.underlying42 (.ofA ta_101) hv (fun hg => ⟨rfl, (mapget h1)⟩) (.n rfl) rfl rfl rfl (fun _ => ⟨rfl, rfl⟩))) ?_
        refine qm_q (i := 3) (l := [.o 2]) rfl rfl rfl rfl (by kernel_rfl) rfl (fun He => RV.rq (rv_ldats (j := 0) ta_101 (Rd.ent hv (by repeat (first | exact Ent.rfl | exact Ent.one Ent.h | exact Ent.one (SelS.ent) | exact Ent.nil | exact Ent.left | refine Ent.dropR ?_ | refine Ent.tr Ent.skip ?_))) (fun hg => (mapget h1)) (.n rfl) rfl rfl (fun _ => rfl) rfl (.s (.s (.s (.s (.s .z))))))) ?_
        refine qm_q (i := 4) (l := [.k 1]) rfl rfl rfl rfl (by kernel_rfl) rfl (fun He => PV.rq (pv_mv (.n rfl) rfl rfl (fun _ => rfl))) ?_
        refine qm_q (i := 5) (l := [.k 5]) rfl rfl rfl rfl (by kernel_rfl) rfl (fun He => PV.rq (pv_mv (.n rfl) rfl rfl (fun _ => rfl))) ?_
        refine qm_q (i := 6) (l := [.o 4, .o 5]) rfl rfl rfl rfl (by kernel_rfl) rfl (fun He => PV.rq (pv_idx Try.underlying42 (.ofA ta_101) hu (fun hg => ⟨rfl, (mapget h2)⟩) (.n rfl) rfl rfl rfl (fun _ => ⟨rfl, rfl⟩))) ?_
        refine qm_q (i := 7) (l := [.o 6]) rfl rfl rfl rfl (by kernel_rfl) rfl (fun He => RV.rq (rv_ldats (j := 0) ta_101 (Rd.ent hu (by repeat (first | exact Ent.rfl | exact Ent.one Ent.h | exact Ent.one (SelS.ent) | exact Ent.nil | exact Ent.left | refine Ent.dropR ?_ | refine Ent.tr Ent.skip ?_))) (fun hg => (mapget h2)) (.n rfl) rfl rfl (fun _ => rfl) rfl (.s (.s (.s (.s (.s .z))))))) ?_
        refine qm_q (i := 8) (l := [.o 3, .o 7]) rfl rfl rfl rfl (by kernel_rfl) rfl (fun He => PV.rq (pv_ane (eq_Record) (.n rfl) rfl rfl rfl (fun _ => ⟨rfl, rfl⟩))) ?_
        refine qm_n (by kernel_rfl) (by kernel_rfl) (by kernel_rfl) (by kernel_rfl) (.c 0 rfl (.c 1 rfl (.c 4 rfl (.c 5 rfl (.c 25 rfl .n))))) ?_
        refine r_cond _ rfl (fun h3 => ?_) (fun h3 => ?_)
        · skip
          have hxy : x ≠ y := by simpa using h3
          refine r_seq ?_
          refine r_region ?_
          refine p_as rfl rfl ?_
          refine o_keep (.c 0 rfl (.c 1 rfl (.c 4 rfl (.c 5 rfl .n)))) ?_
          refine r_retv hF rfl (.c (.t rfl) .n) ?_ ?_
          · first | exact Ent.rfl | (repeat (first | exact Ent.rfl | refine Ent.c (SelB.ent) ?_ | refine Ent.c (SelS.ent) ?_ | refine Ent.cN ?_ | refine Ent.c (SelX.ent) ?_ | refine Ent.dropR ?_))
          · exact bool_eq (by rw [decide_eq_false (same_ne h1 h2 hxy)])
        · skip
          obtain rfl : x = y := by simpa using h3
          refine r_skip ?_
          refine r_end ?_
          refine r_region ?_
          refine p_mv rfl rfl ?_
          refine p_add rfl rfl (by omega) rfl ?_
          refine p_as rfl rfl ?_
          refine o_keep (.c 0 rfl (.c 1 rfl (.c 4 rfl (.c 5 rfl .n)))) ?_
          refine r_back_1 (i + 1) ?_ ?_ (Keep.app (.c 5 rfl .n) (.c 0 rfl (.c 1 rfl (.c 4 rfl .n)))) ?_
          · exact ⟨by omega, same_step hI h1 h2⟩
          · omega
          · first | exact Ent.rfl | (repeat (first | exact Ent.rfl | refine Ent.c (SelB.ent) ?_ | refine Ent.c (SelS.ent) ?_ | refine Ent.cN ?_ | refine Ent.c (SelX.ent) ?_ | refine Ent.dropR ?_))
      · skip
        have hi : l.length ≤ i := by have := of_decide_eq_false h2; omega
        refine r_exit rfl ?_
        refine r_seq ?_
        refine r_region ?_
        refine p_as rfl rfl ?_
        refine o_keep (.c 4 rfl .n) ?_
        refine r_retv hF rfl (.c (.t rfl) .n) ?_ ?_
        · first | exact Ent.rfl | (repeat (first | exact Ent.rfl | refine Ent.c (SelB.ent) ?_ | refine Ent.c (SelS.ent) ?_ | refine Ent.cN ?_ | refine Ent.c (SelX.ent) ?_ | refine Ent.dropR ?_))
        · exact bool_eq (by rw [decide_eq_true (same_fin hlen hI hi)])

theorem law_clerkBegun (M : Amb) (H : List HP)  : FnV Try.prog M H 14 [] (.bool true) := by
  refine fn_intro Try.func14 rfl Try.ntmps14 rfl fun F hF => ?_
  refine r_seq ?_
  refine r_region ?_
  refine p_as rfl rfl ?_
  refine o_keep (.c 0 rfl .n) ?_
  refine r_seq ?_
  refine r_region ?_
  refine l_op (x_p (pv_buildA zr_23 Try.underlying23 (.ofC tc_3) (.n rfl) rfl (.c rfl (fun _ => rfl) rfl rfl (by repeat constructor) (.c rfl (fun _ => rfl) rfl rfl (by repeat constructor) .n))) rfl rfl ?_)
  refine p_calle cf_15 (.c rfl (.c rfl .n)) rfl (clerk_New_b _) fun b1 => ?_
  refine o_cat ?_
  refine p_as rfl rfl ?_
  refine o_keep (.c 0 rfl (.c 1 rfl .n)) ?_
  refine r_seq ?_
  refine r_seq ?_
  refine r_region ?_
  refine p_mv rfl rfl ?_
  refine l_op (x_p (pv_peqn Try.underlying26 (.n rfl) rfl rfl rfl (fun _ => ⟨rfl, rfl⟩)) rfl rfl ?_)
  refine p_mv rfl rfl ?_
  refine l_op (x_p (pv_buildA zr_23 Try.underlying23 (.ofC tc_3) (.s rfl rfl rfl) rfl (.n)) rfl rfl ?_)
  refine l_op (x_q (rq_call cf_15 (.s rfl rfl rfl) rfl (.c rfl (by first | exact fun _ => rfl | exact id | exact fun h => (Bool.and_eq_true_iff.1 h).1 | simp_all) (.c rfl (by first | exact fun _ => rfl | exact id | exact fun h => (Bool.and_eq_true_iff.1 h).1 | simp_all) .n)) (fun hg => (clerk_New_x _).q)) rfl rfl ?_)
  refine l_op (x_p (pv_pnen Try.underlying26 (.s rfl rfl rfl) rfl rfl rfl (by refine fun h => ⟨?_, ?_⟩ <;> first | rfl | exact h | exact (Bool.and_eq_true_iff.1 h).1 | simp_all)) rfl rfl ?_)
  refine l_op (x_p (pv_or (.n rfl) rfl rfl rfl (fun _ => ⟨rfl, fun hc => by first | rfl | (rw [hc]; rfl) | simp_all⟩)) rfl rfl ?_)
  refine o_keep (.c 0 rfl (.c 1 rfl (.c 19 rfl .n))) ?_
  refine r_cond _ rfl (fun h1 => ?_) (fun h1 => ?_)
  · simp at h1
  · skip
    refine r_skip ?_
    refine r_seq ?_
    refine r_region ?_
    refine p_build zr_29 pl_29 (.c rfl (fun _ => rfl) rfl rfl rfl (by repeat constructor) (.c rfl (fun _ => rfl) rfl rfl rfl (by repeat constructor) .n)) rfl ?_
    refine p_alloc zr_29 rfl fun b2 => ?_
    refine p_store (.ofA ta_29) rfl rfl rfl rfl rfl (by repeat constructor) ?_
    refine o_keep (.c 0 rfl (.c 1 rfl (.c 2 rfl .n))) ?_
    refine r_seq ?_
    refine r_region ?_
    refine p_mv rfl rfl ?_
    refine p_lda ta_29 rfl (by exact (.s (.s .z))) rfl ?_
    refine p_build zr_31 pl_31 (.c rfl (fun _ => rfl) rfl rfl rfl (by repeat constructor) (.c rfl (fun _ => rfl) rfl rfl rfl (by repeat constructor) (.c rfl (fun _ => rfl) rfl rfl rfl (by repeat constructor) (.c rfl (fun _ => rfl) rfl rfl rfl (by repeat constructor) .n)))) rfl ?_
    refine p_callc cf_16 (.c rfl (.c rfl .n)) rfl (clerk_Answer _ b1 ck0 ckI0 cm1) ?_
    refine p_mv rfl rfl ?_
    refine p_ext rfl rfl rfl ?_
    refine p_ext rfl rfl rfl ?_
    refine p_alloc zr_31 rfl fun b3 => ?_
    refine p_store (.ofA ta_31) rfl rfl rfl (by first | rfl | exact rfl) (by first | rfl | exact rfl) (Ins.whole (by first | rfl | (simp only [List.length_map, List.length_cons, List.length_nil]; omega) | (simp [*]; done) | (simp [*]; rfl))) ?_
    refine p_as rfl rfl ?_
    refine o_keep (.c 0 rfl (.c 1 rfl (.c 2 rfl (.c 3 rfl (.c 4 rfl .n))))) ?_
    refine r_ent (show Ent _ (blk _ _ _ :: clerkP b1 ck1 :: _) from Ent.rfl) ?_
    refine r_seq ?_
    refine r_region ?_
    refine p_mv rfl rfl ?_
    refine p_lda ta_29 rfl (by exact (.s (.s .z))) rfl ?_
    refine p_build zr_31 pl_31 (.c rfl (fun _ => rfl) rfl rfl rfl (by repeat constructor) (.c rfl (fun _ => rfl) rfl rfl rfl (by repeat constructor) (.c rfl (fun _ => rfl) rfl rfl rfl (by repeat constructor) (.c rfl (fun _ => rfl) rfl rfl rfl (by repeat constructor) .n)))) rfl ?_
    refine p_callc cf_16 (.c rfl (.c rfl .n)) rfl (clerk_Answer _ b1 ck1 ckI1 cm2) ?_
    refine p_mv rfl rfl ?_
    refine p_ext rfl rfl rfl ?_
    refine p_ext rfl rfl rfl ?_
    refine p_alloc zr_31 rfl fun b5 => ?_
    refine p_store (.ofA ta_31) rfl rfl rfl (by first | rfl | exact rfl) (by first | rfl | exact rfl) (Ins.whole (by first | rfl | (simp only [List.length_map, List.length_cons, List.length_nil]; omega) | (simp [*]; done) | (simp [*]; rfl))) ?_
    refine p_as rfl rfl ?_
    refine o_keep (.c 0 rfl (.c 1 rfl (.c 2 rfl (.c 3 rfl (.c 4 rfl (.c 5 rfl (.c 6 rfl .n))))))) ?_
    refine r_ent (show Ent _ (blk _ _ _ :: clerkP b1 ck2 :: _) from Ent.rfl) ?_
    refine r_seq ?_
    refine r_region ?_
    refine p_mv rfl rfl ?_
    refine p_build zr_31 pl_31 (.c rfl (fun _ => rfl) rfl rfl rfl (by repeat constructor) (.c rfl (fun _ => rfl) rfl rfl rfl (by repeat constructor) (.c rfl (fun _ => rfl) rfl rfl rfl (by repeat constructor) (.c rfl (fun _ => rfl) rfl rfl rfl (by repeat constructor) .n)))) rfl ?_
    refine p_callc cf_16 (.c rfl (.c rfl .n)) rfl (clerk_Answer _ b1 ck2 ckI2 cm3) ?_
    refine p_mv rfl rfl ?_
    refine p_ext rfl rfl rfl ?_
    refine p_ext rfl rfl rfl ?_
    refine p_alloc zr_31 rfl fun b7 => ?_
    refine p_store (.ofA ta_31) rfl rfl rfl (by first | rfl | exact rfl) (by first | rfl | exact rfl) (Ins.whole (by first | rfl | (simp only [List.length_map, List.length_cons, List.length_nil]; omega) | (simp [*]; done) | (simp [*]; rfl))) ?_
    refine p_as rfl rfl ?_
    refine o_keep (.c 0 rfl (.c 1 rfl (.c 2 rfl (.c 3 rfl (.c 4 rfl (.c 5 rfl (.c 6 rfl (.c 7 rfl (.c 8 rfl .n))))))))) ?_
    refine r_ent (show Ent _ (blk _ _ _ :: clerkP b1 ck3 :: _) from Ent.rfl) ?_
    refine r_seq ?_
    refine r_region ?_
    refine p_mv rfl rfl ?_
    refine p_build zr_31 pl_31 (.c rfl (fun _ => rfl) rfl rfl rfl (by repeat constructor) (.c rfl (fun _ => rfl) rfl rfl rfl (by repeat constructor) (.c rfl (fun _ => rfl) rfl rfl rfl (by repeat constructor) .n))) rfl ?_
    refine p_callc cf_16 (.c rfl (.c rfl .n)) rfl (clerk_Answer _ b1 ck3 ckI3 cm4) ?_
    refine p_mv rfl rfl ?_
    refine p_ext rfl rfl rfl ?_
    refine p_ext rfl rfl rfl ?_
    refine p_alloc zr_31 rfl fun b9 => ?_
    refine p_store (.ofA ta_31) rfl rfl rfl (by first | rfl | exact rfl) (by first | rfl | exact rfl) (Ins.whole (by first | rfl | (simp only [List.length_map, List.length_cons, List.length_nil]; omega) | (simp [*]; done) | (simp [*]; rfl))) ?_
    refine p_as rfl rfl ?_
    refine o_keep (.c 0 rfl (.c 1 rfl (.c 2 rfl (.c 3 rfl (.c 4 rfl (.c 5 rfl (.c 6 rfl (.c 7 rfl (.c 8 rfl (.c 10 rfl .n)))))))))) ?_
    refine r_ent (show Ent _ (blk _ _ _ :: clerkP b1 ck4 :: _) from Ent.rfl) ?_
    refine r_seq ?_
    refine r_sel (clerkP b1 ck4) ?_
    refine r_ex fun kb => ?_
    refine r_cat ?_
    refine r_sel (keepP kb ck4) ?_
    refine r_ex2 fun sb lv => ?_
    refine r_cat ?_
    refine r_rd lv fun hrl => ?_
    refine r_region ?_
    refine p_mv rfl rfl ?_
    refine p_mv rfl rfl ?_
    refine o_split (t := 48) rfl (fun g2 => ?_) (fun g2 => ?_)
    · skip
      refine o_g (.s rfl rfl rfl) rfl ?_
      refine p_mv rfl rfl ?_
      refine l_op (x_p (pv_and (.n rfl) rfl rfl rfl (fun _ => ⟨rfl, fun hc => by first | rfl | (rw [hc]; rfl) | simp_all⟩)) rfl rfl ?_)
      refine p_mv rfl rfl ?_
      refine o_split (t := 51) rfl (fun g3 => ?_) (fun g3 => ?_)
      · skip
        refine o_g (.s rfl rfl rfl) rfl ?_
        refine p_mv rfl rfl ?_
        refine l_op (x_p (pv_and (.n rfl) rfl rfl rfl (fun _ => ⟨rfl, fun hc => by first | rfl | (rw [hc]; rfl) | simp_all⟩)) rfl rfl ?_)
        refine p_mv rfl rfl ?_
        refine o_split (t := 54) rfl (fun g4 => ?_) (fun g4 => ?_)
        · skip
          refine o_g (.s rfl rfl rfl) rfl ?_
          refine p_mv rfl rfl ?_
          refine o_g (.s rfl rfl rfl) rfl ?_
          refine p_not rfl rfl ?_
          refine l_op (x_p (pv_and (.n rfl) rfl rfl rfl (fun _ => ⟨rfl, fun hc => by first | rfl | (rw [hc]; rfl) | simp_all⟩)) rfl rfl ?_)
          refine p_mv rfl rfl ?_
          refine o_split (t := 58) rfl (fun g5 => ?_) (fun g5 => ?_)
          · skip
            refine o_g (.s rfl rfl rfl) rfl ?_
            refine p_fa fa_31_0 rfl rfl ?_
            refine o_g (.s rfl rfl rfl) rfl ?_
            refine p_ldc tc_3 rfl (by rfl) rfl ?_
            refine o_g (.s rfl rfl rfl) rfl ?_
            refine p_eql rfl rfl rfl ?_
            refine l_op (x_p (pv_and (.n rfl) rfl rfl rfl (fun _ => ⟨rfl, fun hc => by first | rfl | (rw [hc]; rfl) | simp_all⟩)) rfl rfl ?_)
            refine p_mv rfl rfl ?_
            refine o_split (t := 63) rfl (fun g6 => ?_) (fun g6 => ?_)
            · skip
              refine o_g (.s rfl rfl rfl) rfl ?_
              refine p_fa fa_31_4 rfl rfl ?_
              refine o_g (.s rfl rfl rfl) rfl ?_
              refine p_ldc tc_4 rfl (by rfl) rfl ?_
              refine l_op (x_p (pv_and (.n rfl) rfl rfl rfl (fun _ => ⟨rfl, fun hc => by first | rfl | (rw [hc]; rfl) | simp_all⟩)) rfl rfl ?_)
              refine p_mv rfl rfl ?_
              refine o_split (t := 67) rfl (fun g7 => ?_) (fun g7 => ?_)
              · skip
                refine o_g (.s rfl rfl rfl) rfl ?_
                refine p_fa fa_31_3 rfl rfl ?_
                refine o_g (.s rfl rfl rfl) rfl ?_
                refine p_lda ta_29 rfl (by exact (.s (.s .z))) rfl ?_
                refine o_g (.s rfl rfl rfl) rfl ?_
                refine p_lda ta_29 rfl (by exact (.s (.s .z))) rfl ?_
                refine o_g (.s rfl rfl rfl) rfl ?_
                refine l_op (x_p (pv_aeq (eq_WantC) (.n rfl) rfl rfl rfl (fun _ => ⟨rfl, rfl⟩)) rfl rfl ?_)
                refine l_op (x_p (pv_and (.n rfl) rfl rfl rfl (fun _ => ⟨rfl, fun hc => by first | rfl | (rw [hc]; rfl) | simp_all⟩)) rfl rfl ?_)
                refine p_mv rfl rfl ?_
                refine o_split (t := 73) rfl (fun g8 => ?_) (fun g8 => ?_)
                · skip
                  refine o_g (.s rfl rfl rfl) rfl ?_
                  refine p_fa fa_31_4 rfl rfl ?_
                  refine o_g (.s rfl rfl rfl) rfl ?_
                  refine p_ldc tc_4 rfl (by rfl) rfl ?_
                  refine o_g (.s rfl rfl rfl) rfl ?_
                  refine p_not rfl rfl ?_
                  refine l_op (x_p (pv_and (.n rfl) rfl rfl rfl (fun _ => ⟨rfl, fun hc => by first | rfl | (rw [hc]; rfl) | simp_all⟩)) rfl rfl ?_)
                  refine p_mv rfl rfl ?_
                  refine o_split (t := 78) rfl (fun g9 => ?_) (fun g9 => ?_)
                  · skip
                    refine o_g (.s rfl rfl rfl) rfl ?_
                    refine p_fa fa_31_0 rfl rfl ?_
                    refine o_g (.s rfl rfl rfl) rfl ?_
                    refine p_ldc tc_3 rfl (by rfl) rfl ?_
                    refine o_g (.s rfl rfl rfl) rfl ?_
                    refine p_eql rfl rfl rfl ?_
                    refine l_op (x_p (pv_and (.n rfl) rfl rfl rfl (fun _ => ⟨rfl, fun hc => by first | rfl | (rw [hc]; rfl) | simp_all⟩)) rfl rfl ?_)
                    refine p_mv rfl rfl ?_
                    refine o_split (t := 83) rfl (fun g10 => ?_) (fun g10 => ?_)
                    · skip
                      refine o_g (.s rfl rfl rfl) rfl ?_
                      refine p_fa fa_31_4 rfl rfl ?_
                      refine o_g (.s rfl rfl rfl) rfl ?_
                      refine p_ldc tc_4 rfl (by rfl) rfl ?_
                      refine l_op (x_p (pv_and (.n rfl) rfl rfl rfl (fun _ => ⟨rfl, fun hc => by first | rfl | (rw [hc]; rfl) | simp_all⟩)) rfl rfl ?_)
                      refine p_mv rfl rfl ?_
                      refine o_split (t := 87) rfl (fun g11 => ?_) (fun g11 => ?_)
                      · skip
                        refine o_g (.s rfl rfl rfl) rfl ?_
                        refine p_mv rfl rfl ?_
                        refine o_g (.s rfl rfl rfl) rfl ?_
                        refine p_nil rfl rfl ?_
                        refine o_g (.s rfl rfl rfl) rfl ?_
                        refine p_fa fa_40_0 rfl rfl ?_
                        refine o_g (.s rfl rfl rfl) rfl ?_
                        refine p_ldc tc_38 rfl (by rfl) rfl ?_
                        refine o_g (.s rfl rfl rfl) rfl ?_
                        refine p_nil rfl rfl ?_
                        refine o_g (.s rfl rfl rfl) rfl ?_
                        refine p_fa fa_44_0 rfl rfl ?_
                        refine o_g (.s rfl rfl rfl) rfl ?_
                        refine p_ldc tc_41 rfl (by rfl) rfl ?_
                        refine o_g (.s rfl rfl rfl) rfl ?_
                        refine p_callv cf_17 (.c rfl .n) rfl ((shop_Counts _ sb ck4.shop).q) ?_
                        refine o_g (.s rfl rfl rfl) rfl ?_
                        refine l_op (x_p (pv_index (i := 0) Try.underlying36 ta_35 (fun hg => ⟨rfl, by decide⟩) (.n rfl) rfl rfl rfl (fun _ => ⟨rfl, rfl⟩) (fun hg => rfl)) rfl rfl ?_)
                        refine o_g (.s rfl rfl rfl) rfl ?_
                        refine l_op (x_p (pv_field Try.underlying35 rfl tc_3 (.n rfl) rfl rfl rfl (fun _ => rfl)) rfl rfl ?_)
                        refine o_g (.s rfl rfl rfl) rfl ?_
                        refine p_eql rfl rfl rfl ?_
                        refine l_op (x_p (pv_and (.n rfl) rfl rfl rfl (fun _ => ⟨rfl, fun hc => by first | rfl | (rw [hc]; rfl) | simp_all⟩)) rfl rfl ?_)
                        refine p_mv rfl rfl ?_
                        refine o_split (t := 100) rfl (fun g12 => ?_) (fun g12 => ?_)
                        · skip
                          refine o_g (.s rfl rfl rfl) rfl ?_
                          refine p_mv rfl rfl ?_
                          refine o_g (.s rfl rfl rfl) rfl ?_
                          refine p_nil rfl rfl ?_
                          refine o_g (.s rfl rfl rfl) rfl ?_
                          refine p_fa fa_40_0 rfl rfl ?_
                          refine o_g (.s rfl rfl rfl) rfl ?_
                          refine p_ldc tc_38 rfl (by rfl) rfl ?_
                          refine o_g (.s rfl rfl rfl) rfl ?_
                          refine p_calle cf_19 (.c rfl .n) rfl (keep_Records_o _ kb ck4 ckI4 sb lv) fun rv => ?_
                          refine o_cat ?_
                          refine o_rd rv fun hrr => ?_
                          refine o_g (.s rfl rfl rfl) rfl ?_
                          refine l_op (x_p (pv_lens (Rd.len hrr) ⟨_, Try.underlying42⟩ (.n rfl) rfl rfl rfl rfl (fun _ => rfl)) rfl rfl ?_)
                          refine o_g (.s rfl rfl rfl) rfl ?_
                          refine p_eql rfl rfl rfl ?_
                          refine l_op (x_p (pv_and (.n rfl) rfl rfl rfl (fun _ => ⟨rfl, fun hc => by first | rfl | (rw [hc]; rfl) | simp_all⟩)) rfl rfl ?_)
                          refine p_as rfl rfl ?_
                          refine o_keep (.c 0 rfl .n) ?_
                          refine r_retv hF rfl (.c (.t rfl) .n) ?_ ?_
                          · first | exact Ent.rfl | (repeat (first | exact Ent.rfl | refine Ent.c (SelB.ent) ?_ | refine Ent.c (SelS.ent) ?_ | refine Ent.cN ?_ | refine Ent.c (SelX.ent) ?_ | refine Ent.dropR ?_))
                          · exact bool_eq (by decide +kernel)
                        · exact absurd g12 (by decide +kernel)
                      · exact absurd g11 (by decide +kernel)
                    · exact absurd g10 (by decide +kernel)
                  · exact absurd g9 (by decide +kernel)
                · exact absurd g8 (by decide +kernel)
              · exact absurd g7 (by decide +kernel)
            · exact absurd g6 (by decide +kernel)
          · exact absurd g5 (by decide +kernel)
        · exact absurd g4 (by decide +kernel)
      · exact absurd g3 (by decide +kernel)
    · exact absurd g2 (by decide +kernel)

end Go.Proofs.Ytmakdilmibjpbac
