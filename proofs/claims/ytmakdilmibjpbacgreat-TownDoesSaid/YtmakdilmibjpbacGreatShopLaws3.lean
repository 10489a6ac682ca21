/- The walks of ShopLaws3: written by a program of ours (gen.py) over the engine. -/
import Derived.Test.YtmakdilmibjpbacGreatPlain
import Derived.Test.YtmakdilmibjpbacGreatFacts
import Derived.Test.YtmakdilmibjpbacGreatKeepW2
import Derived.Test.YtmakdilmibjpbacGreatBoothN
import Derived.Test.YtmakdilmibjpbacGreatFun
namespace Go.Proofs.YtmakdilmibjpbacGreat
open Go Go.RowKit
set_option linter.unusedVariables false
set_option linter.unusedSimpArgs false
set_option maxRecDepth 20000

theorem ref_SameRecordsM (M : Amb) (H : List HP) (v u : Value) (l k : List Rec) (hv : Rd M H v 5 (l.map rR)) (hu : Rd M H u 5 (k.map rR)) (hb : l.length ≤ 1000) : FnV Tryz.prog M H 49 [v, u] (.bool (decide (l = k))) := by
 refine fn_intro Tryz.func49 rfl Tryz.ntmps49 rfl fun F hF => ?_
 refine r_sr (p_as rfl rfl (o_keep (.c 0 rfl (.c 1 rfl (.c 4 rfl .n))) (r_seq (r_sr (p_mv rfl rfl (l_op (x_p (pv_lens hv.len ⟨_, Tryz.underlying81⟩ (.n rfl) rfl rfl rfl rfl (fun _ => rfl)) rfl rfl (p_mv rfl rfl ?_))))))))
 refine l_op (x_p (pv_lens hu.len ⟨_, Tryz.underlying81⟩ (.n rfl) rfl rfl rfl rfl (fun _ => rfl)) rfl rfl (p_neq rfl rfl rfl (o_keep (.c 0 rfl (.c 1 rfl (.c 4 rfl (.c 10 rfl .n)))) (r_cond _ rfl (fun h1 => ?_) (fun h1 => ?_)))))
 ·skip
  have hne : l.length ≠ k.length := by simp at h1; omega
  refine r_sr (p_as rfl rfl (o_keep (.c 0 rfl (.c 1 rfl (.c 4 rfl .n))) ?_))
  refine r_retv hF rfl (.c (.t rfl) .n) ?_ ?_
  ·repeat first|exact eR|refine eB ?_|refine eS ?_|refine eN ?_|refine eX ?_|refine eD ?_
  ·exact bool_eq (by rw [decide_eq_false]; intro e; exact hne (by rw [e]))
 ·skip
  have hlen : l.length = k.length := by simp at h1; omega
  refine r_skip (r_seq (r_sr (p_as rfl rfl (o_keep (.c 0 rfl (.c 1 rfl (.c 4 rfl (.c 5 rfl .n)))) (r_block ?_)))))
  refine r_loop_1 (fun (i : Nat) => [(5, true, .int .i64 (i : Int))]) (.c 0 rfl (.c 1 rfl (.c 4 rfl .n))) (fun (i : Nat) => H) (fun (i : Nat) => i ≤ l.length ∧ l.take i = k.take i) (fun (i : Nat) => l.length - i) (0) ?_ (.c 5 rfl .n) ?_ (fun i hI => ?_)
  ·exact ⟨Nat.zero_le _, by simp⟩
  ·repeat first|exact eR|refine eB ?_|refine eS ?_|refine eN ?_|refine eX ?_|refine eD ?_
  ·skip
   obtain ⟨hil, hI⟩ := hI
   refine r_seq (r_sr (p_mv rfl rfl (p_mv rfl rfl (l_op (x_p (pv_lens hv.len ⟨_, Tryz.underlying81⟩ (.n rfl) rfl rfl rfl rfl (fun _ => rfl)) rfl rfl (p_lss rfl rfl rfl (o_keep (.c 0 rfl (.c 1 rfl (.c 4 rfl (.c 5 rfl (.c 14 rfl .n))))) (r_cond _ rfl (fun h2 => ?_) (fun h2 => ?_)))))))))
   ·skip
    have hi : i < l.length := by have := of_decide_eq_true h2; omega
    obtain ⟨x, h1⟩ := getlt hi
    obtain ⟨y, h2⟩ := getlt (l := k) (i := i) (by omega)
    refine r_skip (r_seq (r_block (r_seq ?_)))
    refine r_plan _ [] mo (.c 0 rfl (.c 1 rfl (.c 4 rfl (.c 5 rfl .n)))) Ent.rfl ?_
    refine qp 0 [.k 0] rfl rfl rfl rfl (by kernel_rfl) rfl (u_mv rfl rfl rfl) (qp 1 [.k 5] rfl rfl rfl rfl (by kernel_rfl) rfl (u_mv rfl rfl rfl) (qp 2 [.o 0, .o 1] rfl rfl rfl rfl (by kernel_rfl) rfl (pv_idx Tryz.underlying81 (.ofA ta_133) hv (fun hg => ⟨rfl, (mapget h1)⟩) (.n rfl) rfl rfl rfl (fun _ => ⟨rfl, rfl⟩)) ?_))
    refine qr 3 [.o 2] rfl rfl rfl rfl (by kernel_rfl) rfl (fun He => rv_ldats (j := 0) ta_133 (Rd.ent hv (by repeat (first | exact Ent.rfl | exact Ent.one Ent.h | exact Ent.one (SelS.ent) | exact Ent.nil | exact Ent.left | refine Ent.dropR ?_ | refine Ent.tr Ent.skip ?_))) (fun hg => (mapget h1)) (.n rfl) rfl rfl (fun _ => rfl) rfl (.s (.s (.s (.s (.s .z)))))) ?_
    refine qp 4 [.k 1] rfl rfl rfl rfl (by kernel_rfl) rfl (u_mv rfl rfl rfl) (qp 5 [.k 5] rfl rfl rfl rfl (by kernel_rfl) rfl (u_mv rfl rfl rfl) (qp 6 [.o 4, .o 5] rfl rfl rfl rfl (by kernel_rfl) rfl (pv_idx Tryz.underlying81 (.ofA ta_133) hu (fun hg => ⟨rfl, (mapget h2)⟩) (.n rfl) rfl rfl rfl (fun _ => ⟨rfl, rfl⟩)) ?_))
    refine qr 7 [.o 6] rfl rfl rfl rfl (by kernel_rfl) rfl (fun He => rv_ldats (j := 0) ta_133 (Rd.ent hu (by repeat (first | exact Ent.rfl | exact Ent.one Ent.h | exact Ent.one (SelS.ent) | exact Ent.nil | exact Ent.left | refine Ent.dropR ?_ | refine Ent.tr Ent.skip ?_))) (fun hg => (mapget h2)) (.n rfl) rfl rfl (fun _ => rfl) rfl (.s (.s (.s (.s (.s .z)))))) ?_
    refine qp 8 [.o 3, .o 7] rfl rfl rfl rfl (by kernel_rfl) rfl (pv_ane (eq_Record) (.n rfl) rfl rfl rfl (fun _ => ⟨rfl, rfl⟩)) ?_
    refine qm_n (by kernel_rfl) (by kernel_rfl) (by kernel_rfl) (by kernel_rfl) (.c 0 rfl (.c 1 rfl (.c 4 rfl (.c 5 rfl (.c 25 rfl .n))))) ?_
    refine r_cond _ rfl (fun h3 => ?_) (fun h3 => ?_)
    ·skip
     have hxy : x ≠ y := by simpa using h3
     refine r_sr (p_as rfl rfl (o_keep (.c 0 rfl (.c 1 rfl (.c 4 rfl (.c 5 rfl .n)))) ?_))
     refine r_retv hF rfl (.c (.t rfl) .n) ?_ ?_
     ·repeat first|exact eR|refine eB ?_|refine eS ?_|refine eN ?_|refine eX ?_|refine eD ?_
     ·exact bool_eq (by rw [decide_eq_false (same_ne h1 h2 hxy)])
    ·skip
     obtain rfl : x = y := by simpa using h3
     refine r_skip (r_end (r_region (p_mv rfl rfl (p_add rfl rfl (by omega) rfl (p_as rfl rfl (o_keep (.c 0 rfl (.c 1 rfl (.c 4 rfl (.c 5 rfl .n)))) ?_))))))
     refine r_back_1 (i + 1) ?_ ?_ (Keep.app (.c 5 rfl .n) (.c 0 rfl (.c 1 rfl (.c 4 rfl .n)))) ?_
     ·exact ⟨by omega, same_step hI h1 h2⟩
     ·omega
     ·repeat first|exact eR|refine eB ?_|refine eS ?_|refine eN ?_|refine eX ?_|refine eD ?_
   ·skip
    have hi : l.length ≤ i := by have := of_decide_eq_false h2; omega
    refine r_exit rfl (r_sr (p_as rfl rfl (o_keep (.c 4 rfl .n) ?_)))
    refine r_retv hF rfl (.c (.t rfl) .n) ?_ ?_
    ·repeat first|exact eR|refine eB ?_|refine eS ?_|refine eN ?_|refine eX ?_|refine eD ?_
    ·exact bool_eq (by rw [decide_eq_true (same_fin hlen hI hi)])

end Go.Proofs.YtmakdilmibjpbacGreat
