/- The walks of BrokLaws: written by a program of ours (gen.py) over the engine. -/
import Derived.Test.YtmakdilmibjpbabPlain
import Derived.Test.YtmakdilmibjpbabFacts
import Derived.Test.YtmakdilmibjpbabBrokW2
namespace Go.Proofs.Ytmakdilmibjpbab
open Go Go.RowKit
set_option linter.unusedVariables false
set_option linter.unusedSimpArgs false
set_option maxRecDepth 20000

def bkW : List Want := [⟨0, -1⟩, ⟨4, 1⟩]
def bk1 : BrokS := (beginB brk0 bkW).1
def bk2 : BrokS := hearB bk1 ⟨2, 0, 0, 0, -1, true⟩
def bk3 : BrokS := hearB bk2 ⟨2, 0, 2, 4, 1, true⟩
def bk4 : BrokS := hearB bk3 ⟨4, 0, 0, 0, 0, true⟩
theorem bkI1 : BInv bk1 := BInv.new.begin _
theorem bkI2 : BInv bk2 := bkI1.hear _
theorem bkI3 : BInv bk3 := bkI2.hear _
theorem bkI4 : BInv bk4 := bkI3.hear _
theorem bkD2 : dueB bk2 = [⟨1, 0, 2, 4, 1, false⟩] := by decide +kernel
theorem bkD3 : dueB bk3 = [⟨3, 0, 0, 0, 0, true⟩, ⟨3, 0, 2, 0, 0, true⟩] := by decide +kernel

theorem law_brokerBegun (M : Amb) (H : List HP)  : FnV Try.prog M H 14 [] (.bool true) := by
  refine fn_intro Try.func14 rfl Try.ntmps14 rfl fun F hF => ?_
  refine r_seq ?_
  refine r_region ?_
  refine p_as rfl rfl ?_
  refine o_keep (.c 0 rfl .n) ?_
  refine r_seq ?_
  refine r_region ?_
  refine p_calle cf_15 (.n) rfl (broker_New _) fun b1 => ?_
  refine o_cat ?_
  refine p_as rfl rfl ?_
  refine o_keep (.c 0 rfl (.c 1 rfl .n)) ?_
  refine r_seq ?_
  refine r_seq ?_
  refine r_region ?_
  refine p_mv rfl rfl ?_
  refine l_op (x_p (pv_peqn Try.underlying26 (.n rfl) rfl rfl rfl (fun _ => ⟨rfl, rfl⟩)) rfl rfl ?_)
  refine o_keep (.c 0 rfl (.c 1 rfl (.c 10 rfl .n))) ?_
  refine r_cond _ rfl (fun h1 => ?_) (fun h1 => ?_)
  · simp at h1
  · skip
    refine r_skip ?_
    refine r_seq ?_
    refine r_region ?_
    refine p_build zr_35 pl_35 (.c rfl (fun _ => rfl) rfl rfl rfl (by repeat constructor) (.c rfl (fun _ => rfl) rfl rfl rfl (by repeat constructor) .n)) rfl ?_
    refine p_build zr_35 pl_35 (.c rfl (fun _ => rfl) rfl rfl rfl (by repeat constructor) (.c rfl (fun _ => rfl) rfl rfl rfl (by repeat constructor) .n)) rfl ?_
    refine p_bslice2 Try.underlying22 (.ofA ta_35) zr_35 rfl rfl rfl rfl rfl rfl rfl rfl rfl rfl rfl fun b13 => ?_
    refine p_as rfl rfl ?_
    refine o_keep (.c 0 rfl (.c 1 rfl (.c 2 rfl .n))) ?_
    refine r_seq ?_
    refine r_ent (Ent.slOf (b := b13) (nn := 2) rfl) ?_
    refine r_rd (.slice (some ⟨b13, 0, Option.none⟩) 2 2) fun hl0 => ?_
    have hl := hl0.to (rows' := bkW.map rW) rfl
    refine r_sel (brokP b1 brk0) ?_
    have hv : Rd M (sl (.slice (some ⟨b13, 0, Option.none⟩) 2 2) 35 2 (bkW.map rW) :: H) (.slice (some ⟨b13, 0, Option.none⟩) 2 2) 2 (bkW.map rW) := hl.ent (Ent.one Ent.h)
    refine r_region ?_
    refine p_mv rfl rfl ?_
    refine p_mv rfl rfl ?_
    refine p_call cf_16 (.c rfl (.c rfl .n)) rfl (broker_Begin _ b1 brk0 BInv.new _ _ bkW hv (by decide)) ?_
    rintro _ _ ⟨rfl, rfl⟩
    refine p_mv rfl rfl ?_
    refine p_ext rfl rfl rfl ?_
    refine p_ext rfl rfl rfl ?_
    refine p_as rfl rfl ?_
    refine p_as rfl rfl ?_
    refine o_keep (.c 0 rfl (.c 1 rfl (.c 2 rfl (.c 3 rfl (.c 4 rfl .n))))) ?_
    refine r_ent (show Ent _ (brokP b1 bk1 :: _) from Ent.rfl) ?_
    refine r_seq ?_
    refine r_region ?_
    refine p_mv rfl rfl ?_
    refine p_calle cf_41 (.c rfl .n) rfl (broker_Due _ b1 bk1 bkI1) fun dv5 => ?_
    refine o_cat ?_
    refine o_rd dv5 fun hd5 => ?_
    refine p_as rfl rfl ?_
    refine o_keep (.c 0 rfl (.c 1 rfl (.c 2 rfl (.c 3 rfl (.c 4 rfl (.c 5 rfl .n)))))) ?_
    refine r_seq ?_
    refine r_region ?_
    refine p_mv rfl rfl ?_
    refine p_mv rfl rfl ?_
    refine p_idx Try.underlying22 (.ofA ta_35) hl rfl (show (bkW.map rW)[0]? = some [.int .i64 0, .int .i64 (-1)] from rfl) rfl rfl rfl ?_
    refine p_ldats 0 ta_35 (Rd.ent hl (by repeat (first | exact Ent.rfl | exact Ent.one Ent.h | exact Ent.one (SelS.ent) | exact Ent.nil | exact Ent.left | refine Ent.dropR ?_ | refine Ent.tr Ent.skip ?_))) (show (bkW.map rW)[0]? = some [.int .i64 0, .int .i64 (-1)] from rfl) rfl rfl (.s (.s .z)) rfl ?_
    refine p_build zr_37 pl_37 (.c rfl (fun _ => rfl) rfl rfl rfl (by repeat constructor) (.c rfl (fun _ => rfl) rfl rfl rfl (by repeat constructor) (.c rfl (fun _ => rfl) rfl rfl rfl (by repeat constructor) (.c rfl (fun _ => rfl) rfl rfl rfl (by repeat constructor) .n)))) rfl ?_
    refine p_callc cf_18 (.c rfl (.c rfl .n)) rfl (broker_Hear _ b1 bk1 bkI1 ⟨2, 0, 0, 0, -1, true⟩) ?_
    refine o_keep (.c 0 rfl (.c 1 rfl (.c 2 rfl (.c 3 rfl (.c 4 rfl (.c 5 rfl .n)))))) ?_
    refine r_ent (show Ent _ (brokP b1 bk2 :: _) from Ent.rfl) ?_
    refine r_seq ?_
    refine r_region ?_
    refine p_mv rfl rfl ?_
    refine p_calle cf_41 (.c rfl .n) rfl (broker_Due _ b1 bk2 bkI2) fun dv6 => ?_
    refine o_cat ?_
    rw [bkD2]
    refine o_rd dv6 fun hd6 => ?_
    refine p_as rfl rfl ?_
    refine o_keep (.c 0 rfl (.c 1 rfl (.c 2 rfl (.c 3 rfl (.c 4 rfl (.c 5 rfl (.c 6 rfl .n))))))) ?_
    refine r_seq ?_
    refine r_region ?_
    refine p_mv rfl rfl ?_
    refine p_mv rfl rfl ?_
    refine p_idx Try.underlying22 (.ofA ta_35) hl rfl (show (bkW.map rW)[1]? = some [.int .i64 4, .int .i64 1] from rfl) rfl rfl rfl ?_
    refine p_ldats 0 ta_35 (Rd.ent hl (by repeat (first | exact Ent.rfl | exact Ent.one Ent.h | exact Ent.one (SelS.ent) | exact Ent.nil | exact Ent.left | refine Ent.dropR ?_ | refine Ent.tr Ent.skip ?_))) (show (bkW.map rW)[1]? = some [.int .i64 4, .int .i64 1] from rfl) rfl rfl (.s (.s .z)) rfl ?_
    refine p_build zr_37 pl_37 (.c rfl (fun _ => rfl) rfl rfl rfl (by repeat constructor) (.c rfl (fun _ => rfl) rfl rfl rfl (by repeat constructor) (.c rfl (fun _ => rfl) rfl rfl rfl (by repeat constructor) (.c rfl (fun _ => rfl) rfl rfl rfl (by repeat constructor) .n)))) rfl ?_
    refine p_callc cf_18 (.c rfl (.c rfl .n)) rfl (broker_Hear _ b1 bk2 bkI2 ⟨2, 0, 2, 4, 1, true⟩) ?_
    refine o_keep (.c 0 rfl (.c 1 rfl (.c 3 rfl (.c 4 rfl (.c 5 rfl (.c 6 rfl .n)))))) ?_
    refine r_ent (show Ent _ (brokP b1 bk3 :: _) from Ent.rfl) ?_
    refine r_seq ?_
    refine r_region ?_
    refine p_mv rfl rfl ?_
    refine p_calle cf_41 (.c rfl .n) rfl (broker_Due _ b1 bk3 bkI3) fun dv7 => ?_
    refine o_cat ?_
    rw [bkD3]
    refine o_rd dv7 fun hd7 => ?_
    refine p_as rfl rfl ?_
    refine o_keep (.c 0 rfl (.c 1 rfl (.c 3 rfl (.c 4 rfl (.c 5 rfl (.c 6 rfl (.c 7 rfl .n))))))) ?_
    refine r_seq ?_
    refine r_region ?_
    refine p_mv rfl rfl ?_
    refine p_build zr_37 pl_37 (.c rfl (fun _ => rfl) rfl rfl rfl (by repeat constructor) (.c rfl (fun _ => rfl) rfl rfl rfl (by repeat constructor) (.c rfl (fun _ => rfl) rfl rfl rfl (by repeat constructor) .n))) rfl ?_
    refine p_callc cf_18 (.c rfl (.c rfl .n)) rfl (broker_Hear _ b1 bk3 bkI3 ⟨4, 0, 0, 0, 0, true⟩) ?_
    refine o_keep (.c 0 rfl (.c 1 rfl (.c 3 rfl (.c 4 rfl (.c 5 rfl (.c 6 rfl (.c 7 rfl .n))))))) ?_
    refine r_ent (show Ent _ (brokP b1 bk4 :: _) from Ent.rfl) ?_
    refine r_seq ?_
    refine r_region ?_
    refine p_mv rfl rfl ?_
    refine p_eql rfl rfl rfl ?_
    refine p_mv rfl rfl ?_
    refine o_split (t := 43) rfl (fun g2 => ?_) (fun g2 => ?_)
    · skip
      refine o_g (.s rfl rfl rfl) rfl ?_
      refine p_mv rfl rfl ?_
      refine o_g (.s rfl rfl rfl) rfl ?_
      refine p_eql rfl rfl rfl ?_
      refine l_op (x_p (pv_and (.n rfl) rfl rfl rfl (fun _ => ⟨rfl, fun hc => by first | rfl | (rw [hc]; rfl) | simp_all⟩)) rfl rfl ?_)
      refine p_mv rfl rfl ?_
      refine o_split (t := 47) rfl (fun g3 => ?_) (fun g3 => ?_)
      · skip
        refine o_g (.s rfl rfl rfl) rfl ?_
        refine p_mv rfl rfl ?_
        refine o_g (.s rfl rfl rfl) rfl ?_
        refine l_op (x_p (pv_lens (Rd.len hd5) ⟨_, Try.underlying83⟩ (.n rfl) rfl rfl rfl rfl (fun _ => rfl)) rfl rfl ?_)
        refine o_g (.s rfl rfl rfl) rfl ?_
        refine p_eql rfl rfl rfl ?_
        refine l_op (x_p (pv_and (.n rfl) rfl rfl rfl (fun _ => ⟨rfl, fun hc => by first | rfl | (rw [hc]; rfl) | simp_all⟩)) rfl rfl ?_)
        refine p_mv rfl rfl ?_
        refine o_split (t := 52) rfl (fun g4 => ?_) (fun g4 => ?_)
        · skip
          refine o_g (.s rfl rfl rfl) rfl ?_
          refine p_mv rfl rfl ?_
          refine o_g (.s rfl rfl rfl) rfl ?_
          refine l_op (x_p (pv_lens (Rd.len hd6) ⟨_, Try.underlying83⟩ (.n rfl) rfl rfl rfl rfl (fun _ => rfl)) rfl rfl ?_)
          refine o_g (.s rfl rfl rfl) rfl ?_
          refine p_eql rfl rfl rfl ?_
          refine l_op (x_p (pv_and (.n rfl) rfl rfl rfl (fun _ => ⟨rfl, fun hc => by first | rfl | (rw [hc]; rfl) | simp_all⟩)) rfl rfl ?_)
          refine p_mv rfl rfl ?_
          refine o_split (t := 57) rfl (fun g5 => ?_) (fun g5 => ?_)
          · skip
            refine o_g (.s rfl rfl rfl) rfl ?_
            refine p_mv rfl rfl ?_
            refine o_g (.s rfl rfl rfl) rfl ?_
            refine p_idx Try.underlying83 (.ofA ta_37) hd6 rfl (show (([⟨1, 0, 2, 4, 1, false⟩] : List Mail).map rM)[0]? = some [.int .i64 1, .int .i64 0, .int .i64 2, .int .i64 4, .int .i64 1, .bool false] from rfl) rfl rfl rfl ?_
            refine o_g (.s rfl rfl rfl) rfl ?_
            refine p_faat fa_37_0 (Rd.sh hd6 (show (([⟨1, 0, 2, 4, 1, false⟩] : List Mail).map rM)[0]? = some [.int .i64 1, .int .i64 0, .int .i64 2, .int .i64 4, .int .i64 1, .bool false] from rfl)) rfl rfl ?_
            refine o_g (.s rfl rfl rfl) rfl ?_
            refine p_ldat 0 tc_3 (Rd.ent hd6 (by repeat (first | exact Ent.rfl | exact Ent.one Ent.h | exact Ent.one (SelS.ent) | exact Ent.nil | exact Ent.left | refine Ent.dropR ?_ | refine Ent.tr Ent.skip ?_))) (show (([⟨1, 0, 2, 4, 1, false⟩] : List Mail).map rM)[0]? = some [.int .i64 1, .int .i64 0, .int .i64 2, .int .i64 4, .int .i64 1, .bool false] from rfl) rfl rfl rfl rfl ?_
            refine o_g (.s rfl rfl rfl) rfl ?_
            refine p_eql rfl rfl rfl ?_
            refine l_op (x_p (pv_and (.n rfl) rfl rfl rfl (fun _ => ⟨rfl, fun hc => by first | rfl | (rw [hc]; rfl) | simp_all⟩)) rfl rfl ?_)
            refine p_mv rfl rfl ?_
            refine o_split (t := 64) rfl (fun g6 => ?_) (fun g6 => ?_)
            · skip
              refine o_g (.s rfl rfl rfl) rfl ?_
              refine p_mv rfl rfl ?_
              refine o_g (.s rfl rfl rfl) rfl ?_
              refine p_idx Try.underlying83 (.ofA ta_37) hd6 rfl (show (([⟨1, 0, 2, 4, 1, false⟩] : List Mail).map rM)[0]? = some [.int .i64 1, .int .i64 0, .int .i64 2, .int .i64 4, .int .i64 1, .bool false] from rfl) rfl rfl rfl ?_
              refine o_g (.s rfl rfl rfl) rfl ?_
              refine p_faat fa_37_2 (Rd.sh hd6 (show (([⟨1, 0, 2, 4, 1, false⟩] : List Mail).map rM)[0]? = some [.int .i64 1, .int .i64 0, .int .i64 2, .int .i64 4, .int .i64 1, .bool false] from rfl)) rfl rfl ?_
              refine o_g (.s rfl rfl rfl) rfl ?_
              refine p_ldat 2 tc_3 (Rd.ent hd6 (by repeat (first | exact Ent.rfl | exact Ent.one Ent.h | exact Ent.one (SelS.ent) | exact Ent.nil | exact Ent.left | refine Ent.dropR ?_ | refine Ent.tr Ent.skip ?_))) (show (([⟨1, 0, 2, 4, 1, false⟩] : List Mail).map rM)[0]? = some [.int .i64 1, .int .i64 0, .int .i64 2, .int .i64 4, .int .i64 1, .bool false] from rfl) rfl rfl rfl rfl ?_
              refine o_g (.s rfl rfl rfl) rfl ?_
              refine p_eql rfl rfl rfl ?_
              refine l_op (x_p (pv_and (.n rfl) rfl rfl rfl (fun _ => ⟨rfl, fun hc => by first | rfl | (rw [hc]; rfl) | simp_all⟩)) rfl rfl ?_)
              refine p_mv rfl rfl ?_
              refine o_split (t := 71) rfl (fun g7 => ?_) (fun g7 => ?_)
              · skip
                refine o_g (.s rfl rfl rfl) rfl ?_
                refine p_mv rfl rfl ?_
                refine o_g (.s rfl rfl rfl) rfl ?_
                refine l_op (x_p (pv_lens (Rd.len hd7) ⟨_, Try.underlying83⟩ (.n rfl) rfl rfl rfl rfl (fun _ => rfl)) rfl rfl ?_)
                refine o_g (.s rfl rfl rfl) rfl ?_
                refine p_eql rfl rfl rfl ?_
                refine l_op (x_p (pv_and (.n rfl) rfl rfl rfl (fun _ => ⟨rfl, fun hc => by first | rfl | (rw [hc]; rfl) | simp_all⟩)) rfl rfl ?_)
                refine p_mv rfl rfl ?_
                refine o_split (t := 76) rfl (fun g8 => ?_) (fun g8 => ?_)
                · skip
                  refine o_g (.s rfl rfl rfl) rfl ?_
                  refine p_mv rfl rfl ?_
                  refine o_g (.s rfl rfl rfl) rfl ?_
                  refine p_idx Try.underlying83 (.ofA ta_37) hd7 rfl (show (([⟨3, 0, 0, 0, 0, true⟩, ⟨3, 0, 2, 0, 0, true⟩] : List Mail).map rM)[0]? = some [.int .i64 3, .int .i64 0, .int .i64 0, .int .i64 0, .int .i64 0, .bool true] from rfl) rfl rfl rfl ?_
                  refine o_g (.s rfl rfl rfl) rfl ?_
                  refine p_faat fa_37_0 (Rd.sh hd7 (show (([⟨3, 0, 0, 0, 0, true⟩, ⟨3, 0, 2, 0, 0, true⟩] : List Mail).map rM)[0]? = some [.int .i64 3, .int .i64 0, .int .i64 0, .int .i64 0, .int .i64 0, .bool true] from rfl)) rfl rfl ?_
                  refine o_g (.s rfl rfl rfl) rfl ?_
                  refine p_ldat 0 tc_3 (Rd.ent hd7 (by repeat (first | exact Ent.rfl | exact Ent.one Ent.h | exact Ent.one (SelS.ent) | exact Ent.nil | exact Ent.left | refine Ent.dropR ?_ | refine Ent.tr Ent.skip ?_))) (show (([⟨3, 0, 0, 0, 0, true⟩, ⟨3, 0, 2, 0, 0, true⟩] : List Mail).map rM)[0]? = some [.int .i64 3, .int .i64 0, .int .i64 0, .int .i64 0, .int .i64 0, .bool true] from rfl) rfl rfl rfl rfl ?_
                  refine o_g (.s rfl rfl rfl) rfl ?_
                  refine p_eql rfl rfl rfl ?_
                  refine l_op (x_p (pv_and (.n rfl) rfl rfl rfl (fun _ => ⟨rfl, fun hc => by first | rfl | (rw [hc]; rfl) | simp_all⟩)) rfl rfl ?_)
                  refine p_mv rfl rfl ?_
                  refine o_split (t := 83) rfl (fun g9 => ?_) (fun g9 => ?_)
                  · skip
                    refine o_g (.s rfl rfl rfl) rfl ?_
                    refine p_mv rfl rfl ?_
                    refine o_g (.s rfl rfl rfl) rfl ?_
                    refine p_idx Try.underlying83 (.ofA ta_37) hd7 rfl (show (([⟨3, 0, 0, 0, 0, true⟩, ⟨3, 0, 2, 0, 0, true⟩] : List Mail).map rM)[0]? = some [.int .i64 3, .int .i64 0, .int .i64 0, .int .i64 0, .int .i64 0, .bool true] from rfl) rfl rfl rfl ?_
                    refine o_g (.s rfl rfl rfl) rfl ?_
                    refine p_faat fa_37_4 (Rd.sh hd7 (show (([⟨3, 0, 0, 0, 0, true⟩, ⟨3, 0, 2, 0, 0, true⟩] : List Mail).map rM)[0]? = some [.int .i64 3, .int .i64 0, .int .i64 0, .int .i64 0, .int .i64 0, .bool true] from rfl)) rfl rfl ?_
                    refine o_g (.s rfl rfl rfl) rfl ?_
                    refine p_ldat 5 tc_4 (Rd.ent hd7 (by repeat (first | exact Ent.rfl | exact Ent.one Ent.h | exact Ent.one (SelS.ent) | exact Ent.nil | exact Ent.left | refine Ent.dropR ?_ | refine Ent.tr Ent.skip ?_))) (show (([⟨3, 0, 0, 0, 0, true⟩, ⟨3, 0, 2, 0, 0, true⟩] : List Mail).map rM)[0]? = some [.int .i64 3, .int .i64 0, .int .i64 0, .int .i64 0, .int .i64 0, .bool true] from rfl) rfl rfl rfl rfl ?_
                    refine l_op (x_p (pv_and (.n rfl) rfl rfl rfl (fun _ => ⟨rfl, fun hc => by first | rfl | (rw [hc]; rfl) | simp_all⟩)) rfl rfl ?_)
                    refine p_mv rfl rfl ?_
                    refine o_split (t := 89) rfl (fun g10 => ?_) (fun g10 => ?_)
                    · skip
                      refine o_g (.s rfl rfl rfl) rfl ?_
                      refine p_mv rfl rfl ?_
                      refine o_g (.s rfl rfl rfl) rfl ?_
                      refine p_calle cf_41 (.c rfl .n) rfl (broker_Due _ b1 bk4 bkI4) fun dv8 => ?_
                      refine o_cat ?_
                      refine o_rd dv8 fun hd8 => ?_
                      refine o_g (.s rfl rfl rfl) rfl ?_
                      refine l_op (x_p (pv_lens (Rd.len hd8) ⟨_, Try.underlying83⟩ (.n rfl) rfl rfl rfl rfl (fun _ => rfl)) rfl rfl ?_)
                      refine o_g (.s rfl rfl rfl) rfl ?_
                      refine p_eql rfl rfl rfl ?_
                      refine l_op (x_p (pv_and (.n rfl) rfl rfl rfl (fun _ => ⟨rfl, fun hc => by first | rfl | (rw [hc]; rfl) | simp_all⟩)) rfl rfl ?_)
                      refine p_mv rfl rfl ?_
                      refine o_split (t := 95) rfl (fun g11 => ?_) (fun g11 => ?_)
                      · skip
                        refine o_g (.s rfl rfl rfl) rfl ?_
                        refine p_mv rfl rfl ?_
                        refine o_g (.s rfl rfl rfl) rfl ?_
                        refine p_callv cf_21 (.c rfl (.c rfl .n)) rfl ((broker_State _ b1 bk4 bkI4 0).q) ?_
                        refine o_g (.s rfl rfl rfl) rfl ?_
                        refine p_eql rfl rfl rfl ?_
                        refine l_op (x_p (pv_and (.n rfl) rfl rfl rfl (fun _ => ⟨rfl, fun hc => by first | rfl | (rw [hc]; rfl) | simp_all⟩)) rfl rfl ?_)
                        refine p_mv rfl rfl ?_
                        refine o_split (t := 100) rfl (fun g12 => ?_) (fun g12 => ?_)
                        · skip
                          refine o_g (.s rfl rfl rfl) rfl ?_
                          refine p_mv rfl rfl ?_
                          refine o_g (.s rfl rfl rfl) rfl ?_
                          refine p_calle cf_22 (.c rfl .n) rfl (broker_Done _ b1 bk4 bkI4 (by have := bkI4.ord_le; omega)) fun dv9 => ?_
                          refine o_cat ?_
                          refine o_rd dv9 fun hd9 => ?_
                          refine o_g (.s rfl rfl rfl) rfl ?_
                          refine p_bslice1 Try.underlying23 (.ofC tc_3) zr_3 rfl rfl rfl rfl rfl rfl rfl fun b103 => ?_
                          refine o_g (.s rfl rfl rfl) rfl ?_
                          refine p_callv cf_39 (.c rfl (.c rfl .n)) rfl (ref_SameInts _ _ _ _ bk4.order [0] hd9.own (Rd.blit rfl rfl) (by have := bkI4.ord_le; omega)) ?_
                          refine l_op (x_p (pv_and (.n rfl) rfl rfl rfl (fun _ => ⟨rfl, fun hc => by first | rfl | (rw [hc]; rfl) | simp_all⟩)) rfl rfl ?_)
                          refine p_mv rfl rfl ?_
                          refine o_split (t := 106) rfl (fun g13 => ?_) (fun g13 => ?_)
                          · skip
                            refine o_g (.s rfl rfl rfl) rfl ?_
                            refine p_mv rfl rfl ?_
                            refine o_g (.s rfl rfl rfl) rfl ?_
                            refine p_callv cf_21 (.c rfl (.c rfl .n)) rfl ((broker_State _ b1 bk4 bkI4 1).q) ?_
                            refine o_g (.s rfl rfl rfl) rfl ?_
                            refine p_eql rfl rfl rfl ?_
                            refine l_op (x_p (pv_and (.n rfl) rfl rfl rfl (fun _ => ⟨rfl, fun hc => by first | rfl | (rw [hc]; rfl) | simp_all⟩)) rfl rfl ?_)
                            refine p_mv rfl rfl ?_
                            refine o_split (t := 111) rfl (fun g14 => ?_) (fun g14 => ?_)
                            · skip
                              refine o_g (.s rfl rfl rfl) rfl ?_
                              refine p_mv rfl rfl ?_
                              refine o_g (.s rfl rfl rfl) rfl ?_
                              refine p_callc cf_58 (.c rfl (.c rfl .n)) rfl (broker_Quit _ b1 bk4 bkI4 0 (by have := bkI4.ord_le; omega)) ?_
                              refine o_g (.s rfl rfl rfl) rfl ?_
                              refine p_eql rfl rfl rfl ?_
                              refine l_op (x_p (pv_and (.n rfl) rfl rfl rfl (fun _ => ⟨rfl, fun hc => by first | rfl | (rw [hc]; rfl) | simp_all⟩)) rfl rfl ?_)
                              refine p_mv rfl rfl ?_
                              refine o_split (t := 116) rfl (fun g15 => ?_) (fun g15 => ?_)
                              · skip
                                refine o_g (.s rfl rfl rfl) rfl ?_
                                refine p_mv rfl rfl ?_
                                refine o_g (.s rfl rfl rfl) rfl ?_
                                refine p_callv cf_17 (.c rfl .n) rfl ((broker_Len _ b1 (quitB bk4 0).1 (bkI4.quit 0)).q) ?_
                                refine o_g (.s rfl rfl rfl) rfl ?_
                                refine p_eql rfl rfl rfl ?_
                                refine l_op (x_p (pv_and (.n rfl) rfl rfl rfl (fun _ => ⟨rfl, fun hc => by first | rfl | (rw [hc]; rfl) | simp_all⟩)) rfl rfl ?_)
                                refine p_as rfl rfl ?_
                                refine o_keep (.c 0 rfl .n) ?_
                                refine r_retv hF rfl (.c (.t rfl) .n) ?_ ?_
                                · first | exact Ent.rfl | (repeat (first | exact Ent.rfl | refine Ent.c (SelB.ent) ?_ | refine Ent.c (SelS.ent) ?_ | refine Ent.cN ?_ | refine Ent.c (SelX.ent) ?_ | refine Ent.dropR ?_))
                                · exact bool_eq (by decide +kernel)
                              · exact absurd g15 (by decide +kernel)
                            · exact absurd g14 (by decide +kernel)
                          · exact absurd g13 (by decide +kernel)
                        · exact absurd g12 (by decide +kernel)
                      · exact absurd g11 (by decide +kernel)
                    · exact absurd g10 (by decide +kernel)
                  · exact absurd g9 (by decide +kernel)
                · exact absurd g8 (by decide +kernel)
              · exact absurd g7 (by decide +kernel)
            · exact absurd g6 (by decide +kernel)
          · exact absurd g5 (by decide +kernel)
        · exact absurd g4 (by decide +kernel)
      · exact absurd g3 (by decide +kernel)
    · exact absurd g2 (by decide +kernel)

end Go.Proofs.Ytmakdilmibjpbab
