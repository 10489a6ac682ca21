/- One deal alone, in plain Lean. No program in sight. -/
import Derived.Test.YtmakdilmibjpbacTlaws
namespace Go.Proofs.Ytmakdilmibjpbac
open Go Go.RowKit
set_option linter.unusedVariables false
set_option linter.unusedSimpArgs false
/-! ### One alone -/
/-- A deal that was begun when all was calm: n, the last. -/
structure OneB (t0 t : TownS) (l : List Want) (n : Nat) : Prop where
  len : t.b.l.length = n + 1
  w : wantsB t.b n = l
  w0 : ∀ m, m ≠ (n : Int) → wantsB t.b m = wantsB t0.b m
  dec : ∀ (m : Nat) d, m < n → t.b.l[m]? = some d → d.state ≠ 0
  ord : t.b.order = if stateB t.b n = 1 then t0.b.order ++ [(n : Int)] else t0.b.order
  ws : t.ws = t0.ws
theorem deliver_ws (u : TownS) : (deliverT u 0).1.ws = u.ws := by
  unfold deliverT
  split
  · rfl
  · split
    · rfl
    · split
      · rfl
      · split <;> rfl
theorem OneB.deliver {t0 t : TownS} {l : List Want} {n : Nat} (hI : TInv t) (h : OneB t0 t l n) (hp : 0 < t.post.length) : OneB t0 (deliverT t 0).1 l n := by
  obtain ⟨m, hm, hmk, hC⟩ := hI.delC hp
  have hws := deliver_ws t
  generalize (deliverT t 0).1 = t' at hC hws
  cases hC with
  | hear k =>
    refine ⟨(hear_len _ _).trans h.len, (hear_wants hI.b m n).trans h.w, fun q hq => (hear_wants hI.b m q).trans (h.w0 q hq), fun q d' hq hd' => ?_, ?_, hws.trans h.ws⟩
    · have hlt : q < t.b.l.length := by have := h.len; omega
      obtain ⟨d2, e1, e2, e3⟩ := hear_l hI.b m (List.getElem?_eq_getElem hlt)
      have hd' : (hearB t.b m).l[q]? = some d' := hd'
      rw [hd'] at e1; cases e1
      have h0 := h.dec q _ hq (List.getElem?_eq_getElem hlt)
      by_cases hne : (q : Int) = m.deal
      · rw [(e3 hne).st h0]; exact h0
      · rw [e2 hne]; exact h0
    · show (hearB t.b m).order = if stateB (hearB t.b m) n = 1 then _ else _
      have hlt : n < t.b.l.length := by have := h.len; omega
      obtain ⟨d2, e1, e2, e3⟩ := hear_l hI.b m (List.getElem?_eq_getElem hlt)
      rcases hear_ord t.b m with ⟨ho, hst⟩ | ⟨h0, hs0, ho, hs1⟩
      · rw [ho, h.ord]
        by_cases h1 : stateB t.b n = 1
        · rw [if_pos h1, if_pos]
          rw [stateB_at (List.getElem?_eq_getElem hlt)] at h1
          rw [stateB_at e1]
          by_cases hne : (n : Int) = m.deal
          · rw [(e3 hne).st (by omega)]; exact h1
          · rw [e2 hne]; exact h1
        · rw [if_neg h1, if_neg (fun h => h1 (hst _ h))]
      · have hmn : m.deal = n := by
          rcases hI.b.st m.deal with ⟨q, _⟩ | ⟨q1, q2, _⟩
          · omega
          · obtain ⟨d, hd, e⟩ := stateB_in (b := t.b) q1 q2
            by_cases hlt' : m.deal.toNat < n
            · exact absurd (by omega) (h.dec _ d hlt' hd)
            · have := h.len; omega
        rw [hmn] at hs0 hs1 ho
        rw [ho, if_pos hs1, h.ord, if_neg (by omega)]
  | ans => exact ⟨h.len, h.w, h.w0, h.dec, h.ord, hws.trans h.ws⟩
theorem OneB.begun {t : TownS} (h : CalmS t) {l : List Want} (hc : (beginB t.b l).2.2 = 0) : OneB t { t with b := (beginB t.b l).1 } l t.b.l.length ∧ (checkL l).code = 0 ∧ stateB (beginB t.b l).1 t.b.l.length = 0 ∧ (beginB t.b l).1 = ⟨t.b.l ++ [⟨l, 0, noYes l, []⟩], t.b.order⟩ := by
  unfold beginB at hc ⊢
  by_cases h1 : (checkL l).code ≠ 0
  · rw [if_pos h1] at hc; exact absurd hc h1
  · rw [if_neg h1] at hc ⊢
    by_cases h8 : 8 ≤ t.b.l.length
    · rw [if_pos h8] at hc; cases hc
    · rw [if_neg h8]
      have hx : (t.b.l ++ [(⟨l, 0, noYes l, []⟩ : Deal)])[t.b.l.length]? = some ⟨l, 0, noYes l, []⟩ := by simp
      have hst : stateB ⟨t.b.l ++ [⟨l, 0, noYes l, []⟩], t.b.order⟩ t.b.l.length = 0 := stateB_at (b := ⟨t.b.l ++ [⟨l, 0, noYes l, []⟩], t.b.order⟩) hx
      refine ⟨⟨by simp, wantsB_at (b := ⟨t.b.l ++ [⟨l, 0, noYes l, []⟩], t.b.order⟩) hx, fun m hm => ?_, fun m d hm hd => ?_, ?_, rfl⟩, by omega, hst, rfl⟩
      · unfold wantsB
        dsimp only
        split
        · rfl
        · rcases Nat.lt_or_ge m.toNat t.b.l.length with h1 | h1
          · rw [List.getElem?_append_left h1]
          · rw [List.getElem?_eq_none (l := t.b.l) h1, List.getElem?_eq_none (by simp; omega)]
      · have hd : (t.b.l ++ [(⟨l, 0, noYes l, []⟩ : Deal)])[m]? = some d := hd
        rw [List.getElem?_append_left hm] at hd
        exact h.dec d (List.mem_of_getElem? hd)
      · show t.b.order = if stateB ⟨t.b.l ++ [⟨l, 0, noYes l, []⟩], t.b.order⟩ t.b.l.length = 1 then _ else _
        rw [hst, if_neg (by omega)]
/-- Whether it can be done or not: what it comes to, as it is decided. -/
theorem OneB.fin {t0 t : TownS} {l : List Want} {n : Nat} (hI0 : CalmS t0) (h0 : t0.b.l.length = n) (hC : CalmS t) (h : OneB t0 t l n) :
    (stateB t.b n = 2 ∧ worldT t = worldT t0) ∨ (stateB t.b n = 1 ∧ (applyL (worldT t0) l).2.code = 0 ∧ worldT t = (applyL (worldT t0) l).1) := by
  have hs := hC.serial
  have hs0 := hI0.serial
  have hold : ∀ m ∈ t0.b.order, wantsB t.b m = wantsB t0.b m := fun m hm => h.w0 m fun e => by
    have := (hI0.inv.b.ord m).1 hm
    rw [e, stateB_out (by omega)] at this
    omega
  have hd := hC.st (n := (n : Int)) (by omega) (by have := h.len; omega)
  have base : serialL t.b t.ws t0.b.order = (worldT t0, 0) := by
    rw [serialL_same (b := t0.b) _ _ hold, h.ws]; exact hs0
  rcases hd with h1 | h2
  · refine .inr ⟨h1, ?_⟩
    have ho := h.ord
    rw [if_pos h1] at ho
    have : serialL t.b t.ws (t0.b.order ++ [(n : Int)]) = (worldT t, 0) := by rw [← ho]; exact hs
    by_cases hc : (applyL (worldT t0) l).2.code = 0
    · rw [serialL_app _ _ _ base (by rw [h.w]; exact hc), h.w] at this
      simp only [Prod.mk.injEq] at this
      exact ⟨hc, this.1.symm⟩
    · exfalso
      have bad : ∀ (k : List Int) (ws v : List Int), serialL t.b ws k = (v, 0) → (applyL v (wantsB t.b n)).2.code ≠ 0 → (serialL t.b ws (k ++ [(n : Int)])).2 ≠ 0 := by
        intro k
        induction k with
        | nil =>
          intro ws v e e2
          simp only [serialL, Prod.mk.injEq] at e
          simp only [List.nil_append, serialL]
          rw [e.1, if_pos e2]; exact e2
        | cons m k ih =>
          intro ws v e e2
          simp only [List.cons_append, serialL] at e ⊢
          split
          · rename_i h3; exact h3
          · rename_i h3
            rw [if_neg h3] at e
            exact ih _ _ e e2
      exact bad _ _ _ base (by rw [h.w]; exact hc) (by rw [this])
  · refine .inl ⟨h2, ?_⟩
    have ho := h.ord
    rw [if_neg (by omega)] at ho
    have : serialL t.b t.ws t0.b.order = (worldT t, 0) := by rw [← ho]; exact hs
    rw [base] at this
    simp only [Prod.mk.injEq] at this
    exact this.1.symm
/-- Where it can be done, nobody says no. -/
structure OneY (t0 t : TownS) (l : List Want) (n : Nat) : Prop where
  b : OneB t0 t l n
  n2 : stateB t.b n ≠ 2
  own : ∀ (s : Nat) k, t.ks[s]? = some k → ∀ h ∈ k.shop.holds, h.deal = n
  val : stateB t.b n = 0 → ∀ c : Nat, c < 6 → ∃ k, t.ks[c / 2]? = some k ∧ valS k.shop c = (worldT t0).getD c 0
  mail : ∀ m ∈ t.post, (m.kind = 1 → m.deal = n) ∧ (m.kind = 2 → m.deal = n ∧ (stateB t.b n = 0 → m.yes = true))
theorem sumH_none {c d : Int} : ∀ {l : List Hld}, (∀ h ∈ l, h.deal ≠ d) → sumH c d l = 0
  | [], _ => rfl
  | h :: l, hh => by
    simp only [sumH]
    rw [if_neg (fun e => hh h (by simp) e.2), sumH_none (l := l) (fun x hx => hh x (by simp [hx]))]; rfl
theorem outH_none {c : Int} : ∀ {l : List Hld}, (∀ h ∈ l, h.ctr ≠ c) → outH c l = 0 ∧ inH c l = 0
  | [], _ => ⟨rfl, rfl⟩
  | h :: l, hh => by
    have := outH_none (c := c) (l := l) (fun x hx => hh x (by simp [hx]))
    simp only [outH, inH]
    rw [if_neg (fun e => hh h (by simp) e.1), if_neg (fun e => hh h (by simp) e.1), this.1, this.2]; exact ⟨rfl, rfl⟩
theorem hldE {x : Hld} {d c l : Int} (h1 : x.deal = d) (h2 : x.ctr = c) (h3 : x.dl = l) : x = ⟨d, c, l⟩ := by subst h1 h2 h3; rfl
theorem cntE {x : Cnt} (h1 : x.o = 0) (h2 : x.i = 0) : x = ⟨x.v, 0, 0⟩ := by
  obtain ⟨v, o, i⟩ := x
  have h1 : o = 0 := h1
  have h2 : i = 0 := h2
  subst h1 h2; rfl
theorem OneY.deliver {t0 t : TownS} {l : List Want} {n : Nat} (hf : FitsA (worldT t0) l) (hI : TInv t) (h : OneY t0 t l n) (hp : 0 < t.post.length) : OneY t0 (deliverT t 0).1 l n := by
  have hb := h.b.deliver hI hp
  obtain ⟨m, hm, hmk, hC⟩ := hI.delC hp
  have hmm := h.mail m (List.mem_of_getElem? hm)
  have hlt : n < t.b.l.length := by have := h.b.len; omega
  generalize (deliverT t 0).1 = t' at hC hb
  cases hC with
  | hear k =>
    obtain ⟨d2, e1, e2, e3⟩ := hear_l hI.b m (List.getElem?_eq_getElem hlt)
    have hst := stateB_at (b := t.b) (List.getElem?_eq_getElem hlt)
    have hst' := stateB_at (b := hearB t.b m) e1
    have hz : stateB (hearB t.b m) n = 0 → stateB t.b n = 0 := fun h0 => by
      rw [hst'] at h0; rw [hst]
      by_cases hne : (n : Int) = m.deal
      · exact ((e3 hne).z h0).1
      · rw [e2 hne] at h0; exact h0
    refine ⟨hb, ?_, h.own, fun h0 => h.val (hz h0), fun x hx => ?_⟩
    · show stateB (hearB t.b m) n ≠ 2
      intro hc
      have hn2 := h.n2
      rw [hst'] at hc; rw [hst] at hn2
      by_cases hne : (n : Int) = m.deal
      · have hr := e3 hne
        by_cases h0 : t.b.l[n].state = 0
        · exact hn2 (hr.y2 (fun hk => (hmm.2 hk).2 (by rw [hst]; exact h0)) hc)
        · exact hn2 ((hr.st h0).symm.trans hc)
      · rw [e2 hne] at hc; exact hn2 hc
    · obtain ⟨a, b⟩ := h.mail x (take_mem hx)
      exact ⟨a, fun hk => ⟨(b hk).1, fun h0 => (b hk).2 (hz h0)⟩⟩
  | ans k y hk ha hy =>
    obtain ⟨k1, k2, k3⟩ := hI.k _ k hk
    obtain ⟨s0, s3⟩ := hmk.shop0 hI
    have hki := (List.getElem?_eq_some_iff.1 hk).1
    have hno : k.no = m.shop := by omega
    rcases hy with ⟨hk1, ey⟩ | ⟨hk3, ey⟩
    · have hdn : m.deal = n := hmm.1 hk1
      have ea : ansK k m = ((doK k ⟨1, m.deal, m.ctr, m.dl, false⟩).1, some { m with kind := 2, yes := decide ((doK k ⟨1, m.deal, m.ctr, m.dl, false⟩).2 = 0) }) := by
        unfold ansK; rw [if_neg (by omega), if_pos hk1]
      rw [ea] at ha hb ⊢
      have hw : (⟨m.ctr, m.dl⟩ : Want) ∈ wantsB t.b m.deal := by
        cases hmk with
        | ask _ w => exact w
        | say k' => omega
        | end' k' => omega
        | over k' => omega
      have hsh : m.shop = shopOf m.ctr := by
        cases hmk with
        | ask _ _ s => exact s
        | say k' => omega
        | end' k' => omega
        | over k' => omega
      obtain ⟨hwok, _, _, hwf⟩ := hI.b.wok hw
      obtain ⟨q1, q2⟩ := doK_hold k m.deal m.ctr m.dl
      have hcases := holdS_cases k.shop m.deal ⟨m.ctr, m.dl⟩
      have hr := shopOf_rng hwf
      dsimp only at hr
      have hshn : k.shop.no = m.shop := k1.no.trans hno
      -- while it is open the hold is done
      have hyes : stateB t.b n = 0 → (holdS k.shop m.deal ⟨m.ctr, m.dl⟩).2 = 0 := fun h0 => by
        have hov : overL k.shop.over m.deal = none := by
          cases ho : overL k.shop.over m.deal with
          | none => rfl
          | some c =>
            exfalso
            have := (hI.ost _ k hk _ _ ho).1
            rw [hdn] at this
            rcases this with h | h <;> omega
        have hrange := hI.b.wok hw
        unfold holdS
        rw [if_neg (by omega), if_neg (by simpa using hwf), if_neg (by dsimp only; omega), hov, if_neg (by simp)]
        cases hsc : scanH k.shop.holds ⟨m.deal, m.ctr, m.dl⟩ with
        | some c =>
          rcases scanH_cases hsc with ⟨rfl, _⟩ | ⟨_, x, hx, hsame, hne⟩
          · rfl
          · exfalso
            have hxw := hI.hin _ k hk x hx
            rw [show x.deal = m.deal from hsame.1] at hxw
            obtain ⟨i, hi, e⟩ := List.mem_iff_getElem.1 hxw
            obtain ⟨j, hj, e'⟩ := List.mem_iff_getElem.1 hw
            have hij : i = j := by
              have hlt : i < ((wantsB t.b m.deal).map (·.ctr)).length := by rw [List.length_map]; exact hi
              refine (List.getElem?_inj hlt hwok.2).1 ?_
              rw [List.getElem?_map, List.getElem?_map, List.getElem?_eq_getElem hi, List.getElem?_eq_getElem hj, e, e']
              simp [hsame.2]
            subst hij
            rw [e] at e'
            have e2 : x.ctr = m.ctr ∧ x.dl = m.dl := by simpa using e'
            have hd : x.deal = m.deal := hsame.1
            exact hne (hldE hd e2.1 e2.2)
        | none =>
          dsimp only
          have hns := scanH_none.1 hsc
          have hno' : ∀ x ∈ k.shop.holds, x.ctr ≠ m.ctr := fun x hx e => hns x hx ⟨(h.own _ k hk x hx).trans hdn.symm, e⟩
          obtain ⟨z1, z2⟩ := outH_none hno'
          obtain ⟨kc, hkc, hv⟩ := h.val h0 m.ctr.toNat (by omega)
          rw [show m.ctr.toNat / 2 = m.shop.toNat by omega, hk] at hkc
          cases hkc
          have hfw := hf ⟨m.ctr, m.dl⟩ (by rw [← h.b.w, ← hdn]; exact hw)
          dsimp only at hfw
          rw [← hv] at hfw
          have hcnt : k.shop.cnt (m.ctr % 2) = ⟨valS k.shop (m.ctr.toNat : Int), 0, 0⟩ := by
            unfold ShopS.cnt valS
            by_cases e : m.ctr % 2 = 0
            · rw [if_pos e, if_pos (by omega)]
              have a := k1.sh.o0; have b := k1.sh.i0
              rw [show 2 * k.shop.no = m.ctr by omega] at a b
              rw [z1] at a; rw [z2] at b
              exact cntE a b
            · rw [if_neg e, if_neg (by omega)]
              have a := k1.sh.o1; have b := k1.sh.i1
              rw [show 2 * k.shop.no + 1 = m.ctr by omega] at a b
              rw [z1] at a; rw [z2] at b
              exact cntE a b
          have hdl : dlt m.dl = 0 := (want_ctr hwf rfl).2.2.2
          have hck : chk ⟨valS k.shop (m.ctr.toNat : Int), 0, 0⟩ = 0 := chk_of (by omega)
          rw [hcnt]
          have hd := dlt_ok hdl
          rw [if_neg]
          by_cases hneg : m.dl < 0
          · rw [hold_neg hck hdl hneg (by dsimp only; omega)]; simp
          · rw [hold_pos hck hdl (by omega) (by dsimp only; omega)]; simp
      refine ⟨hb, h.n2, fun s q hq x hx => ?_, fun h0 c hc => ?_, fun x hx => ?_⟩
      · rcases list_set_get hq with ⟨rfl, rfl⟩ | ⟨_, hq⟩
        · dsimp only at hx
          rw [q1] at hx
          rcases hcases with ⟨_, e⟩ | ⟨_, _, _, _, _, _, hc⟩
          · rw [e] at hx; exact h.own _ k hk x hx
          · rcases hc with ⟨_, e⟩ | ⟨_, _, e⟩
            · rw [e] at hx; exact h.own _ k hk x hx
            · rw [e] at hx
              rcases List.mem_append.1 hx with hx | hx
              · exact h.own _ k hk x hx
              · simp at hx; subst hx; exact hdn
        · exact h.own s q hq x hx
      · obtain ⟨kc, hkc, hv⟩ := h.val h0 c hc
        by_cases e : c / 2 = m.shop.toNat
        · rw [e, hk] at hkc; cases hkc
          refine ⟨(doK k ⟨1, m.deal, m.ctr, m.dl, false⟩).1, by dsimp only; rw [e, List.getElem?_set_self hki], ?_⟩
          rw [← hv, q1]
          rcases hcases with ⟨_, e⟩ | ⟨_, _, _, _, _, _, hc⟩
          · rw [e]
          · rcases hc with ⟨_, e⟩ | ⟨_, hok, e⟩
            · rw [e]
            · rw [e]
              have hvv : ∀ x : Cnt, (hold x m.dl).2 = 0 → (hold x m.dl).1.v = x.v := fun x hx => by
                rcases (hold_ok hx).2.2 with ⟨_, _, e⟩ | ⟨_, _, e⟩ <;> rw [e]
              dsimp only at hok ⊢
              unfold valS ShopS.set
              unfold ShopS.cnt at hok
              by_cases e : m.ctr % 2 = 0
              · rw [if_pos e] at hok
                simp only [e, if_true]; unfold ShopS.cnt; simp only [e, if_true]; rw [hvv _ hok]
              · rw [if_neg e] at hok
                simp only [e, if_false]; unfold ShopS.cnt; simp only [e, if_false]; rw [hvv _ hok]
        · exact ⟨kc, by dsimp only; rw [List.getElem?_set_ne (fun h => e h.symm)]; exact hkc, hv⟩
      · rcases List.mem_append.1 hx with hx | hx
        · exact h.mail x (take_mem hx)
        · simp at hx; subst hx
          simp at ha
          rw [← ha]
          refine ⟨(fun h => by cases h), fun _ => ⟨hdn, fun h0 => ?_⟩⟩
          dsimp only
          rw [q2, hyes h0]; rfl
    · have ea : ansK k m = ((doK k ⟨2, m.deal, 0, 0, m.yes⟩).1, if (doK k ⟨2, m.deal, 0, 0, m.yes⟩).2 = 0 then some { m with kind := 4 } else none) := by
        unfold ansK; rw [if_neg (by omega), if_neg (by omega), if_pos hk3]
      rw [ea] at ha hb ⊢
      have hdec : decd t.b m.deal := by
        cases hmk with
        | end' _ _ d => exact d
        | ask k' => omega
        | say k' => omega
        | over k' => omega
      obtain ⟨q1, q2⟩ := doK_end k m.deal m.yes
      refine ⟨hb, h.n2, fun s q hq x hx => ?_, fun h0 c hc => ?_, fun x hx => ?_⟩
      · rcases list_set_get hq with ⟨rfl, rfl⟩ | ⟨_, hq⟩
        · dsimp only at hx
          rw [q1] at hx
          rcases endS_cases k.shop m.deal m.yes with ⟨e, _⟩ | ⟨_, _, _, e⟩
          · rw [e] at hx; exact h.own _ k hk x hx
          · rw [e] at hx; exact h.own _ k hk x (List.mem_filter.1 hx).1
        · exact h.own s q hq x hx
      · obtain ⟨kc, hkc, hv⟩ := h.val h0 c hc
        by_cases e : c / 2 = m.shop.toNat
        · rw [e, hk] at hkc; cases hkc
          refine ⟨(doK k ⟨2, m.deal, 0, 0, m.yes⟩).1, by dsimp only; rw [e, List.getElem?_set_self hki], ?_⟩
          rw [← hv, q1]
          rcases endS_cases k.shop m.deal m.yes with ⟨e, _⟩ | ⟨d0, d8, ho, e⟩
          · rw [e]
          · obtain ⟨_, _, _, _, _, v0, v1⟩ := k1.sh.end' (b := m.yes) d0 d8 ho
            have hz : ∀ c, sumH c m.deal k.shop.holds = 0 := fun c => sumH_none fun x hx e => by
              have := h.own _ k hk x hx
              rw [← e, this] at hdec
              have h0 : stateB t.b n = 0 := h0
              rcases hdec with h | h <;> omega
            rw [hz] at v0 v1
            unfold valS
            split
            · rw [v0]; simp
            · rw [v1]; simp
        · exact ⟨kc, by dsimp only; rw [List.getElem?_set_ne (fun h => e h.symm)]; exact hkc, hv⟩
      · rcases List.mem_append.1 hx with hx | hx
        · exact h.mail x (take_mem hx)
        · simp at hx; subst hx
          rw [ey]
          exact ⟨(fun h => by cases h), (fun h => by cases h)⟩
theorem OneY.tick {t0 t : TownS} {l : List Want} {n : Nat} (hI : TInv t) (h : OneY t0 t l n) : OneY t0 (tickT t) l n := by
  refine ⟨⟨h.b.len, h.b.w, h.b.w0, h.b.dec, h.b.ord, h.b.ws⟩, h.n2, h.own, h.val, fun m hm => ?_⟩
  rcases foldl_send_mem hm with hm | hm
  · exact h.mail m hm
  · obtain ⟨q, d, hd, hm⟩ := dueB_mem.1 hm
    rcases dueD_mem hm with ⟨_, s, _, _, rfl⟩ | ⟨h0, w, _, rfl⟩
    · exact ⟨(fun h => by cases h), (fun h => by cases h)⟩
    · refine ⟨fun _ => ?_, (fun h => by cases h)⟩
      have hlt := (List.getElem?_eq_some_iff.1 hd).1
      have := h.b.len
      show (q : Int) = n
      by_cases e : q < n
      · exact absurd h0 (h.b.dec q d e hd)
      · omega
theorem CalmS.one {t : TownS} (h : CalmS t) {l : List Want} (hc : (beginB t.b l).2.2 = 0) :
    (((applyL (worldT t) l).2.code ≠ 0 ∧ stateB (calmT { t with b := (beginB t.b l).1 }).1.b t.b.l.length = 2 ∧ worldT (calmT { t with b := (beginB t.b l).1 }).1 = worldT t) ∨
    ((applyL (worldT t) l).2.code = 0 ∧ stateB (calmT { t with b := (beginB t.b l).1 }).1.b t.b.l.length = 1 ∧ worldT (calmT { t with b := (beginB t.b l).1 }).1 = (applyL (worldT t) l).1)) := by
  obtain ⟨hb, hck, hs0, he⟩ := OneB.begun h hc
  have hI := h.inv.begin l
  have h6 : (worldT t).length = 6 := by obtain ⟨a, b, c, e⟩ := h.inv.three; simp [worldT, e]
  by_cases hap : (applyL (worldT t) l).2.code = 0
  · have hf := (applyL_ok h6 hck).1.1 hap
    have hY : OneY t { t with b := (beginB t.b l).1 } l t.b.l.length := by
      refine ⟨hb, by show stateB (beginB t.b l).1 _ ≠ 2; rw [hs0]; omega, fun s k hk x hx => ?_, fun _ c hc => ?_, fun m hm => ?_⟩
      · rw [h.holds hk] at hx; cases hx
      · have hlt : c / 2 < t.ks.length := by have := h.inv.len; omega
        refine ⟨t.ks[c / 2], List.getElem?_eq_getElem hlt, ?_⟩
        obtain ⟨a, b, c', e⟩ := h.inv.three
        simp only [e, worldT]
        rcases (by omega : c = 0 ∨ c = 1 ∨ c = 2 ∨ c = 3 ∨ c = 4 ∨ c = 5) with rfl | rfl | rfl | rfl | rfl | rfl <;> rfl
      · have hm : m ∈ t.post := hm
        rw [h.post] at hm; cases hm
    have := calm_ind (fun u => OneY t u l t.b.l.length) (fun u hu hq hp => hq.deliver hf hu hp) (fun u hu hq _ => hq.tick hu) hI hY
    obtain ⟨hcs, hy, _⟩ := this
    rcases hy.b.fin h rfl hcs with ⟨h2, _⟩ | ⟨h1, _, hw⟩
    · exact absurd h2 hy.n2
    · exact .inr ⟨hap, h1, hw⟩
  · have := calm_ind (fun u => OneB t u l t.b.l.length) (fun u hu hq hp => hq.deliver hu hp) (fun u _ hq _ => ⟨hq.len, hq.w, hq.w0, hq.dec, hq.ord, hq.ws⟩) hI hb
    obtain ⟨hcs, hy, _⟩ := this
    rcases hy.fin h rfl hcs with ⟨h2, hw⟩ | ⟨_, hc, _⟩
    · exact .inl ⟨hap, h2, hw⟩
    · exact absurd hc hap

end Go.Proofs.Ytmakdilmibjpbac
