/- FnExactUnseenRuns: the left statement: for every road, list of sensors (and number) the law answers true. No condition. -/
import Derived.Test.YtknfhoghimnieaaQFnExactUnseenRunsx7
import Derived.Test.YtknfhoghimnieaaBase
namespace Go.Proofs.Ytknfhoghimnieaa.Pure
open Go.RowKit Go.Proofs.Ytknfhoghimnieaa.QFnExactUnseenRuns Go.Proofs.YtknfhoghimnieaaW.PrintWords Go.Proofs.YtknfhoghimnieaaW.PrintLast Go.Proofs.Ytknfhoghimnieaa.Base
set_option linter.unusedVariables false
set_option linter.unusedSimpArgs false

def FnExactUnseenRunsLeft : Prop := ∀ (a0_0 : Int) (a0_1 : Bool) (l1 : List S61), (Lit.int .i64 a0_0).wf = true → l1.length ≤ maxLen → (∀ x ∈ l1, (Lit.int .i64 x.f0).wf = true ∧ (Lit.int .i64 x.f1).wf = true) → ∃ k, laws_FnExactUnseenRuns.f k a0_0 a0_1 l1 = some true

def cvS (l : List S61) : List S59 := tg l.length (fun q => ⟨(l.getD q z61).f0, (l.getD q z61).f1⟩)
theorem cvS_len (l : List S61) : (cvS l).length = l.length := tg_len _ _
theorem toSensorS_ev (l : List S61) (hl : l.length ≤ 1048576) : Ev (fun k => laws_toSensorS.f k l) (cvS l) := by
  have key := down (P := fun i => Ev (fun k => laws_toSensorS.l0 k l (tg l.length (fun q => if q < i then ⟨(l.getD q z61).f0, (l.getD q z61).f1⟩ else z59)) (i : Int)) (cvS l)) (n := l.length)
    (ev_now (fun k => by
      simp only [laws_toSensorS.l0]
      rw [if_neg (by omega)]
      congr 1
      exact tg_congr (fun q hq => by rw [if_pos hq])))
    (fun i hi ih => by
      refine Ev.step (fun k => ?_) ih
      simp only [laws_toSensorS.l0, laws_toSensor.f, Option.bind_some]
      rw [if_pos (by omega), if_pos (by omega), if_pos (by rw [tg_len]; omega), w64s hi (by omega), Int.toNat_natCast, tg_set]
      congr 1
      refine tg_congr (fun q _ => ?_)
      by_cases e : q = i
      · subst e; rw [if_pos rfl, if_pos (by omega)]; rfl
      · rw [if_neg e]
        by_cases e2 : q < i
        · rw [if_pos e2, if_pos (by omega)]
        · rw [if_neg e2, if_neg (by omega)])
  unfold laws_toSensorS.f
  refine ev_pos (by omega) (ev_pos (by omega) ?_)
  rw [Int.toNat_natCast, tg_rep]
  have k0 := key 0 (by omega)
  simpa using k0
theorem szSensorS_eq (l : List S61) (hl : l.length ≤ maxLen) : laws_szSensorS.f l 1048576 = some (if 1048576 - (l.length : Int) < 0 then -1 else 1048576 - (l.length : Int)) := by
  have hm : l.length ≤ 9223372036854775807 := by simpa [maxLen] using hl
  unfold laws_szSensorS.f
  rw [w64 (by omega) (by omega)]
  split <;> rfl
theorem toRoad_eq (s : Int) (r : Bool) : laws_toRoad.f s r = some (s, r) := rfl

theorem eqSensorS_self (l : List S59) (hl : l.length ≤ 1048576) : Ev (fun k => laws_eqSensorS.f k l l) true := by
  have key := down (P := fun i => Ev (fun k => laws_eqSensorS.l0 k l l (i : Int)) true) (n := l.length)
    (ev_now (fun k => by simp only [laws_eqSensorS.l0]; rw [if_neg (by omega)]))
    (fun i hi ih => by
      refine Ev.step (fun k => ?_) ih
      simp only [laws_eqSensorS.l0, laws_eqSensor.f, if_true, Option.bind_some]
      rw [if_pos (by omega), if_pos (by omega), if_pos (by omega), w64s hi (by omega)])
  unfold laws_eqSensorS.f
  exact ev_pos rfl (key 0 (by omega))

def cntS (a : Int) (n : Nat) : List S59 := tg n (fun q => ⟨a + 2 * q, a + 2 * q + 1⟩)
theorem cntS_len (a : Int) (n : Nat) : (cntS a n).length = n := tg_len _ _
theorem markSensorS_ev (l : List S59) (a : Int) (hl : l.length ≤ 1048576) (ha : 0 ≤ a) (ha2 : a ≤ 1152921504606846976) : Ev (fun k => laws_markSensorS.f k l a) (a + 2 * (l.length : Int), cntS a l.length) := by
  have key := down (P := fun i => Ev (fun k => laws_markSensorS.l0 k (tg l.length (fun q => if q < i then ⟨a + 2 * q, a + 2 * q + 1⟩ else l.getD q z59)) (a + 2 * (i : Int)) (i : Int)) (a + 2 * (l.length : Int), cntS a l.length)) (n := l.length)
    (ev_now (fun k => by
      simp only [laws_markSensorS.l0]
      rw [if_neg (by rw [tg_len]; omega)]
      congr 2
      exact tg_congr (fun q hq => by rw [if_pos hq])))
    (fun i hi ih => by
      refine Ev.step (fun k => ?_) ih
      simp only [laws_markSensorS.l0, Option.bind_some, Int.toNat_natCast]
      rw [if_pos (by rw [tg_len]; omega), if_pos (by omega), w64s hi (by omega), w64 (x := a + 2 * (i : Int) + 1) (by omega) (by omega), w64 (by omega) (by omega), set_set_tg, tg_set]
      congr 1
      · refine tg_congr (fun q _ => ?_)
        by_cases e : q = i
        · subst e
          rw [if_pos rfl, if_pos (by omega)]
          congr 1
          show S59.f0 (List.getD _ (Int.toNat _) _) = _
          rw [Int.toNat_natCast, tg_set, tg_get hi, if_pos rfl]
        · rw [if_neg e]
          by_cases e2 : q < i
          · rw [if_pos e2, if_pos (by omega)]
          · rw [if_neg e2, if_neg (by omega)]
      · omega)
  have k0 := key 0 (by omega)
  unfold laws_markSensorS.f
  have e : tg l.length (fun q => if q < 0 then (⟨a + 2 * q, a + 2 * q + 1⟩ : S59) else l.getD q z59) = l := (tg_ext (d := z59) rfl (fun q _ => by rw [if_neg (by omega)])).symm
  rw [e] at k0
  simpa using k0

theorem l1In_eq (a b c : Int) : spec_l1In.f a b c = some (inR b c a) := by
  unfold spec_l1In.f inR
  by_cases h : a ≥ b
  · have h' : b ≤ a := h
    rw [if_pos h]; simp [h']
  · have h' : ¬ b ≤ a := h
    rw [if_neg h]; simp [h']

theorem within_eq (a b c : Int) : impl_within.f a b c = some (inR b c a) := by
  unfold impl_within.f inR
  by_cases h : a ≥ b
  · have h' : b ≤ a := h
    rw [if_pos h]; simp [h']
  · have h' : ¬ b ≤ a := h
    rw [if_neg h]; simp [h']

def lineV (s : Int) (r : Bool) : Bool := inR 2 24 s && !r
theorem line_of {s : Int} {r : Bool} (h : lineV s r = true) : (2 ≤ s ∧ s ≤ 24) ∧ r = false := by
  unfold lineV at h
  rw [Bool.and_eq_true, inR_iff] at h
  exact ⟨h.1, by simpa using h.2⟩
theorem l2Road_eq (s : Int) (r : Bool) : spec_l2Road.f s r = some (inR 2 24 s && (!r || decide (s > 2))) := by
  unfold spec_l2Road.f
  simp only [l1In_eq, Option.bind_some]
  cases inR 2 24 s <;> cases r <;> simp
theorem isRoad_eq (s : Int) (r : Bool) : impl_IsRoad.f s r = some (inR 2 24 s && (!r || decide (s > 2))) := by
  unfold impl_IsRoad.f
  simp only [within_eq, Option.bind_some]
  cases h : inR 2 24 s <;> cases r <;> simp <;> omega
theorem isLine_eq (s : Int) (r : Bool) : impl_isLine.f s r = some (lineV s r) := by
  unfold impl_isLine.f lineV
  simp only [isRoad_eq, Option.bind_some]
  cases inR 2 24 s <;> cases r <;> simp

theorem l3Line_eq (s : Int) (r : Bool) (a : Int) : spec_l3Line.f s r a = some (lineV s r && inR 0 (s - 1) a) := by
  unfold spec_l3Line.f lineV
  simp only [l2Road_eq, l1In_eq, Option.bind_some]
  cases h : inR 2 24 s with
  | false => simp
  | true =>
    have hs := inR_iff.1 h
    rw [w64 (by omega) (by omega)]
    cases r <;> simp

theorem allWithin_ev (l : List Int) (a b : Int) (hl : l.length ≤ 1152921504606846976) : Ev (fun k => impl_allWithin.f k l a b) (inAll a b l) := by
  have key := down (P := fun i => Ev (fun k => impl_allWithin.l0 k a b l (l.length : Int) (i : Int)) (inAll a b (l.drop i))) (n := l.length)
    (ev_now (fun k => by
      simp only [impl_allWithin.l0]
      rw [if_neg (by omega)]
      simp [inAll_nil]))
    (fun i hi ih => by
      rw [drop_cons hi, inAll_cons]
      cases hc : inR a b (rd l (i : Int)) with
      | true =>
        rw [Bool.true_and]
        refine Ev.step (fun k => ?_) ih
        simp only [impl_allWithin.l0, within_eq, Option.bind_some, hc, if_true]
        rw [if_pos (by omega), if_pos (by omega), if_pos (by omega), w64s hi hl]
      | false =>
        refine ev_now (fun k => ?_)
        simp only [impl_allWithin.l0, within_eq, Option.bind_some, hc, Bool.false_eq_true, if_false]
        rw [if_pos (by omega), if_pos (by omega), if_pos (by omega)]
        simp)
  exact key 0 (by omega)

def sC (s : Int) (l : List S59) (j : Nat) : Prop := (0 ≤ (l.getD j z59).f0 ∧ (l.getD j z59).f0 ≤ s - 1) ∧ 0 ≤ (l.getD j z59).f1 ∧ (l.getD j z59).f1 ≤ 12
instance (s : Int) (l : List S59) : DecidablePred (sC s l) := fun j => by unfold sC; infer_instance
def sensV (s : Int) (r : Bool) (l : List S59) : Bool := (lineV s r && decide ((l.length : Int) ≤ 6)) && allF l.length (sC s l) 0
theorem sens_of {s : Int} {r : Bool} {l : List S59} (h : sensV s r l = true) : ((2 ≤ s ∧ s ≤ 24) ∧ r = false) ∧ l.length ≤ 6 ∧ ∀ j, j < l.length → sC s l j := by
  unfold sensV at h
  rw [Bool.and_eq_true, Bool.and_eq_true] at h
  have := of_decide_eq_true h.1.2
  exact ⟨line_of h.1.1, by omega, allF_of h.2⟩
theorem rdT_nat (l : List S59) (j : Nat) : rd_T59 l (j : Int) = l.getD j z59 := rfl
theorem l9Sensors_ev (s : Int) (r : Bool) (l : List S59) (hl : l.length ≤ 1048576) : Ev (fun k => spec_l9Sensors.f k s r l) (sensV s r l) := by
  have key := down (P := fun i => Ev (fun k => spec_l9Sensors.l0 k l (i : Int) s r) ((lineV s r && decide ((l.length : Int) ≤ 6)) && allF l.length (sC s l) i)) (n := l.length)
    (ev_now (fun k => by
      simp only [spec_l9Sensors.l0, l2Road_eq, Option.bind_some]
      rw [if_neg (by omega), allF_end]
      unfold lineV
      cases inR 2 24 s <;> cases r <;> simp))
    (fun i hi ih => by
      rw [allF_step hi]
      have e3 : ∀ k, spec_l9Sensors.l0 (k + 1) l (i : Int) s r = if (lineV s r && inR 0 (s - 1) (l.getD i z59).f0) = true then (if inR 0 12 (l.getD i z59).f1 = true then spec_l9Sensors.l0 k l ((i + 1 : Nat) : Int) s r else some false) else some false := by
        intro k
        simp only [spec_l9Sensors.l0, l3Line_eq, l1In_eq, Option.bind_some, rdT_nat]
        rw [if_pos (by omega), if_pos (by omega), w64s hi (by omega)]
      cases hL : lineV s r with
      | false =>
        refine ev_now (fun k => ?_)
        rw [e3, hL]; simp
      | true =>
        rw [hL] at ih
        by_cases hc : sC s l i
        · rw [decide_eq_true hc, Bool.true_and]
          refine Ev.step (fun k => ?_) ih
          rw [e3, hL, Bool.true_and, if_pos (inR_iff.2 hc.1), if_pos (inR_iff.2 hc.2)]
        · rw [decide_eq_false hc, Bool.false_and, Bool.and_false]
          refine ev_now (fun k => ?_)
          rw [e3, hL, Bool.true_and]
          by_cases h1 : inR 0 (s - 1) (l.getD i z59).f0 = true
          · rw [if_pos h1, if_neg (fun h2 => hc ⟨inR_iff.1 h1, inR_iff.1 h2⟩)]
          · rw [if_neg h1])
  exact key 0 (by omega)
theorem areSensors_ev (s : Int) (r : Bool) (l : List S59) (hl : l.length ≤ 1048576) (hs : 2 ≤ s ∧ s ≤ 24) : Ev (fun k => impl_Road_areSensors.f k s r l) (decide ((l.length : Int) ≤ 6) && allF l.length (sC s l) 0) := by
  have key := down (P := fun i => Ev (fun k => impl_Road_areSensors.l0 k l l (l.length : Int) (i : Int) s r) (decide ((l.length : Int) ≤ 6) && allF l.length (sC s l) i)) (n := l.length)
    (ev_now (fun k => by
      simp only [impl_Road_areSensors.l0]
      rw [if_neg (by omega), allF_end, Bool.and_true]))
    (fun i hi ih => by
      rw [allF_step hi]
      have hh : Ev (fun k => impl_Road_has.f k s r [(l.getD i z59).f0]) (inR 0 (s - 1) (l.getD i z59).f0) := by
        unfold impl_Road_has.f
        rw [w64 (by omega) (by omega)]
        have := allWithin_ev [(l.getD i z59).f0] 0 (s - 1) (by simp)
        have e : inAll 0 (s - 1) [(l.getD i z59).f0] = inR 0 (s - 1) (l.getD i z59).f0 := by simp [inAll]
        rw [e] at this
        exact Ev.bind this (Ev.now _)
      refine Ev.step (f := fun k => (impl_Road_has.f k s r [(l.getD i z59).f0]).bind fun t => if t = true then (if inR 0 12 (l.getD i z59).f1 = true then impl_Road_areSensors.l0 k l l (l.length : Int) ((i + 1 : Nat) : Int) s r else some false) else some false) (fun k => ?_) (Ev.bind hh ?_)
      · simp only [impl_Road_areSensors.l0, within_eq, Option.bind_some, rdT_nat]
        rw [if_pos (by omega), if_pos (by omega), if_pos (by omega), w64s hi (by omega)]
      · by_cases hc : sC s l i
        · rw [decide_eq_true hc, Bool.true_and]
          exact ev_pos (inR_iff.2 hc.1) (ev_pos (inR_iff.2 hc.2) ih)
        · rw [decide_eq_false hc, Bool.false_and, Bool.and_false]
          by_cases h1 : inR 0 (s - 1) (l.getD i z59).f0 = true
          · exact ev_pos h1 (ev_neg (fun h2 => hc ⟨inR_iff.1 h1, inR_iff.1 h2⟩) (Ev.now _))
          · exact ev_neg h1 (Ev.now _))
  exact key 0 (by omega)

theorem isGuarded_ev (s : Int) (r : Bool) (l : List S59) (hl : l.length ≤ 1048576) : Ev (fun k => impl_isGuarded.f k s r l) (sensV s r l) := by
  unfold impl_isGuarded.f sensV
  simp only [isLine_eq, Option.bind_some]
  cases hL : lineV s r with
  | true =>
    refine ev_pos rfl ?_
    rw [Bool.true_and]
    exact Ev.bind (areSensors_ev s r l hl (line_of hL).1) (Ev.now _)
  | false => exact ev_neg (by simp) (Ev.now _)

theorem l1Most_eq (a b : Int) : spec_l1Most.f a b = some (mx a b) := by
  unfold spec_l1Most.f mx
  by_cases h : a > b
  · rw [if_pos h, if_neg (by omega)]
  · rw [if_neg h]
    by_cases h2 : a < b
    · rw [if_pos h2]
    · rw [if_neg h2]; congr 1; omega

theorem l2Gap_eq (s a p : Int) (h0 : 0 ≤ a ∧ a ≤ 1000000) (h1 : 0 ≤ p ∧ p ≤ 1000000) : spec_l2Gap.f s false a p = some (mx (a - p) (p - a)) := by
  unfold spec_l2Gap.f
  simp only [l1Most_eq, Option.bind_some, Bool.false_eq_true, if_false]
  rw [mx_abs (s := s) h0 h1]
theorem gap_eq (s a p : Int) (h0 : 0 ≤ a ∧ a ≤ 1000000) (h1 : 0 ≤ p ∧ p ≤ 1000000) : impl_Road_gap.f s false a p = some (mx (a - p) (p - a)) := by
  unfold impl_Road_gap.f
  simp only [Bool.false_eq_true, if_false]
  rw [mx_abs (s := s) h0 h1]

/-- Does sensor j see place p? -/
def see (l : List S59) (p : Nat) (j : Nat) : Int := if mx ((l.getD j z59).f0 - p) ((p : Int) - (l.getD j z59).f0) ≤ (l.getD j z59).f1 then 1 else 0
def seenP (l : List S59) (p : Nat) : Int := sm l.length (see l p)
def seenL (n : Nat) (l : List S59) : List Int := tab n (seenP l)
/-- Behind p whole places and i sensors of the next one. -/
def seenT (n : Nat) (l : List S59) (p i : Nat) : List Int := tab n (fun q => if q < p then seenP l q else if q = p then sm i (see l q) else 0)
theorem see_bd (l : List S59) (p i : Nat) : 0 ≤ sm i (see l p) ∧ sm i (see l p) ≤ i := sm_bound (fun q => by unfold see; split <;> omega) i
theorem seenT_next (n : Nat) (l : List S59) (p : Nat) : seenT n l p l.length = seenT n l (p + 1) 0 := by
  refine tab_congr (fun q _ => ?_)
  by_cases h1 : q < p
  · rw [if_pos h1, if_pos (by omega)]
  · rw [if_neg h1]
    by_cases h2 : q = p
    · rw [if_pos h2, if_pos (by omega)]; rfl
    · rw [if_neg h2, if_neg (by omega)]
      split <;> rfl
theorem seenT_step {n : Nat} {l : List S59} {p i : Nat} (hp : p < n) (hi : i ≤ 1000) : (if mx ((l.getD i z59).f0 - p) ((p : Int) - (l.getD i z59).f0) ≤ (l.getD i z59).f1 then (seenT n l p i).set p (wrap64 (rd (seenT n l p i) (p : Int) + 1)) else seenT n l p i) = seenT n l p (i + 1) := by
  have hb := see_bd l p i
  by_cases h : mx ((l.getD i z59).f0 - p) ((p : Int) - (l.getD i z59).f0) ≤ (l.getD i z59).f1
  · rw [if_pos h]
    unfold seenT
    rw [tab_rd hp, if_neg (by omega), if_pos rfl, w64 (by omega) (by omega), tab_set]
    refine tab_congr (fun q _ => ?_)
    by_cases e : q = p
    · subst e
      rw [if_pos rfl, if_neg (by omega), if_pos rfl, sm_succ]
      congr 1
      unfold see; rw [if_pos h]
    · rw [if_neg e]
      by_cases h1 : q < p
      · rw [if_pos h1, if_pos h1]
      · rw [if_neg h1, if_neg h1, if_neg e, if_neg e]
  · rw [if_neg h]
    refine tab_congr (fun q _ => ?_)
    by_cases h1 : q < p
    · rw [if_pos h1, if_pos h1]
    · rw [if_neg h1, if_neg h1]
      by_cases e : q = p
      · subst e
        rw [if_pos rfl, if_pos rfl, sm_succ]
        have : see l q i = 0 := by unfold see; rw [if_neg h]
        omega
      · rw [if_neg e, if_neg e]
theorem seenT_zero (n : Nat) (l : List S59) : List.replicate n 0 = seenT n l 0 0 := by
  rw [tab_rep]
  refine tab_congr (fun q _ => ?_)
  rw [if_neg (by omega)]
  split <;> rfl
theorem seenT_end (n : Nat) (l : List S59) : seenT n l n 0 = seenL n l := tab_congr (fun q hq => by rw [if_pos hq])
theorem seenT_len (n : Nat) (l : List S59) (p i : Nat) : (seenT n l p i).length = n := tab_len _ _
theorem l9Seen_ev (n : Nat) (l : List S59) (hv : sensV (n : Int) false l = true) : Ev (fun k => spec_l9Seen.f k (n : Int) false l) (seenL n l) := by
  have h := sens_of hv
  have key := down (P := fun p => Ev (fun k => spec_l9Seen.l0 k l (seenT n l p 0) (p : Int) (n : Int) false) (seenL n l)) (n := n)
    (ev_now (fun k => by simp only [spec_l9Seen.l0]; rw [if_neg (by omega), seenT_end]))
    (fun p hp ih => by
      refine Ev.step (f := fun k => spec_l9Seen.l1 k l (seenT n l p 0) (p : Int) ((0 : Nat) : Int) (n : Int) false) (fun k => by simp only [spec_l9Seen.l0]; rw [if_pos (by omega)]; rfl) ?_
      have inner := down (P := fun i => Ev (fun k => spec_l9Seen.l1 k l (seenT n l p i) (p : Int) (i : Int) (n : Int) false) (seenL n l)) (n := l.length)
        (by
          refine Ev.step (fun k => ?_) ih
          simp only [spec_l9Seen.l1]
          rw [if_neg (by omega), w64s hp (by omega), seenT_next])
        (fun i hi ihi => by
          have hc := (h.2.2 i hi).1
          rw [← seenT_step hp (by omega)] at ihi
          refine Ev.step (fun k => ?_) ihi
          simp only [spec_l9Seen.l1, rdT_nat]
          rw [if_pos (by omega), if_pos (by omega), l2Gap_eq _ _ _ (by omega) (by omega), Option.bind_some, w64s hi (by omega), if_pos (by omega), if_pos (by rw [seenT_len]; omega), Int.toNat_natCast]
          by_cases hg : mx ((l.getD i z59).f0 - p) ((p : Int) - (l.getD i z59).f0) ≤ (l.getD i z59).f1
          · simp only [hg, if_true]
          · simp only [hg, if_false])
      exact inner 0 (by omega))
  unfold spec_l9Seen.f
  refine ev_pos (by omega) (ev_pos (by omega) ?_)
  rw [Int.toNat_natCast, seenT_zero n l]
  exact key 0 (by omega)
theorem implSeen_ev (n : Nat) (l : List S59) (hv : sensV (n : Int) false l = true) : Ev (fun k => impl_Road_seen.f k (n : Int) false l) (seenL n l) := by
  have h := sens_of hv
  have key := down (P := fun p => Ev (fun k => impl_Road_seen.l0 k l (seenT n l p 0) (n : Int) (p : Int) (n : Int) false) (seenL n l)) (n := n)
    (ev_now (fun k => by simp only [impl_Road_seen.l0]; rw [if_neg (by omega), seenT_end]))
    (fun p hp ih => by
      refine Ev.step (f := fun k => impl_Road_seen.l1 k l (seenT n l p 0) (p : Int) (n : Int) (p : Int) l (l.length : Int) ((0 : Nat) : Int) (n : Int) false) (fun k => by simp only [impl_Road_seen.l0]; rw [if_pos (by omega)]; rfl) ?_
      have inner := down (P := fun i => Ev (fun k => impl_Road_seen.l1 k l (seenT n l p i) (p : Int) (n : Int) (p : Int) l (l.length : Int) (i : Int) (n : Int) false) (seenL n l)) (n := l.length)
        (by
          refine Ev.step (fun k => ?_) ih
          simp only [impl_Road_seen.l1]
          rw [if_neg (by omega), w64s hp (by omega), seenT_next])
        (fun i hi ihi => by
          have hc := (h.2.2 i hi).1
          rw [← seenT_step hp (by omega)] at ihi
          refine Ev.step (fun k => ?_) ihi
          simp only [impl_Road_seen.l1, rdT_nat]
          rw [if_pos (by omega), if_pos (by omega), if_pos (by omega), gap_eq _ _ _ (by omega) (by omega), Option.bind_some, w64s hi (by omega), if_pos (by omega), if_pos (by rw [seenT_len]; omega), Int.toNat_natCast]
          by_cases hg : mx ((l.getD i z59).f0 - p) ((p : Int) - (l.getD i z59).f0) ≤ (l.getD i z59).f1
          · simp only [hg, if_true]
          · simp only [hg, if_false])
      exact inner 0 (by omega))
  unfold impl_Road_seen.f
  refine ev_pos (by omega) (ev_pos (by omega) ?_)
  simp only [Option.bind_some]
  rw [Int.toNat_natCast, seenT_zero n l, seenT_len]
  exact key 0 (by omega)
theorem sens_nat {s : Int} {r : Bool} {l : List S59} (h : sensV s r l = true) : ∃ n : Nat, s = n ∧ r = false ∧ 2 ≤ n ∧ n ≤ 24 := by
  have := sens_of h
  exact ⟨s.toNat, by omega, this.1.2, by omega, by omega⟩

def lastR (out : List S54) : S54 := out.getD (out.length - 1) z54
def runStep (V : List Int) (i : Nat) (out : List S54) : List S54 := if rd V (i : Int) > 0 then out else if 0 < i ∧ rd V ((i : Int) - 1) = 0 then out.set (out.length - 1) ⟨(lastR out).f0, (i : Int)⟩ else out ++ [⟨(i : Int), (i : Int)⟩]
def runs (V : List Int) : Nat → Nat → List S54 → List S54
  | 0, _, out => out
  | m + 1, i, out => runs V m (i + 1) (runStep V i out)
def InvR (V : List Int) (i : Nat) (out : List S54) : Prop := (0 < out.length → (lastR out).f1 < (i : Int)) ∧ (0 < i → (rd V ((i : Int) - 1) = 0 ↔ 0 < out.length ∧ (lastR out).f1 = (i : Int) - 1)) ∧ out.length ≤ i
theorem last_app (out : List S54) (x : S54) : lastR (out ++ [x]) = x := by
  unfold lastR
  rw [List.length_append, List.length_singleton, Nat.add_sub_cancel, List.getD_eq_getElem?_getD, List.getElem?_append_right (Nat.le_refl _), Nat.sub_self]
  rfl
theorem last_set {out : List S54} (h : 0 < out.length) (x : S54) : lastR (out.set (out.length - 1) x) = x := by
  unfold lastR
  rw [List.length_set, List.getD_eq_getElem?_getD, List.getElem?_set_self (by omega)]
  rfl
theorem inv_step {V : List Int} (hV : ∀ i : Nat, 0 ≤ rd V (i : Int)) {i : Nat} {out : List S54} (h : InvR V i out) : InvR V (i + 1) (runStep V i out) := by
  obtain ⟨h1, h2, h3⟩ := h
  have e : ((i + 1 : Nat) : Int) - 1 = (i : Int) := by omega
  unfold runStep
  by_cases c : rd V (i : Int) > 0
  · rw [if_pos c]
    refine ⟨fun hp => by have := h1 hp; omega, fun _ => ?_, by omega⟩
    rw [e]
    exact ⟨fun q => by omega, fun q => by have := h1 q.1; omega⟩
  · rw [if_neg c]
    have hz : rd V (i : Int) = 0 := by have := hV i; omega
    by_cases d : 0 < i ∧ rd V ((i : Int) - 1) = 0
    · rw [if_pos d]
      have hp := ((h2 d.1).1 d.2).1
      refine ⟨fun _ => by rw [last_set hp]; simp only; omega, fun _ => ?_, by rw [List.length_set]; omega⟩
      rw [e, last_set hp, List.length_set]
      exact ⟨fun _ => ⟨hp, rfl⟩, fun _ => hz⟩
    · rw [if_neg d]
      refine ⟨fun _ => by rw [last_app]; simp only; omega, fun _ => ?_, by rw [List.length_append, List.length_singleton]; omega⟩
      rw [e, last_app, List.length_append, List.length_singleton]
      exact ⟨fun _ => ⟨by omega, rfl⟩, fun _ => hz⟩
theorem seen_nonneg (n : Nat) (l : List S59) (i : Nat) : 0 ≤ rd (seenL n l) (i : Int) := by
  by_cases h : i < n
  · unfold seenL
    rw [tab_rd h]
    exact (see_bd l i l.length).1
  · have e : (seenL n l).length = n := tab_len _ _
    unfold rd
    rw [Int.toNat_natCast, List.getD_eq_getElem?_getD, List.getElem?_eq_none (by omega)]
    exact Int.le_refl 0
def unseenR (s : Int) (r : Bool) (l : List S59) : List S54 × Bool := if sensV s r l = true then (runs (seenL s.toNat l) s.toNat 0 [], true) else ([], false)
theorem specUnseen_ev (s : Int) (r : Bool) (l : List S59) (hl : l.length ≤ 1048576) : Ev (fun k => spec_UnseenRuns.f k s r l) (unseenR s r l) := by
  unfold spec_UnseenRuns.f unseenR
  simp only [Option.bind_some]
  refine Ev.bind (l9Sensors_ev s r l hl) ?_
  cases hv : sensV s r l with
  | true =>
    obtain ⟨n, rfl, rfl, h2, h24⟩ := sens_nat hv
    refine ev_pos rfl (Ev.bind (l9Seen_ev n l hv) ?_)
    rw [if_pos rfl, Int.toNat_natCast]
    have hlen : (seenL n l).length = n := tab_len _ _
    have key := down (P := fun i => ∀ out : List S54, InvR (seenL n l) i out → Ev (fun k => spec_UnseenRuns.l0 k out (seenL n l) (i : Int) (n : Int) false) (runs (seenL n l) (n - i) i out, true)) (n := n)
      (fun out _ => ev_now (fun k => by
        simp only [spec_UnseenRuns.l0]
        rw [if_neg (by omega), Nat.sub_self]
        rfl))
      (fun i hi ih out hI => by
        rw [show n - i = (n - (i + 1)) + 1 by omega]
        simp only [runs]
        refine Ev.step (fun k => ?_) (ih _ (inv_step (seen_nonneg n l) hI))
        obtain ⟨i1, i2, i3⟩ := hI
        simp only [spec_UnseenRuns.l0]
        rw [if_pos (by omega), if_pos (by omega), if_pos (by omega), w64s hi (by omega)]
        unfold runStep
        by_cases c : rd (seenL n l) (i : Int) > 0
        · rw [if_pos c, if_pos c]
        · rw [if_neg c, if_neg c]
          by_cases d0 : 0 < i
          · rw [if_pos (by omega), w64 (x := (i : Int) - 1) (by omega) (by omega), if_pos (by omega), if_pos (by omega)]
            by_cases d : rd (seenL n l) ((i : Int) - 1) = 0
            · have hp := ((i2 d0).1 d).1
              rw [if_pos d, if_pos (show 0 < i ∧ rd (seenL n l) ((i : Int) - 1) = 0 from ⟨d0, d⟩), w64 (x := (out.length : Int) - 1) (by omega) (by omega), if_pos (by omega), if_pos (by omega)]
              rw [show (out.length : Int) - 1 = ((out.length - 1 : Nat) : Int) by omega, Int.toNat_natCast]
              rfl
            · rw [if_neg d, if_neg (show ¬ (0 < i ∧ rd (seenL n l) ((i : Int) - 1) = 0) from fun h => d h.2), if_pos (by omega)]
          · rw [if_neg (by omega), if_neg (show ¬ (0 < i ∧ rd (seenL n l) ((i : Int) - 1) = 0) from fun h => d0 h.1), if_pos (by omega)])
    exact key 0 (by omega) [] ⟨fun h => absurd h (by simp), fun h => absurd h (by omega), by simp⟩
  | false => exact ev_neg (by simp) (Ev.now _)
theorem implUnseen_ev (s : Int) (r : Bool) (l : List S59) (hl : l.length ≤ 1048576) : Ev (fun k => impl_UnseenRuns.f k s r l) (unseenR s r l) := by
  unfold impl_UnseenRuns.f unseenR
  refine Ev.bind (isGuarded_ev s r l hl) ?_
  cases hv : sensV s r l with
  | true =>
    obtain ⟨n, rfl, rfl, h2, h24⟩ := sens_nat hv
    refine ev_pos rfl (Ev.bind (implSeen_ev n l hv) ?_)
    rw [if_pos rfl, Int.toNat_natCast]
    have hlen : (seenL n l).length = n := tab_len _ _
    have key := down (P := fun i => ∀ out : List S54, InvR (seenL n l) i out → Ev (fun k => impl_UnseenRuns.l0 k out (seenL n l) ((seenL n l).length : Int) (i : Int)) (runs (seenL n l) (n - i) i out, true)) (n := n)
      (fun out _ => ev_now (fun k => by
        simp only [impl_UnseenRuns.l0]
        rw [if_neg (by omega), Nat.sub_self]
        rfl))
      (fun i hi ih out hI => by
        rw [show n - i = (n - (i + 1)) + 1 by omega]
        simp only [runs]
        refine Ev.step (fun k => ?_) (ih _ (inv_step (seen_nonneg n l) hI))
        obtain ⟨i1, i2, i3⟩ := hI
        simp only [impl_UnseenRuns.l0]
        rw [if_pos (by omega), if_pos (by omega), if_pos (by omega), w64s hi (by omega)]
        unfold runStep
        by_cases c : rd (seenL n l) (i : Int) > 0
        · rw [if_pos c, if_pos c]
        · rw [if_neg c, if_neg c]
          by_cases hp : 0 < out.length
          · rw [if_pos (by omega), w64 (x := (out.length : Int) - 1) (by omega) (by omega), if_pos (by omega), if_pos (by omega), w64 (x := (i : Int) - 1) (by omega) (by omega), show rd_T54 out ((out.length : Int) - 1) = lastR out by rw [show (out.length : Int) - 1 = ((out.length - 1 : Nat) : Int) by omega]; rfl]
            by_cases d : (lastR out).f1 = (i : Int) - 1
            · rw [if_pos d, if_pos (show 0 < i ∧ rd (seenL n l) ((i : Int) - 1) = 0 from ⟨by omega, (i2 (by omega)).2 ⟨hp, d⟩⟩)]
              rw [show (out.length : Int) - 1 = ((out.length - 1 : Nat) : Int) by omega, Int.toNat_natCast]
            · rw [if_neg d, if_neg (show ¬ (0 < i ∧ rd (seenL n l) ((i : Int) - 1) = 0) from fun h => d ((i2 h.1).1 h.2).2), if_pos (by omega)]
          · rw [if_neg (by omega), if_neg (show ¬ (0 < i ∧ rd (seenL n l) ((i : Int) - 1) = 0) from fun h => hp ((i2 h.1).1 h.2).1), if_pos (by omega)])
    exact key 0 (by omega) [] ⟨fun h => absurd h (by simp), fun h => absurd h (by omega), by simp⟩
  | false => exact ev_neg (by simp) (Ev.now _)

def cntA2 (a : Int) (n : Nat) : List S54 := tg n (fun q => ⟨a + 2 * q, a + 2 * q + 1⟩)
theorem cntA2_len (a : Int) (n : Nat) : (cntA2 a n).length = n := tg_len _ _
theorem markIntA2S_ev (l : List S54) (a : Int) (hl : l.length ≤ 1048576) (ha : 0 ≤ a) (ha2 : a ≤ 1152921504606846976) : Ev (fun k => laws_markIntA2S.f k l a) (a + 2 * (l.length : Int), cntA2 a l.length) := by
  have key := down (P := fun i => Ev (fun k => laws_markIntA2S.l0 k (tg l.length (fun q => if q < i then ⟨a + 2 * q, a + 2 * q + 1⟩ else l.getD q z54)) (a + 2 * (i : Int)) (i : Int)) (a + 2 * (l.length : Int), cntA2 a l.length)) (n := l.length)
    (ev_now (fun k => by
      simp only [laws_markIntA2S.l0]
      rw [if_neg (by rw [tg_len]; omega)]
      congr 2
      exact tg_congr (fun q hq => by rw [if_pos hq])))
    (fun i hi ih => by
      refine Ev.step (fun k => ?_) ih
      simp only [laws_markIntA2S.l0, Option.bind_some, Int.toNat_natCast]
      rw [if_pos (by rw [tg_len]; omega), if_pos (by omega), w64s hi (by omega), w64 (x := a + 2 * (i : Int) + 1) (by omega) (by omega), w64 (by omega) (by omega), set_set_tg, tg_set]
      congr 1
      · refine tg_congr (fun q _ => ?_)
        by_cases e : q = i
        · subst e
          rw [if_pos rfl, if_pos (by omega)]
          congr 1
          show S54.f0 (List.getD _ (Int.toNat _) _) = _
          rw [Int.toNat_natCast, tg_set, tg_get hi, if_pos rfl]
        · rw [if_neg e]
          by_cases e2 : q < i
          · rw [if_pos e2, if_pos (by omega)]
          · rw [if_neg e2, if_neg (by omega)]
      · omega)
  have k0 := key 0 (by omega)
  unfold laws_markIntA2S.f
  have e : tg l.length (fun q => if q < 0 then (⟨a + 2 * q, a + 2 * q + 1⟩ : S54) else l.getD q z54) = l := (tg_ext (d := z54) rfl (fun q _ => by rw [if_neg (by omega)])).symm
  rw [e] at k0
  simpa using k0
theorem heldIntA2S_ev (n : Nat) (a : Int) (hl : n ≤ 1048576) (ha : 0 ≤ a) (ha2 : a ≤ 1152921504606846976) : Ev (fun k => laws_heldIntA2S.f k (cntA2 a n) a) (a + 2 * (n : Int)) := by
  have key := down (P := fun i => Ev (fun k => laws_heldIntA2S.l0 k (cntA2 a n) (a + 2 * (i : Int)) (i : Int)) (a + 2 * (n : Int))) (n := n)
    (ev_now (fun k => by
      simp only [laws_heldIntA2S.l0]
      rw [if_neg (by rw [cntA2_len]; omega)]))
    (fun i hi ih => by
      refine Ev.step (fun k => ?_) ih
      have g : rd_T54 (cntA2 a n) (i : Int) = ⟨a + 2 * i, a + 2 * i + 1⟩ := by
        show List.getD _ (Int.toNat _) _ = _
        rw [Int.toNat_natCast]; unfold cntA2; rw [tg_get hi]
      simp only [laws_heldIntA2S.l0, g, if_true]
      rw [if_pos (by rw [cntA2_len]; omega), if_pos (by omega), w64 (x := a + 2 * (i : Int) + 1) (by omega) (by omega), if_pos rfl, w64s hi (by omega), w64 (by omega) (by omega)]
      congr 1
      omega)
  have k0 := key 0 (by omega)
  unfold laws_heldIntA2S.f
  simpa using k0
theorem eqIntA2S_self (l : List S54) (hl : l.length ≤ 1048576) : Ev (fun k => laws_eqIntA2S.f k l l) true := by
  have key := down (P := fun i => Ev (fun k => laws_eqIntA2S.l0 k l l (i : Int)) true) (n := l.length)
    (ev_now (fun k => by simp only [laws_eqIntA2S.l0]; rw [if_neg (by omega)]))
    (fun i hi ih => by
      refine Ev.step (fun k => ?_) ih
      simp only [laws_eqIntA2S.l0, laws_eqIntA2.f, Option.bind_some]
      rw [if_pos (by omega), if_pos (by omega), if_pos (by omega), w64s hi (by omega)]
      simp)
  unfold laws_eqIntA2S.f
  exact ev_pos rfl (key 0 (by omega))
theorem runs_len (V : List Int) : ∀ (m i : Nat) (out : List S54), (runs V m i out).length ≤ out.length + m
  | 0, _, _ => by simp [runs]
  | m + 1, i, out => by
    simp only [runs]
    have h := runs_len V m (i + 1) (runStep V i out)
    have h2 : (runStep V i out).length ≤ out.length + 1 := by
      unfold runStep
      split
      · omega
      · split
        · rw [List.length_set]; omega
        · rw [List.length_append, List.length_singleton]; omega
    omega
theorem unseenR_len (s : Int) (r : Bool) (l : List S59) : (unseenR s r l).1.length ≤ 1048576 := by
  unfold unseenR
  split
  · rename_i h
    have h1 := (sens_of h).1.1
    have h2 := runs_len (seenL s.toNat l) s.toNat 0 []
    simp only
    rw [List.length_nil] at h2
    omega
  · simp

theorem FnExactUnseenRuns : FnExactUnseenRunsLeft := by
  intro s r l0 _ hm _
  refine Ev.rounds (g := fun k => laws_FnExactUnseenRuns.f k s r l0) ?_
  unfold laws_FnExactUnseenRuns.f
  refine ev_bind0 (szSensorS_eq l0 hm) ?_
  by_cases h : 1048576 - (l0.length : Int) < 0
  · rw [if_pos h]; exact ev_pos (by omega) (Ev.now _)
  rw [if_neg h]
  refine ev_neg h ?_
  have hl0 : l0.length ≤ 1048576 := by omega
  have hl : (cvS l0).length ≤ 1048576 := by rw [cvS_len]; exact hl0
  have hr := unseenR_len s r (cvS l0)
  repeat (first
    | exact Ev.now _
    | (with_reducible refine Ev.bind (toSensorS_ev _ hl0) ?_; try dsimp only)
    | (with_reducible refine Ev.bind (specUnseen_ev _ _ _ hl) ?_; try dsimp only)
    | (with_reducible refine Ev.bind (implUnseen_ev _ _ _ hl) ?_; try dsimp only)
    | (with_reducible refine Ev.bind (markSensorS_ev _ _ hl (by omega) (by omega)) ?_; try dsimp only)
    | (with_reducible refine Ev.bind (markIntA2S_ev _ _ hr (by omega) (by omega)) ?_; try dsimp only)
    | (with_reducible refine Ev.bind (heldIntA2S_ev _ _ hr (by omega) (by omega)) ?_; try dsimp only)
    | (with_reducible refine Ev.bind (eqSensorS_self _ (by omega)) ?_; try dsimp only)
    | (with_reducible refine Ev.bind (eqIntA2S_self _ (by omega)) ?_; try dsimp only)
    | (refine ev_bind0 (toRoad_eq _ _) ?_; try dsimp only)
    | (refine ev_pos (by first | exact True.intro | rfl | assumption | omega) ?_; try dsimp only)
    | (refine ev_neg (by first | (simp; done) | omega) ?_; try dsimp only)
    | (refine Ev.step (fun k => by simp only [laws_FnExactUnseenRuns.j0]; rfl) ?_)
    | (refine Ev.step (fun k => by simp only [laws_FnExactUnseenRuns.j1]; rfl) ?_)
    | (refine Ev.step (fun k => by simp only [laws_FnExactUnseenRuns.j2]; rfl) ?_))

end Go.Proofs.Ytknfhoghimnieaa.Pure
