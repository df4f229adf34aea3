/- FnExactSpareSensors: the left statement: for every road, list of sensors (and number) the law answers true. No condition. -/
import Derived.Test.YtknfhoghimnieaaQFnExactSpareSensorsx9
import Derived.Test.YtknfhoghimnieaaBase
namespace Go.Proofs.Ytknfhoghimnieaa.Pure
open Go.RowKit Go.Proofs.Ytknfhoghimnieaa.QFnExactSpareSensors Go.Proofs.YtknfhoghimnieaaW.PrintWords Go.Proofs.YtknfhoghimnieaaW.PrintLast Go.Proofs.Ytknfhoghimnieaa.Base
set_option linter.unusedVariables false
set_option linter.unusedSimpArgs false

def FnExactSpareSensorsLeft : Prop := ∀ (a0_0 : Int) (a0_1 : Bool) (l1 : List S61), (Lit.int .i64 a0_0).wf = true → l1.length ≤ maxLen → (∀ x ∈ l1, (Lit.int .i64 x.f0).wf = true ∧ (Lit.int .i64 x.f1).wf = true) → ∃ k, laws_FnExactSpareSensors.f k a0_0 a0_1 l1 = some true

def cvS (l : List S61) : List S59 := tg l.length (fun q => ⟨(l.getD q z61).f0, (l.getD q z61).f1⟩)
theorem cvS_len (l : List S61) : (cvS l).length = l.length := tg_len _ _
theorem toSensorS_ev (l : List S61) (hl : l.length ≤ 1048576) : Ev (fun k => laws_toSensorS.f k l) (cvS l) := by
  have key := down (P := fun i => Ev (fun k => laws_toSensorS.l0 k l (tg l.length (fun q => if q < i then ⟨(l.getD q z61).f0, (l.getD q z61).f1⟩ else z59)) (i : Int)) (cvS l)) (n := l.length)
    (ev_now (fun k => by
      simp only [laws_toSensorS.l0]
      rw [if_neg (by omega)]
      congr 1
      exact tg_congr (fun q hq => by rw [if_pos hq])))
    (fun i hi ih => by
      refine Ev.step (fun k => ?_) ih
      simp only [laws_toSensorS.l0, laws_toSensor.f, Option.bind_some]
      rw [if_pos (by omega), if_pos (by omega), if_pos (by rw [tg_len]; omega), w64s hi (by omega), Int.toNat_natCast, tg_set]
      congr 1
      refine tg_congr (fun q _ => ?_)
      by_cases e : q = i
      · subst e; rw [if_pos rfl, if_pos (by omega)]; rfl
      · rw [if_neg e]
        by_cases e2 : q < i
        · rw [if_pos e2, if_pos (by omega)]
        · rw [if_neg e2, if_neg (by omega)])
  unfold laws_toSensorS.f
  refine ev_pos (by omega) (ev_pos (by omega) ?_)
  rw [Int.toNat_natCast, tg_rep]
  have k0 := key 0 (by omega)
  simpa using k0
theorem szSensorS_eq (l : List S61) (hl : l.length ≤ maxLen) : laws_szSensorS.f l 1048576 = some (if 1048576 - (l.length : Int) < 0 then -1 else 1048576 - (l.length : Int)) := by
  have hm : l.length ≤ 9223372036854775807 := by simpa [maxLen] using hl
  unfold laws_szSensorS.f
  rw [w64 (by omega) (by omega)]
  split <;> rfl
theorem toRoad_eq (s : Int) (r : Bool) : laws_toRoad.f s r = some (s, r) := rfl

theorem eqSensorS_self (l : List S59) (hl : l.length ≤ 1048576) : Ev (fun k => laws_eqSensorS.f k l l) true := by
  have key := down (P := fun i => Ev (fun k => laws_eqSensorS.l0 k l l (i : Int)) true) (n := l.length)
    (ev_now (fun k => by simp only [laws_eqSensorS.l0]; rw [if_neg (by omega)]))
    (fun i hi ih => by
      refine Ev.step (fun k => ?_) ih
      simp only [laws_eqSensorS.l0, laws_eqSensor.f, if_true, Option.bind_some]
      rw [if_pos (by omega), if_pos (by omega), if_pos (by omega), w64s hi (by omega)])
  unfold laws_eqSensorS.f
  exact ev_pos rfl (key 0 (by omega))

theorem eqIntS_ev (a b : List Int) (hl : a.length ≤ 1152921504606846976) : Ev (fun k => laws_eqIntS.f k a b) (decide (a = b)) := by
  by_cases h : a.length = b.length
  · have key := down (P := fun i => Ev (fun k => laws_eqIntS.l0 k a b (i : Int)) (decide (a.drop i = b.drop i))) (n := a.length)
      (ev_now (fun k => by
        simp only [laws_eqIntS.l0]
        rw [if_neg (by omega)]
        simp
        omega))
      (fun i hi ih => by
        rw [drop_cons hi, drop_cons (l := b) (by omega)]
        by_cases e : rd a (i : Int) = rd b (i : Int)
        · have e2 : decide (rd a (i : Int) :: a.drop (i + 1) = rd b (i : Int) :: b.drop (i + 1)) = decide (a.drop (i + 1) = b.drop (i + 1)) := by simp [e]
          rw [e2]
          refine Ev.step (fun k => ?_) ih
          simp only [laws_eqIntS.l0]
          rw [if_pos (by omega), if_pos (by omega), if_pos (by omega), if_pos e, w64s hi hl]
        · refine ev_now (fun k => ?_)
          simp only [laws_eqIntS.l0]
          rw [if_pos (by omega), if_pos (by omega), if_pos (by omega), if_neg e]
          simp [e])
    refine Ev.congr (fun k => ?_) (key 0 (by omega))
    unfold laws_eqIntS.f
    rw [if_pos (by omega)]
    rfl
  · refine Ev.congr (fun k => ?_) (Ev.now _)
    unfold laws_eqIntS.f
    rw [if_neg (by omega)]
    simp
    intro e
    exact h (by rw [e])
theorem eqIntS_self (a : List Int) (hl : a.length ≤ 1152921504606846976) : Ev (fun k => laws_eqIntS.f k a a) true := by
  have := eqIntS_ev a a hl
  simpa using this

theorem markIntS_ev (l : List Int) (a : Int) (hl : l.length ≤ 1048576) (ha : 0 ≤ a) (ha2 : a ≤ 1152921504606846976) : Ev (fun k => laws_markIntS.f k l a) (a + (l.length : Int), cnt a l.length) := by
  have key := down (P := fun i => Ev (fun k => laws_markIntS.l0 k (tab l.length (fun q => if q < i then a + q else rd l (q : Int))) (a + (i : Int)) (i : Int)) (a + (l.length : Int), cnt a l.length)) (n := l.length)
    (ev_now (fun k => by
      simp only [laws_markIntS.l0]
      rw [if_neg (by rw [tab_len]; omega)]
      congr 2
      exact tab_congr (fun q hq => by rw [if_pos hq])))
    (fun i hi ih => by
      refine Ev.step (fun k => ?_) ih
      simp only [laws_markIntS.l0]
      rw [if_pos (by rw [tab_len]; omega), if_pos (by omega), w64s hi (by omega), Int.toNat_natCast, tab_set, w64 (by omega) (by omega)]
      congr 1
      · refine tab_congr (fun q _ => ?_)
        by_cases e : q = i
        · subst e; rw [if_pos rfl, if_pos (by omega)]
        · rw [if_neg e]
          by_cases e2 : q < i
          · rw [if_pos e2, if_pos (by omega)]
          · rw [if_neg e2, if_neg (by omega)]
      · omega)
  refine Ev.congr (fun k => ?_) (key 0 (by omega))
  unfold laws_markIntS.f
  congr 1
  · rw [← tab_ext rfl (fun q _ => by rw [if_neg (by omega)])]
  · simp

theorem heldIntS_ev (n : Nat) (a : Int) (hl : n ≤ 1048576) (ha : 0 ≤ a) (ha2 : a ≤ 1152921504606846976) : Ev (fun k => laws_heldIntS.f k (cnt a n) a) (a + (n : Int)) := by
  have key := down (P := fun i => Ev (fun k => laws_heldIntS.l0 k (cnt a n) (a + (i : Int)) (i : Int)) (a + (n : Int))) (n := n)
    (ev_now (fun k => by
      simp only [laws_heldIntS.l0]
      rw [if_neg (by rw [cnt_len]; omega)]))
    (fun i hi ih => by
      refine Ev.step (fun k => ?_) ih
      simp only [laws_heldIntS.l0]
      rw [if_pos (by rw [cnt_len]; omega), if_pos (by omega), if_pos (by unfold cnt; rw [tab_rd hi]), w64s hi (by omega), w64 (by omega) (by omega)]
      congr 1
      omega)
  refine Ev.congr (fun k => ?_) (key 0 (by omega))
  unfold laws_heldIntS.f
  simp

def cntS (a : Int) (n : Nat) : List S59 := tg n (fun q => ⟨a + 2 * q, a + 2 * q + 1⟩)
theorem cntS_len (a : Int) (n : Nat) : (cntS a n).length = n := tg_len _ _
theorem markSensorS_ev (l : List S59) (a : Int) (hl : l.length ≤ 1048576) (ha : 0 ≤ a) (ha2 : a ≤ 1152921504606846976) : Ev (fun k => laws_markSensorS.f k l a) (a + 2 * (l.length : Int), cntS a l.length) := by
  have key := down (P := fun i => Ev (fun k => laws_markSensorS.l0 k (tg l.length (fun q => if q < i then ⟨a + 2 * q, a + 2 * q + 1⟩ else l.getD q z59)) (a + 2 * (i : Int)) (i : Int)) (a + 2 * (l.length : Int), cntS a l.length)) (n := l.length)
    (ev_now (fun k => by
      simp only [laws_markSensorS.l0]
      rw [if_neg (by rw [tg_len]; omega)]
      congr 2
      exact tg_congr (fun q hq => by rw [if_pos hq])))
    (fun i hi ih => by
      refine Ev.step (fun k => ?_) ih
      simp only [laws_markSensorS.l0, Option.bind_some, Int.toNat_natCast]
      rw [if_pos (by rw [tg_len]; omega), if_pos (by omega), w64s hi (by omega), w64 (x := a + 2 * (i : Int) + 1) (by omega) (by omega), w64 (by omega) (by omega), set_set_tg, tg_set]
      congr 1
      · refine tg_congr (fun q _ => ?_)
        by_cases e : q = i
        · subst e
          rw [if_pos rfl, if_pos (by omega)]
          congr 1
          show S59.f0 (List.getD _ (Int.toNat _) _) = _
          rw [Int.toNat_natCast, tg_set, tg_get hi, if_pos rfl]
        · rw [if_neg e]
          by_cases e2 : q < i
          · rw [if_pos e2, if_pos (by omega)]
          · rw [if_neg e2, if_neg (by omega)]
      · omega)
  have k0 := key 0 (by omega)
  unfold laws_markSensorS.f
  have e : tg l.length (fun q => if q < 0 then (⟨a + 2 * q, a + 2 * q + 1⟩ : S59) else l.getD q z59) = l := (tg_ext (d := z59) rfl (fun q _ => by rw [if_neg (by omega)])).symm
  rw [e] at k0
  simpa using k0

theorem l1In_eq (a b c : Int) : spec_l1In.f a b c = some (inR b c a) := by
  unfold spec_l1In.f inR
  by_cases h : a ≥ b
  · have h' : b ≤ a := h
    rw [if_pos h]; simp [h']
  · have h' : ¬ b ≤ a := h
    rw [if_neg h]; simp [h']

theorem within_eq (a b c : Int) : impl_within.f a b c = some (inR b c a) := by
  unfold impl_within.f inR
  by_cases h : a ≥ b
  · have h' : b ≤ a := h
    rw [if_pos h]; simp [h']
  · have h' : ¬ b ≤ a := h
    rw [if_neg h]; simp [h']

def lineV (s : Int) (r : Bool) : Bool := inR 2 24 s && !r
theorem line_of {s : Int} {r : Bool} (h : lineV s r = true) : (2 ≤ s ∧ s ≤ 24) ∧ r = false := by
  unfold lineV at h
  rw [Bool.and_eq_true, inR_iff] at h
  exact ⟨h.1, by simpa using h.2⟩
theorem l2Road_eq (s : Int) (r : Bool) : spec_l2Road.f s r = some (inR 2 24 s && (!r || decide (s > 2))) := by
  unfold spec_l2Road.f
  simp only [l1In_eq, Option.bind_some]
  cases inR 2 24 s <;> cases r <;> simp
theorem isRoad_eq (s : Int) (r : Bool) : impl_IsRoad.f s r = some (inR 2 24 s && (!r || decide (s > 2))) := by
  unfold impl_IsRoad.f
  simp only [within_eq, Option.bind_some]
  cases h : inR 2 24 s <;> cases r <;> simp <;> omega
theorem isLine_eq (s : Int) (r : Bool) : impl_isLine.f s r = some (lineV s r) := by
  unfold impl_isLine.f lineV
  simp only [isRoad_eq, Option.bind_some]
  cases inR 2 24 s <;> cases r <;> simp

theorem l3Line_eq (s : Int) (r : Bool) (a : Int) : spec_l3Line.f s r a = some (lineV s r && inR 0 (s - 1) a) := by
  unfold spec_l3Line.f lineV
  simp only [l2Road_eq, l1In_eq, Option.bind_some]
  cases h : inR 2 24 s with
  | false => simp
  | true =>
    have hs := inR_iff.1 h
    rw [w64 (by omega) (by omega)]
    cases r <;> simp

theorem allWithin_ev (l : List Int) (a b : Int) (hl : l.length ≤ 1152921504606846976) : Ev (fun k => impl_allWithin.f k l a b) (inAll a b l) := by
  have key := down (P := fun i => Ev (fun k => impl_allWithin.l0 k a b l (l.length : Int) (i : Int)) (inAll a b (l.drop i))) (n := l.length)
    (ev_now (fun k => by
      simp only [impl_allWithin.l0]
      rw [if_neg (by omega)]
      simp [inAll_nil]))
    (fun i hi ih => by
      rw [drop_cons hi, inAll_cons]
      cases hc : inR a b (rd l (i : Int)) with
      | true =>
        rw [Bool.true_and]
        refine Ev.step (fun k => ?_) ih
        simp only [impl_allWithin.l0, within_eq, Option.bind_some, hc, if_true]
        rw [if_pos (by omega), if_pos (by omega), if_pos (by omega), w64s hi hl]
      | false =>
        refine ev_now (fun k => ?_)
        simp only [impl_allWithin.l0, within_eq, Option.bind_some, hc, Bool.false_eq_true, if_false]
        rw [if_pos (by omega), if_pos (by omega), if_pos (by omega)]
        simp)
  exact key 0 (by omega)

def sC (s : Int) (l : List S59) (j : Nat) : Prop := (0 ≤ (l.getD j z59).f0 ∧ (l.getD j z59).f0 ≤ s - 1) ∧ 0 ≤ (l.getD j z59).f1 ∧ (l.getD j z59).f1 ≤ 12
instance (s : Int) (l : List S59) : DecidablePred (sC s l) := fun j => by unfold sC; infer_instance
def sensV (s : Int) (r : Bool) (l : List S59) : Bool := (lineV s r && decide ((l.length : Int) ≤ 6)) && allF l.length (sC s l) 0
theorem sens_of {s : Int} {r : Bool} {l : List S59} (h : sensV s r l = true) : ((2 ≤ s ∧ s ≤ 24) ∧ r = false) ∧ l.length ≤ 6 ∧ ∀ j, j < l.length → sC s l j := by
  unfold sensV at h
  rw [Bool.and_eq_true, Bool.and_eq_true] at h
  have := of_decide_eq_true h.1.2
  exact ⟨line_of h.1.1, by omega, allF_of h.2⟩
theorem rdT_nat (l : List S59) (j : Nat) : rd_T59 l (j : Int) = l.getD j z59 := rfl
theorem l9Sensors_ev (s : Int) (r : Bool) (l : List S59) (hl : l.length ≤ 1048576) : Ev (fun k => spec_l9Sensors.f k s r l) (sensV s r l) := by
  have key := down (P := fun i => Ev (fun k => spec_l9Sensors.l0 k l (i : Int) s r) ((lineV s r && decide ((l.length : Int) ≤ 6)) && allF l.length (sC s l) i)) (n := l.length)
    (ev_now (fun k => by
      simp only [spec_l9Sensors.l0, l2Road_eq, Option.bind_some]
      rw [if_neg (by omega), allF_end]
      unfold lineV
      cases inR 2 24 s <;> cases r <;> simp))
    (fun i hi ih => by
      rw [allF_step hi]
      have e3 : ∀ k, spec_l9Sensors.l0 (k + 1) l (i : Int) s r = if (lineV s r && inR 0 (s - 1) (l.getD i z59).f0) = true then (if inR 0 12 (l.getD i z59).f1 = true then spec_l9Sensors.l0 k l ((i + 1 : Nat) : Int) s r else some false) else some false := by
        intro k
        simp only [spec_l9Sensors.l0, l3Line_eq, l1In_eq, Option.bind_some, rdT_nat]
        rw [if_pos (by omega), if_pos (by omega), w64s hi (by omega)]
      cases hL : lineV s r with
      | false =>
        refine ev_now (fun k => ?_)
        rw [e3, hL]; simp
      | true =>
        rw [hL] at ih
        by_cases hc : sC s l i
        · rw [decide_eq_true hc, Bool.true_and]
          refine Ev.step (fun k => ?_) ih
          rw [e3, hL, Bool.true_and, if_pos (inR_iff.2 hc.1), if_pos (inR_iff.2 hc.2)]
        · rw [decide_eq_false hc, Bool.false_and, Bool.and_false]
          refine ev_now (fun k => ?_)
          rw [e3, hL, Bool.true_and]
          by_cases h1 : inR 0 (s - 1) (l.getD i z59).f0 = true
          · rw [if_pos h1, if_neg (fun h2 => hc ⟨inR_iff.1 h1, inR_iff.1 h2⟩)]
          · rw [if_neg h1])
  exact key 0 (by omega)
theorem areSensors_ev (s : Int) (r : Bool) (l : List S59) (hl : l.length ≤ 1048576) (hs : 2 ≤ s ∧ s ≤ 24) : Ev (fun k => impl_Road_areSensors.f k s r l) (decide ((l.length : Int) ≤ 6) && allF l.length (sC s l) 0) := by
  have key := down (P := fun i => Ev (fun k => impl_Road_areSensors.l0 k l l (l.length : Int) (i : Int) s r) (decide ((l.length : Int) ≤ 6) && allF l.length (sC s l) i)) (n := l.length)
    (ev_now (fun k => by
      simp only [impl_Road_areSensors.l0]
      rw [if_neg (by omega), allF_end, Bool.and_true]))
    (fun i hi ih => by
      rw [allF_step hi]
      have hh : Ev (fun k => impl_Road_has.f k s r [(l.getD i z59).f0]) (inR 0 (s - 1) (l.getD i z59).f0) := by
        unfold impl_Road_has.f
        rw [w64 (by omega) (by omega)]
        have := allWithin_ev [(l.getD i z59).f0] 0 (s - 1) (by simp)
        have e : inAll 0 (s - 1) [(l.getD i z59).f0] = inR 0 (s - 1) (l.getD i z59).f0 := by simp [inAll]
        rw [e] at this
        exact Ev.bind this (Ev.now _)
      refine Ev.step (f := fun k => (impl_Road_has.f k s r [(l.getD i z59).f0]).bind fun t => if t = true then (if inR 0 12 (l.getD i z59).f1 = true then impl_Road_areSensors.l0 k l l (l.length : Int) ((i + 1 : Nat) : Int) s r else some false) else some false) (fun k => ?_) (Ev.bind hh ?_)
      · simp only [impl_Road_areSensors.l0, within_eq, Option.bind_some, rdT_nat]
        rw [if_pos (by omega), if_pos (by omega), if_pos (by omega), w64s hi (by omega)]
      · by_cases hc : sC s l i
        · rw [decide_eq_true hc, Bool.true_and]
          exact ev_pos (inR_iff.2 hc.1) (ev_pos (inR_iff.2 hc.2) ih)
        · rw [decide_eq_false hc, Bool.false_and, Bool.and_false]
          by_cases h1 : inR 0 (s - 1) (l.getD i z59).f0 = true
          · exact ev_pos h1 (ev_neg (fun h2 => hc ⟨inR_iff.1 h1, inR_iff.1 h2⟩) (Ev.now _))
          · exact ev_neg h1 (Ev.now _))
  exact key 0 (by omega)

theorem isGuarded_ev (s : Int) (r : Bool) (l : List S59) (hl : l.length ≤ 1048576) : Ev (fun k => impl_isGuarded.f k s r l) (sensV s r l) := by
  unfold impl_isGuarded.f sensV
  simp only [isLine_eq, Option.bind_some]
  cases hL : lineV s r with
  | true =>
    refine ev_pos rfl ?_
    rw [Bool.true_and]
    exact Ev.bind (areSensors_ev s r l hl (line_of hL).1) (Ev.now _)
  | false => exact ev_neg (by simp) (Ev.now _)

theorem l1Most_eq (a b : Int) : spec_l1Most.f a b = some (mx a b) := by
  unfold spec_l1Most.f mx
  by_cases h : a > b
  · rw [if_pos h, if_neg (by omega)]
  · rw [if_neg h]
    by_cases h2 : a < b
    · rw [if_pos h2]
    · rw [if_neg h2]; congr 1; omega

theorem l2Gap_eq (s a p : Int) (h0 : 0 ≤ a ∧ a ≤ 1000000) (h1 : 0 ≤ p ∧ p ≤ 1000000) : spec_l2Gap.f s false a p = some (mx (a - p) (p - a)) := by
  unfold spec_l2Gap.f
  simp only [l1Most_eq, Option.bind_some, Bool.false_eq_true, if_false]
  rw [mx_abs (s := s) h0 h1]
theorem gap_eq (s a p : Int) (h0 : 0 ≤ a ∧ a ≤ 1000000) (h1 : 0 ≤ p ∧ p ≤ 1000000) : impl_Road_gap.f s false a p = some (mx (a - p) (p - a)) := by
  unfold impl_Road_gap.f
  simp only [Bool.false_eq_true, if_false]
  rw [mx_abs (s := s) h0 h1]

/-- Does sensor j see place p? -/
def see (l : List S59) (p : Nat) (j : Nat) : Int := if mx ((l.getD j z59).f0 - p) ((p : Int) - (l.getD j z59).f0) ≤ (l.getD j z59).f1 then 1 else 0
def seenP (l : List S59) (p : Nat) : Int := sm l.length (see l p)
def seenL (n : Nat) (l : List S59) : List Int := tab n (seenP l)
/-- Behind p whole places and i sensors of the next one. -/
def seenT (n : Nat) (l : List S59) (p i : Nat) : List Int := tab n (fun q => if q < p then seenP l q else if q = p then sm i (see l q) else 0)
theorem see_bd (l : List S59) (p i : Nat) : 0 ≤ sm i (see l p) ∧ sm i (see l p) ≤ i := sm_bound (fun q => by unfold see; split <;> omega) i
theorem seenT_next (n : Nat) (l : List S59) (p : Nat) : seenT n l p l.length = seenT n l (p + 1) 0 := by
  refine tab_congr (fun q _ => ?_)
  by_cases h1 : q < p
  · rw [if_pos h1, if_pos (by omega)]
  · rw [if_neg h1]
    by_cases h2 : q = p
    · rw [if_pos h2, if_pos (by omega)]; rfl
    · rw [if_neg h2, if_neg (by omega)]
      split <;> rfl
theorem seenT_step {n : Nat} {l : List S59} {p i : Nat} (hp : p < n) (hi : i ≤ 1000) : (if mx ((l.getD i z59).f0 - p) ((p : Int) - (l.getD i z59).f0) ≤ (l.getD i z59).f1 then (seenT n l p i).set p (wrap64 (rd (seenT n l p i) (p : Int) + 1)) else seenT n l p i) = seenT n l p (i + 1) := by
  have hb := see_bd l p i
  by_cases h : mx ((l.getD i z59).f0 - p) ((p : Int) - (l.getD i z59).f0) ≤ (l.getD i z59).f1
  · rw [if_pos h]
    unfold seenT
    rw [tab_rd hp, if_neg (by omega), if_pos rfl, w64 (by omega) (by omega), tab_set]
    refine tab_congr (fun q _ => ?_)
    by_cases e : q = p
    · subst e
      rw [if_pos rfl, if_neg (by omega), if_pos rfl, sm_succ]
      congr 1
      unfold see; rw [if_pos h]
    · rw [if_neg e]
      by_cases h1 : q < p
      · rw [if_pos h1, if_pos h1]
      · rw [if_neg h1, if_neg h1, if_neg e, if_neg e]
  · rw [if_neg h]
    refine tab_congr (fun q _ => ?_)
    by_cases h1 : q < p
    · rw [if_pos h1, if_pos h1]
    · rw [if_neg h1, if_neg h1]
      by_cases e : q = p
      · subst e
        rw [if_pos rfl, if_pos rfl, sm_succ]
        have : see l q i = 0 := by unfold see; rw [if_neg h]
        omega
      · rw [if_neg e, if_neg e]
theorem seenT_zero (n : Nat) (l : List S59) : List.replicate n 0 = seenT n l 0 0 := by
  rw [tab_rep]
  refine tab_congr (fun q _ => ?_)
  rw [if_neg (by omega)]
  split <;> rfl
theorem seenT_end (n : Nat) (l : List S59) : seenT n l n 0 = seenL n l := tab_congr (fun q hq => by rw [if_pos hq])
theorem seenT_len (n : Nat) (l : List S59) (p i : Nat) : (seenT n l p i).length = n := tab_len _ _
theorem l9Seen_ev (n : Nat) (l : List S59) (hv : sensV (n : Int) false l = true) : Ev (fun k => spec_l9Seen.f k (n : Int) false l) (seenL n l) := by
  have h := sens_of hv
  have key := down (P := fun p => Ev (fun k => spec_l9Seen.l0 k l (seenT n l p 0) (p : Int) (n : Int) false) (seenL n l)) (n := n)
    (ev_now (fun k => by simp only [spec_l9Seen.l0]; rw [if_neg (by omega), seenT_end]))
    (fun p hp ih => by
      refine Ev.step (f := fun k => spec_l9Seen.l1 k l (seenT n l p 0) (p : Int) ((0 : Nat) : Int) (n : Int) false) (fun k => by simp only [spec_l9Seen.l0]; rw [if_pos (by omega)]; rfl) ?_
      have inner := down (P := fun i => Ev (fun k => spec_l9Seen.l1 k l (seenT n l p i) (p : Int) (i : Int) (n : Int) false) (seenL n l)) (n := l.length)
        (by
          refine Ev.step (fun k => ?_) ih
          simp only [spec_l9Seen.l1]
          rw [if_neg (by omega), w64s hp (by omega), seenT_next])
        (fun i hi ihi => by
          have hc := (h.2.2 i hi).1
          rw [← seenT_step hp (by omega)] at ihi
          refine Ev.step (fun k => ?_) ihi
          simp only [spec_l9Seen.l1, rdT_nat]
          rw [if_pos (by omega), if_pos (by omega), l2Gap_eq _ _ _ (by omega) (by omega), Option.bind_some, w64s hi (by omega), if_pos (by omega), if_pos (by rw [seenT_len]; omega), Int.toNat_natCast]
          by_cases hg : mx ((l.getD i z59).f0 - p) ((p : Int) - (l.getD i z59).f0) ≤ (l.getD i z59).f1
          · simp only [hg, if_true]
          · simp only [hg, if_false])
      exact inner 0 (by omega))
  unfold spec_l9Seen.f
  refine ev_pos (by omega) (ev_pos (by omega) ?_)
  rw [Int.toNat_natCast, seenT_zero n l]
  exact key 0 (by omega)
theorem implSeen_ev (n : Nat) (l : List S59) (hv : sensV (n : Int) false l = true) : Ev (fun k => impl_Road_seen.f k (n : Int) false l) (seenL n l) := by
  have h := sens_of hv
  have key := down (P := fun p => Ev (fun k => impl_Road_seen.l0 k l (seenT n l p 0) (n : Int) (p : Int) (n : Int) false) (seenL n l)) (n := n)
    (ev_now (fun k => by simp only [impl_Road_seen.l0]; rw [if_neg (by omega), seenT_end]))
    (fun p hp ih => by
      refine Ev.step (f := fun k => impl_Road_seen.l1 k l (seenT n l p 0) (p : Int) (n : Int) (p : Int) l (l.length : Int) ((0 : Nat) : Int) (n : Int) false) (fun k => by simp only [impl_Road_seen.l0]; rw [if_pos (by omega)]; rfl) ?_
      have inner := down (P := fun i => Ev (fun k => impl_Road_seen.l1 k l (seenT n l p i) (p : Int) (n : Int) (p : Int) l (l.length : Int) (i : Int) (n : Int) false) (seenL n l)) (n := l.length)
        (by
          refine Ev.step (fun k => ?_) ih
          simp only [impl_Road_seen.l1]
          rw [if_neg (by omega), w64s hp (by omega), seenT_next])
        (fun i hi ihi => by
          have hc := (h.2.2 i hi).1
          rw [← seenT_step hp (by omega)] at ihi
          refine Ev.step (fun k => ?_) ihi
          simp only [impl_Road_seen.l1, rdT_nat]
          rw [if_pos (by omega), if_pos (by omega), if_pos (by omega), gap_eq _ _ _ (by omega) (by omega), Option.bind_some, w64s hi (by omega), if_pos (by omega), if_pos (by rw [seenT_len]; omega), Int.toNat_natCast]
          by_cases hg : mx ((l.getD i z59).f0 - p) ((p : Int) - (l.getD i z59).f0) ≤ (l.getD i z59).f1
          · simp only [hg, if_true]
          · simp only [hg, if_false])
      exact inner 0 (by omega))
  unfold impl_Road_seen.f
  refine ev_pos (by omega) (ev_pos (by omega) ?_)
  simp only [Option.bind_some]
  rw [Int.toNat_natCast, seenT_zero n l, seenT_len]
  exact key 0 (by omega)
theorem sens_nat {s : Int} {r : Bool} {l : List S59} (h : sensV s r l = true) : ∃ n : Nat, s = n ∧ r = false ∧ 2 ≤ n ∧ n ≤ 24 := by
  have := sens_of h
  exact ⟨s.toNat, by omega, this.1.2, by omega, by omega⟩

theorem slicesMin_ev (l : List Int) (h0 : 0 < l.length) (hl : l.length ≤ 1048576) : Ev (fun k => slices_Min_int_int.f k l) (rmin (rd l 0) (fun j => rd l ((j + 1 : Nat) : Int)) (l.length - 1)) := by
  have key := down (P := fun i => Ev (fun k => slices_Min_int_int.l0 k l (rmin (rd l 0) (fun j => rd l ((j + 1 : Nat) : Int)) i) ((i + 1 : Nat) : Int)) (rmin (rd l 0) (fun j => rd l ((j + 1 : Nat) : Int)) (l.length - 1))) (n := l.length - 1)
    (ev_now (fun k => by simp only [slices_Min_int_int.l0]; rw [if_neg (by omega)]))
    (fun i hi ih => by
      refine Ev.step (fun k => ?_) ih
      simp only [slices_Min_int_int.l0]
      rw [if_pos (by omega), if_pos (by omega), w64s (n := l.length) (by omega) (by omega)]
      rfl)
  unfold slices_Min_int_int.f
  exact ev_neg (by omega) (ev_pos (by omega) (key 0 (by omega)))

theorem l1Least_eq (a b : Int) : spec_l1Least.f a b = some (mn a b) := by
  unfold spec_l1Least.f mn
  by_cases h : a < b
  · rw [if_pos h, if_neg (by omega)]
  · rw [if_neg h]
    by_cases h2 : b < a
    · rw [if_pos h2]
    · rw [if_neg h2]; congr 1; omega
def strL (l : List Int) : Int := rmin (rd l 0) (fun j => rd l ((j + 1 : Nat) : Int)) (l.length - 1)
theorem l9Strength_ev (n : Nat) (l : List S59) (hv : sensV (n : Int) false l = true) : Ev (fun k => spec_l9Strength.f k (n : Int) false l) (strL (seenL n l)) := by
  have h := sens_of hv
  have hlen : (seenL n l).length = n := tab_len _ _
  unfold spec_l9Strength.f
  refine Ev.bind (l9Seen_ev n l hv) (ev_pos (by omega) ?_)
  have key := down (P := fun i => Ev (fun k => spec_l9Strength.l0 k (seenL n l) (rmin (rd (seenL n l) 0) (fun j => rd (seenL n l) ((j + 1 : Nat) : Int)) i) ((i + 1 : Nat) : Int) (n : Int) false) (strL (seenL n l))) (n := n - 1)
    (ev_now (fun k => by
      simp only [spec_l9Strength.l0]
      rw [if_neg (by omega)]
      unfold strL
      rw [hlen]))
    (fun i hi ih => by
      refine Ev.step (fun k => ?_) ih
      simp only [spec_l9Strength.l0, l1Least_eq, Option.bind_some]
      rw [if_pos (by omega), if_pos (by omega), if_pos (by omega), w64s (n := n) (by omega) (by omega)]
      rfl)
  exact key 0 (by omega)

def spP (n : Nat) (l : List S59) (i : Nat) : Bool := decide (0 < strL (seenL n (l.eraseIdx i)))
def spL (n : Nat) (l : List S59) (i : Nat) : List Int := ((List.range' i (l.length - i)).filter (spP n l)).map (fun i : Nat => (i : Int))
theorem spL_end (n : Nat) (l : List S59) : spL n l l.length = [] := by unfold spL; rw [Nat.sub_self]; rfl
theorem spL_step (n : Nat) {l : List S59} {i : Nat} (hi : i < l.length) : spL n l i = (if spP n l i = true then [(i : Int)] else []) ++ spL n l (i + 1) := by
  unfold spL
  rw [show l.length - i = (l.length - (i + 1)) + 1 by omega, List.range'_succ, List.filter_cons]
  by_cases h : spP n l i = true
  · rw [if_pos h, if_pos h]; rfl
  · rw [if_neg h, if_neg h]; rfl
theorem spL_len (n : Nat) (l : List S59) (i : Nat) : (spL n l i).length ≤ l.length := by
  unfold spL
  rw [List.length_map]
  refine Nat.le_trans (List.length_filter_le _ _) ?_
  rw [List.length_range']
  omega
theorem sens_erase {n : Nat} {l : List S59} (h : sensV (n : Int) false l = true) (i : Nat) : sensV (n : Int) false (l.eraseIdx i) = true := by
  obtain ⟨h1, h2, h3⟩ := sens_of h
  have hl : (l.eraseIdx i).length ≤ l.length := List.length_eraseIdx_le _ _
  unfold sensV at h ⊢
  rw [Bool.and_eq_true, Bool.and_eq_true] at h ⊢
  refine ⟨⟨h.1.1, decide_eq_true (by omega)⟩, decide_eq_true (fun j hj _ => ?_)⟩
  have e : ∃ j', j' < l.length ∧ (l.eraseIdx i).getD j z59 = l.getD j' z59 := by
    by_cases hji : j < i
    · exact ⟨j, by omega, by rw [List.getD_eq_getElem?_getD, List.getElem?_eraseIdx, if_pos hji, List.getD_eq_getElem?_getD]⟩
    · refine ⟨j + 1, ?_, by rw [List.getD_eq_getElem?_getD, List.getElem?_eraseIdx, if_neg hji, List.getD_eq_getElem?_getD]⟩
      by_cases hil : i < l.length
      · rw [List.length_eraseIdx_of_lt hil] at hj
        omega
      · rw [List.eraseIdx_of_length_le (by omega)] at hj
        omega
  obtain ⟨j', hj', e⟩ := e
  unfold sC
  rw [e]
  exact h3 j' hj'
def spareR (s : Int) (r : Bool) (l : List S59) : List Int × Bool := if sensV s r l = true then (spL s.toNat l 0, true) else ([], false)
theorem spareR_len (s : Int) (r : Bool) (l : List S59) (hl : l.length ≤ 1048576) : (spareR s r l).1.length ≤ 1048576 := by
  unfold spareR
  split
  · have := spL_len s.toNat l 0
    simp only
    omega
  · simp
theorem specSpare_ev (s : Int) (r : Bool) (l : List S59) (hl : l.length ≤ 1048576) : Ev (fun k => spec_SpareSensors.f k s r l) (spareR s r l) := by
  unfold spec_SpareSensors.f spareR
  simp only [Option.bind_some]
  refine Ev.bind (l9Sensors_ev s r l hl) ?_
  cases hv : sensV s r l with
  | true =>
    obtain ⟨n, rfl, rfl, _, _⟩ := sens_nat hv
    refine ev_pos rfl ?_
    have key := down (P := fun i => ∀ acc : List Int, acc.length ≤ i → Ev (fun k => spec_SpareSensors.l0 k l acc (i : Int) (n : Int) false) (acc ++ spL n l i, true)) (n := l.length)
      (fun acc _ => ev_now (fun k => by
        simp only [spec_SpareSensors.l0]
        rw [if_neg (by omega), spL_end, List.append_nil]))
      (fun i hi ih acc ha => by
        have e : (l.take i) ++ l.drop (i + 1) = l.eraseIdx i := (List.eraseIdx_eq_take_drop_succ l i).symm
        have e1 : (l.take i).length = i := by rw [List.length_take]; omega
        have e2 : (l.drop (i + 1)).length = l.length - (i + 1) := List.length_drop
        refine Ev.step (f := fun k => (spec_l9Strength.f k (n : Int) false (l.eraseIdx i)).bind fun t => if t > 0 then spec_SpareSensors.l0 k l (acc ++ [(i : Int)]) ((i + 1 : Nat) : Int) (n : Int) false else spec_SpareSensors.l0 k l acc ((i + 1 : Nat) : Int) (n : Int) false) (fun k => ?_) (Ev.bind (l9Strength_ev n _ (sens_erase hv i)) ?_)
        · simp only [spec_SpareSensors.l0, Option.bind_some, List.nil_append, List.length_nil, Nat.zero_add, w64s hi (show l.length ≤ 1152921504606846976 by omega), Int.toNat_natCast, e, e1, e2]
          rw [if_pos (by omega), if_pos (by omega), if_pos (by omega), if_pos (by omega), if_pos (by omega), if_pos (by omega), if_pos (by omega)]
          simp only [if_pos (show acc.length < 17592186044416 by omega)]
        · rw [spL_step n hi]
          by_cases h : 0 < strL (seenL n (l.eraseIdx i))
          · have hp : spP n l i = true := decide_eq_true h
            rw [if_pos hp, ← List.append_assoc]
            exact ev_pos h (ih _ (by rw [List.length_append, List.length_singleton]; omega))
          · have hp : ¬ spP n l i = true := by unfold spP; rw [decide_eq_false h]; decide
            rw [if_neg hp, List.nil_append]
            exact ev_neg h (ih _ (by omega)))
    exact key 0 (by omega) [] (by simp)
  | false => exact ev_neg (by simp) (Ev.now _)
theorem implSpare_ev (s : Int) (r : Bool) (l : List S59) (hl : l.length ≤ 1048576) : Ev (fun k => impl_SpareSensors.f k s r l) (spareR s r l) := by
  unfold impl_SpareSensors.f spareR
  refine Ev.bind (isGuarded_ev s r l hl) ?_
  cases hv : sensV s r l with
  | true =>
    obtain ⟨n, rfl, rfl, h2, h3⟩ := sens_nat hv
    refine ev_pos rfl ?_
    have key := down (P := fun i => ∀ acc : List Int, acc.length ≤ i → Ev (fun k => impl_SpareSensors.l0 k l acc (l.length : Int) (i : Int) (n : Int) false) (acc ++ spL n l i, true)) (n := l.length)
      (fun acc _ => ev_now (fun k => by
        simp only [impl_SpareSensors.l0]
        rw [if_neg (by omega), spL_end, List.append_nil]))
      (fun i hi ih acc ha => by
        have hlen : (seenL n (l.eraseIdx i)).length = n := tab_len _ _
        have ed : ∀ k, cloneDelete.f k l (i : Int) (wrap64 ((i : Int) + 1)) = some (l.eraseIdx i) := fun k => by
          unfold cloneDelete.f
          rw [if_pos ⟨by omega, by omega, rfl, by omega⟩, Int.toNat_natCast]
        refine Ev.step (f := fun k => (impl_Road_seen.f k (n : Int) false (l.eraseIdx i)).bind fun t => (slices_Min_int_int.f k t).bind fun u => if u > 0 then impl_SpareSensors.l0 k l (acc ++ [(i : Int)]) (l.length : Int) ((i + 1 : Nat) : Int) (n : Int) false else impl_SpareSensors.l0 k l acc (l.length : Int) ((i + 1 : Nat) : Int) (n : Int) false) (fun k => ?_) (Ev.bind (implSeen_ev n _ (sens_erase hv i)) (Ev.bind (slicesMin_ev (seenL n (l.eraseIdx i)) (by omega) (by omega)) ?_))
        · simp only [impl_SpareSensors.l0, ed, Option.bind_some]
          rw [if_pos (by omega), w64s hi (by omega)]
          simp only [if_pos (show acc.length < 17592186044416 by omega)]
        · rw [spL_step n hi]
          by_cases h : 0 < strL (seenL n (l.eraseIdx i))
          · have hp : spP n l i = true := decide_eq_true h
            rw [if_pos hp, ← List.append_assoc]
            exact ev_pos h (ih _ (by rw [List.length_append, List.length_singleton]; omega))
          · have hp : ¬ spP n l i = true := by unfold spP; rw [decide_eq_false h]; decide
            rw [if_neg hp, List.nil_append]
            exact ev_neg h (ih _ (by omega)))
    exact key 0 (by omega) [] (by simp)
  | false => exact ev_neg (by simp) (Ev.now _)

theorem FnExactSpareSensors : FnExactSpareSensorsLeft := by
  intro s r l0 _ hm _
  refine Ev.rounds (g := fun k => laws_FnExactSpareSensors.f k s r l0) ?_
  unfold laws_FnExactSpareSensors.f
  refine ev_bind0 (szSensorS_eq l0 hm) ?_
  by_cases h : 1048576 - (l0.length : Int) < 0
  · rw [if_pos h]; exact ev_pos (by omega) (Ev.now _)
  rw [if_neg h]
  refine ev_neg h ?_
  have hl0 : l0.length ≤ 1048576 := by omega
  have hl : (cvS l0).length ≤ 1048576 := by rw [cvS_len]; exact hl0
  have hr := spareR_len s r (cvS l0) hl
  repeat (first
    | exact Ev.now _
    | (with_reducible refine Ev.bind (toSensorS_ev _ hl0) ?_; try dsimp only)
    | (with_reducible refine Ev.bind (specSpare_ev _ _ _ hl) ?_; try dsimp only)
    | (with_reducible refine Ev.bind (implSpare_ev _ _ _ hl) ?_; try dsimp only)
    | (with_reducible refine Ev.bind (markSensorS_ev _ _ hl (by omega) (by omega)) ?_; try dsimp only)
    | (with_reducible refine Ev.bind (markIntS_ev _ _ hr (by omega) (by omega)) ?_; try dsimp only)
    | (with_reducible refine Ev.bind (heldIntS_ev _ _ hr (by omega) (by omega)) ?_; try dsimp only)
    | (with_reducible refine Ev.bind (eqSensorS_self _ (by omega)) ?_; try dsimp only)
    | (with_reducible refine Ev.bind (eqIntS_self _ (by omega)) ?_; try dsimp only)
    | (refine ev_bind0 (toRoad_eq _ _) ?_; try dsimp only)
    | (refine ev_pos (by first | exact True.intro | rfl | assumption | omega) ?_; try dsimp only)
    | (refine ev_neg (by first | (simp; done) | omega) ?_; try dsimp only)
    | (refine Ev.step (fun k => by simp only [laws_FnExactSpareSensors.j0]; rfl) ?_)
    | (refine Ev.step (fun k => by simp only [laws_FnExactSpareSensors.j1]; rfl) ?_)
    | (refine Ev.step (fun k => by simp only [laws_FnExactSpareSensors.j2]; rfl) ?_))

end Go.Proofs.Ytknfhoghimnieaa.Pure
