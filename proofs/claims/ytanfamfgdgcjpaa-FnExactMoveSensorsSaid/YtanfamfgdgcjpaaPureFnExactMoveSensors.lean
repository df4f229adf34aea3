/- FnExactMoveSensors: the left statement: for every road, list of sensors (and number) the law answers true. No condition. -/
import Derived.Test.YtanfamfgdgcjpaaPFnExactMoveSensorsx6
import Derived.Test.YtanfamfgdgcjpaaBase
namespace Go.Proofs.Ytanfamfgdgcjpaa.Pure
open Go.RowKit Go.Proofs.Ytanfamfgdgcjpaa.PFnExactMoveSensors Go.Proofs.YtanfamfgdgcjpaaW.PrintWords Go.Proofs.YtanfamfgdgcjpaaW.PrintLast Go.Proofs.Ytanfamfgdgcjpaa.Base
set_option linter.unusedVariables false
set_option linter.unusedSimpArgs false

def FnExactMoveSensorsLeft : Prop := ∀ (a0_0 : Int) (a0_1 : Bool) (l1 : List S66) (l2 : List Int), (Lit.int .i64 a0_0).wf = true → l1.length ≤ maxLen → (∀ x ∈ l1, (Lit.int .i64 x.f0).wf = true ∧ (Lit.int .i64 x.f1).wf = true) → l2.length ≤ maxLen → (∀ x ∈ l2, (Lit.int .i64 x).wf = true) → ∃ k, laws_FnExactMoveSensors.f k a0_0 a0_1 l1 l2 = some true

def cvS (l : List S66) : List S58 := tg l.length (fun q => ⟨(l.getD q z66).f0, (l.getD q z66).f1⟩)
theorem cvS_len (l : List S66) : (cvS l).length = l.length := tg_len _ _
theorem toSensorS_ev (l : List S66) (hl : l.length ≤ 1048576) : Ev (fun k => laws_toSensorS.f k l) (cvS l) := by
  have key := down (P := fun i => Ev (fun k => laws_toSensorS.l0 k l (tg l.length (fun q => if q < i then ⟨(l.getD q z66).f0, (l.getD q z66).f1⟩ else z58)) (i : Int)) (cvS l)) (n := l.length)
    (ev_now (fun k => by
      simp only [laws_toSensorS.l0]
      rw [if_neg (by omega)]
      congr 1
      exact tg_congr (fun q hq => by rw [if_pos hq])))
    (fun i hi ih => by
      refine Ev.step (fun k => ?_) ih
      simp only [laws_toSensorS.l0, laws_toSensor.f, Option.bind_some]
      rw [if_pos (by omega), if_pos (by omega), if_pos (by rw [tg_len]; omega), w64s hi (by omega), Int.toNat_natCast, tg_set]
      congr 1
      refine tg_congr (fun q _ => ?_)
      by_cases e : q = i
      · subst e; rw [if_pos rfl, if_pos (by omega)]; rfl
      · rw [if_neg e]
        by_cases e2 : q < i
        · rw [if_pos e2, if_pos (by omega)]
        · rw [if_neg e2, if_neg (by omega)])
  unfold laws_toSensorS.f
  refine ev_pos (by omega) (ev_pos (by omega) ?_)
  rw [Int.toNat_natCast, tg_rep]
  have k0 := key 0 (by omega)
  simpa using k0
theorem szSensorS_eq (l : List S66) (hl : l.length ≤ maxLen) : laws_szSensorS.f l 1048576 = some (if 1048576 - (l.length : Int) < 0 then -1 else 1048576 - (l.length : Int)) := by
  have hm : l.length ≤ 9223372036854775807 := by simpa [maxLen] using hl
  unfold laws_szSensorS.f
  rw [w64 (by omega) (by omega)]
  split <;> rfl
theorem toRoad_eq (s : Int) (r : Bool) : laws_toRoad.f s r = some (s, r) := rfl

theorem eqSensorS_self (l : List S58) (hl : l.length ≤ 1048576) : Ev (fun k => laws_eqSensorS.f k l l) true := by
  have key := down (P := fun i => Ev (fun k => laws_eqSensorS.l0 k l l (i : Int)) true) (n := l.length)
    (ev_now (fun k => by simp only [laws_eqSensorS.l0]; rw [if_neg (by omega)]))
    (fun i hi ih => by
      refine Ev.step (fun k => ?_) ih
      simp only [laws_eqSensorS.l0, laws_eqSensor.f, if_true, Option.bind_some]
      rw [if_pos (by omega), if_pos (by omega), if_pos (by omega), w64s hi (by omega)])
  unfold laws_eqSensorS.f
  exact ev_pos rfl (key 0 (by omega))

theorem toIntS_ev (l : List Int) (hl : l.length ≤ 1048576) : Ev (fun k => laws_toIntS.f k l) l := by
  have key := down (P := fun i => Ev (fun k => laws_toIntS.l0 k l (tab l.length (fun q => if q < i then rd l (q : Int) else 0)) (i : Int)) l) (n := l.length)
    (ev_now (fun k => by
      simp only [laws_toIntS.l0]
      rw [if_neg (by omega)]
      congr 1
      exact (tab_ext rfl (fun q hq => by rw [if_pos hq])).symm))
    (fun i hi ih => by
      refine Ev.step (fun k => ?_) ih
      simp only [laws_toIntS.l0]
      rw [if_pos (by omega), if_pos (by omega), if_pos (by rw [tab_len]; omega), w64s hi (by omega), Int.toNat_natCast, tab_set]
      congr 1
      refine tab_congr (fun q _ => ?_)
      by_cases e : q = i
      · subst e; rw [if_pos rfl, if_pos (by omega)]
      · rw [if_neg e]
        by_cases e2 : q < i
        · rw [if_pos e2, if_pos (by omega)]
        · rw [if_neg e2, if_neg (by omega)])
  refine Ev.congr (fun k => ?_) (key 0 (by omega))
  unfold laws_toIntS.f
  rw [if_pos (by omega), if_pos (by omega), Int.toNat_natCast, tab_rep]
  simp

theorem eqIntS_ev (a b : List Int) (hl : a.length ≤ 1152921504606846976) : Ev (fun k => laws_eqIntS.f k a b) (decide (a = b)) := by
  by_cases h : a.length = b.length
  · have key := down (P := fun i => Ev (fun k => laws_eqIntS.l0 k a b (i : Int)) (decide (a.drop i = b.drop i))) (n := a.length)
      (ev_now (fun k => by
        simp only [laws_eqIntS.l0]
        rw [if_neg (by omega)]
        simp
        omega))
      (fun i hi ih => by
        rw [drop_cons hi, drop_cons (l := b) (by omega)]
        by_cases e : rd a (i : Int) = rd b (i : Int)
        · have e2 : decide (rd a (i : Int) :: a.drop (i + 1) = rd b (i : Int) :: b.drop (i + 1)) = decide (a.drop (i + 1) = b.drop (i + 1)) := by simp [e]
          rw [e2]
          refine Ev.step (fun k => ?_) ih
          simp only [laws_eqIntS.l0]
          rw [if_pos (by omega), if_pos (by omega), if_pos (by omega), if_pos e, w64s hi hl]
        · refine ev_now (fun k => ?_)
          simp only [laws_eqIntS.l0]
          rw [if_pos (by omega), if_pos (by omega), if_pos (by omega), if_neg e]
          simp [e])
    refine Ev.congr (fun k => ?_) (key 0 (by omega))
    unfold laws_eqIntS.f
    rw [if_pos (by omega)]
    rfl
  · refine Ev.congr (fun k => ?_) (Ev.now _)
    unfold laws_eqIntS.f
    rw [if_neg (by omega)]
    simp
    intro e
    exact h (by rw [e])
theorem eqIntS_self (a : List Int) (hl : a.length ≤ 1152921504606846976) : Ev (fun k => laws_eqIntS.f k a a) true := by
  have := eqIntS_ev a a hl
  simpa using this

theorem markIntS_ev (l : List Int) (a : Int) (hl : l.length ≤ 1048576) (ha : 0 ≤ a) (ha2 : a ≤ 1152921504606846976) : Ev (fun k => laws_markIntS.f k l a) (a + (l.length : Int), cnt a l.length) := by
  have key := down (P := fun i => Ev (fun k => laws_markIntS.l0 k (tab l.length (fun q => if q < i then a + q else rd l (q : Int))) (a + (i : Int)) (i : Int)) (a + (l.length : Int), cnt a l.length)) (n := l.length)
    (ev_now (fun k => by
      simp only [laws_markIntS.l0]
      rw [if_neg (by rw [tab_len]; omega)]
      congr 2
      exact tab_congr (fun q hq => by rw [if_pos hq])))
    (fun i hi ih => by
      refine Ev.step (fun k => ?_) ih
      simp only [laws_markIntS.l0]
      rw [if_pos (by rw [tab_len]; omega), if_pos (by omega), w64s hi (by omega), Int.toNat_natCast, tab_set, w64 (by omega) (by omega)]
      congr 1
      · refine tab_congr (fun q _ => ?_)
        by_cases e : q = i
        · subst e; rw [if_pos rfl, if_pos (by omega)]
        · rw [if_neg e]
          by_cases e2 : q < i
          · rw [if_pos e2, if_pos (by omega)]
          · rw [if_neg e2, if_neg (by omega)]
      · omega)
  refine Ev.congr (fun k => ?_) (key 0 (by omega))
  unfold laws_markIntS.f
  congr 1
  · rw [← tab_ext rfl (fun q _ => by rw [if_neg (by omega)])]
  · simp

def cntS (a : Int) (n : Nat) : List S58 := tg n (fun q => ⟨a + 2 * q, a + 2 * q + 1⟩)
theorem cntS_len (a : Int) (n : Nat) : (cntS a n).length = n := tg_len _ _
theorem markSensorS_ev (l : List S58) (a : Int) (hl : l.length ≤ 1048576) (ha : 0 ≤ a) (ha2 : a ≤ 1152921504606846976) : Ev (fun k => laws_markSensorS.f k l a) (a + 2 * (l.length : Int), cntS a l.length) := by
  have key := down (P := fun i => Ev (fun k => laws_markSensorS.l0 k (tg l.length (fun q => if q < i then ⟨a + 2 * q, a + 2 * q + 1⟩ else l.getD q z58)) (a + 2 * (i : Int)) (i : Int)) (a + 2 * (l.length : Int), cntS a l.length)) (n := l.length)
    (ev_now (fun k => by
      simp only [laws_markSensorS.l0]
      rw [if_neg (by rw [tg_len]; omega)]
      congr 2
      exact tg_congr (fun q hq => by rw [if_pos hq])))
    (fun i hi ih => by
      refine Ev.step (fun k => ?_) ih
      simp only [laws_markSensorS.l0, Option.bind_some, Int.toNat_natCast]
      rw [if_pos (by rw [tg_len]; omega), if_pos (by omega), w64s hi (by omega), w64 (x := a + 2 * (i : Int) + 1) (by omega) (by omega), w64 (by omega) (by omega), set_set_tg, tg_set]
      congr 1
      · refine tg_congr (fun q _ => ?_)
        by_cases e : q = i
        · subst e
          rw [if_pos rfl, if_pos (by omega)]
          congr 1
          show S58.f0 (List.getD _ (Int.toNat _) _) = _
          rw [Int.toNat_natCast, tg_set, tg_get hi, if_pos rfl]
        · rw [if_neg e]
          by_cases e2 : q < i
          · rw [if_pos e2, if_pos (by omega)]
          · rw [if_neg e2, if_neg (by omega)]
      · omega)
  have k0 := key 0 (by omega)
  unfold laws_markSensorS.f
  have e : tg l.length (fun q => if q < 0 then (⟨a + 2 * q, a + 2 * q + 1⟩ : S58) else l.getD q z58) = l := (tg_ext (d := z58) rfl (fun q _ => by rw [if_neg (by omega)])).symm
  rw [e] at k0
  simpa using k0

theorem heldSensorS_ev (n : Nat) (a : Int) (hl : n ≤ 1048576) (ha : 0 ≤ a) (ha2 : a ≤ 1152921504606846976) : Ev (fun k => laws_heldSensorS.f k (cntS a n) a) (a + 2 * (n : Int)) := by
  have key := down (P := fun i => Ev (fun k => laws_heldSensorS.l0 k (cntS a n) (a + 2 * (i : Int)) (i : Int)) (a + 2 * (n : Int))) (n := n)
    (ev_now (fun k => by
      simp only [laws_heldSensorS.l0]
      rw [if_neg (by rw [cntS_len]; omega)]))
    (fun i hi ih => by
      refine Ev.step (fun k => ?_) ih
      have g : rd_T58 (cntS a n) (i : Int) = ⟨a + 2 * i, a + 2 * i + 1⟩ := by
        show List.getD _ (Int.toNat _) _ = _
        rw [Int.toNat_natCast]; unfold cntS; rw [tg_get hi]
      simp only [laws_heldSensorS.l0, g, if_true]
      rw [if_pos (by rw [cntS_len]; omega), if_pos (by omega), w64 (x := a + 2 * (i : Int) + 1) (by omega) (by omega), if_pos rfl, w64s hi (by omega), w64 (by omega) (by omega)]
      congr 1
      omega)
  have k0 := key 0 (by omega)
  unfold laws_heldSensorS.f
  simpa using k0

theorem l1In_eq (a b c : Int) : spec_l1In.f a b c = some (inR b c a) := by
  unfold spec_l1In.f inR
  by_cases h : a ≥ b
  · have h' : b ≤ a := h
    rw [if_pos h]; simp [h']
  · have h' : ¬ b ≤ a := h
    rw [if_neg h]; simp [h']

theorem within_eq (a b c : Int) : impl_within.f a b c = some (inR b c a) := by
  unfold impl_within.f inR
  by_cases h : a ≥ b
  · have h' : b ≤ a := h
    rw [if_pos h]; simp [h']
  · have h' : ¬ b ≤ a := h
    rw [if_neg h]; simp [h']

def lineV (s : Int) (r : Bool) : Bool := inR 2 24 s && !r
theorem line_of {s : Int} {r : Bool} (h : lineV s r = true) : (2 ≤ s ∧ s ≤ 24) ∧ r = false := by
  unfold lineV at h
  rw [Bool.and_eq_true, inR_iff] at h
  exact ⟨h.1, by simpa using h.2⟩
theorem l2Road_eq (s : Int) (r : Bool) : spec_l2Road.f s r = some (inR 2 24 s && (!r || decide (s > 2))) := by
  unfold spec_l2Road.f
  simp only [l1In_eq, Option.bind_some]
  cases inR 2 24 s <;> cases r <;> simp
theorem isRoad_eq (s : Int) (r : Bool) : impl_IsRoad.f s r = some (inR 2 24 s && (!r || decide (s > 2))) := by
  unfold impl_IsRoad.f
  simp only [within_eq, Option.bind_some]
  cases h : inR 2 24 s <;> cases r <;> simp <;> omega
theorem isLine_eq (s : Int) (r : Bool) : impl_isLine.f s r = some (lineV s r) := by
  unfold impl_isLine.f lineV
  simp only [isRoad_eq, Option.bind_some]
  cases inR 2 24 s <;> cases r <;> simp

theorem l3Line_eq (s : Int) (r : Bool) (a : Int) : spec_l3Line.f s r a = some (lineV s r && inR 0 (s - 1) a) := by
  unfold spec_l3Line.f lineV
  simp only [l2Road_eq, l1In_eq, Option.bind_some]
  cases h : inR 2 24 s with
  | false => simp
  | true =>
    have hs := inR_iff.1 h
    rw [w64 (by omega) (by omega)]
    cases r <;> simp

theorem allWithin_ev (l : List Int) (a b : Int) (hl : l.length ≤ 1152921504606846976) : Ev (fun k => impl_allWithin.f k l a b) (inAll a b l) := by
  have key := down (P := fun i => Ev (fun k => impl_allWithin.l0 k a b l (l.length : Int) (i : Int)) (inAll a b (l.drop i))) (n := l.length)
    (ev_now (fun k => by
      simp only [impl_allWithin.l0]
      rw [if_neg (by omega)]
      simp [inAll_nil]))
    (fun i hi ih => by
      rw [drop_cons hi, inAll_cons]
      cases hc : inR a b (rd l (i : Int)) with
      | true =>
        rw [Bool.true_and]
        refine Ev.step (fun k => ?_) ih
        simp only [impl_allWithin.l0, within_eq, Option.bind_some, hc, if_true]
        rw [if_pos (by omega), if_pos (by omega), if_pos (by omega), w64s hi hl]
      | false =>
        refine ev_now (fun k => ?_)
        simp only [impl_allWithin.l0, within_eq, Option.bind_some, hc, Bool.false_eq_true, if_false]
        rw [if_pos (by omega), if_pos (by omega), if_pos (by omega)]
        simp)
  exact key 0 (by omega)

def sC (s : Int) (l : List S58) (j : Nat) : Prop := (0 ≤ (l.getD j z58).f0 ∧ (l.getD j z58).f0 ≤ s - 1) ∧ 0 ≤ (l.getD j z58).f1 ∧ (l.getD j z58).f1 ≤ 12
instance (s : Int) (l : List S58) : DecidablePred (sC s l) := fun j => by unfold sC; infer_instance
def sensV (s : Int) (r : Bool) (l : List S58) : Bool := (lineV s r && decide ((l.length : Int) ≤ 6)) && allF l.length (sC s l) 0
theorem sens_of {s : Int} {r : Bool} {l : List S58} (h : sensV s r l = true) : ((2 ≤ s ∧ s ≤ 24) ∧ r = false) ∧ l.length ≤ 6 ∧ ∀ j, j < l.length → sC s l j := by
  unfold sensV at h
  rw [Bool.and_eq_true, Bool.and_eq_true] at h
  have := of_decide_eq_true h.1.2
  exact ⟨line_of h.1.1, by omega, allF_of h.2⟩
theorem rdT_nat (l : List S58) (j : Nat) : rd_T58 l (j : Int) = l.getD j z58 := rfl
theorem l9Sensors_ev (s : Int) (r : Bool) (l : List S58) (hl : l.length ≤ 1048576) : Ev (fun k => spec_l9Sensors.f k s r l) (sensV s r l) := by
  have key := down (P := fun i => Ev (fun k => spec_l9Sensors.l0 k l (i : Int) s r) ((lineV s r && decide ((l.length : Int) ≤ 6)) && allF l.length (sC s l) i)) (n := l.length)
    (ev_now (fun k => by
      simp only [spec_l9Sensors.l0, l2Road_eq, Option.bind_some]
      rw [if_neg (by omega), allF_end]
      unfold lineV
      cases inR 2 24 s <;> cases r <;> simp))
    (fun i hi ih => by
      rw [allF_step hi]
      have e3 : ∀ k, spec_l9Sensors.l0 (k + 1) l (i : Int) s r = if (lineV s r && inR 0 (s - 1) (l.getD i z58).f0) = true then (if inR 0 12 (l.getD i z58).f1 = true then spec_l9Sensors.l0 k l ((i + 1 : Nat) : Int) s r else some false) else some false := by
        intro k
        simp only [spec_l9Sensors.l0, l3Line_eq, l1In_eq, Option.bind_some, rdT_nat]
        rw [if_pos (by omega), if_pos (by omega), w64s hi (by omega)]
      cases hL : lineV s r with
      | false =>
        refine ev_now (fun k => ?_)
        rw [e3, hL]; simp
      | true =>
        rw [hL] at ih
        by_cases hc : sC s l i
        · rw [decide_eq_true hc, Bool.true_and]
          refine Ev.step (fun k => ?_) ih
          rw [e3, hL, Bool.true_and, if_pos (inR_iff.2 hc.1), if_pos (inR_iff.2 hc.2)]
        · rw [decide_eq_false hc, Bool.false_and, Bool.and_false]
          refine ev_now (fun k => ?_)
          rw [e3, hL, Bool.true_and]
          by_cases h1 : inR 0 (s - 1) (l.getD i z58).f0 = true
          · rw [if_pos h1, if_neg (fun h2 => hc ⟨inR_iff.1 h1, inR_iff.1 h2⟩)]
          · rw [if_neg h1])
  exact key 0 (by omega)
theorem areSensors_ev (s : Int) (r : Bool) (l : List S58) (hl : l.length ≤ 1048576) (hs : 2 ≤ s ∧ s ≤ 24) : Ev (fun k => impl_Road_areSensors.f k s r l) (decide ((l.length : Int) ≤ 6) && allF l.length (sC s l) 0) := by
  have key := down (P := fun i => Ev (fun k => impl_Road_areSensors.l0 k l l (l.length : Int) (i : Int) s r) (decide ((l.length : Int) ≤ 6) && allF l.length (sC s l) i)) (n := l.length)
    (ev_now (fun k => by
      simp only [impl_Road_areSensors.l0]
      rw [if_neg (by omega), allF_end, Bool.and_true]))
    (fun i hi ih => by
      rw [allF_step hi]
      have hh : Ev (fun k => impl_Road_has.f k s r [(l.getD i z58).f0]) (inR 0 (s - 1) (l.getD i z58).f0) := by
        unfold impl_Road_has.f
        rw [w64 (by omega) (by omega)]
        have := allWithin_ev [(l.getD i z58).f0] 0 (s - 1) (by simp)
        have e : inAll 0 (s - 1) [(l.getD i z58).f0] = inR 0 (s - 1) (l.getD i z58).f0 := by simp [inAll]
        rw [e] at this
        exact Ev.bind this (Ev.now _)
      refine Ev.step (f := fun k => (impl_Road_has.f k s r [(l.getD i z58).f0]).bind fun t => if t = true then (if inR 0 12 (l.getD i z58).f1 = true then impl_Road_areSensors.l0 k l l (l.length : Int) ((i + 1 : Nat) : Int) s r else some false) else some false) (fun k => ?_) (Ev.bind hh ?_)
      · simp only [impl_Road_areSensors.l0, within_eq, Option.bind_some, rdT_nat]
        rw [if_pos (by omega), if_pos (by omega), if_pos (by omega), w64s hi (by omega)]
      · by_cases hc : sC s l i
        · rw [decide_eq_true hc, Bool.true_and]
          exact ev_pos (inR_iff.2 hc.1) (ev_pos (inR_iff.2 hc.2) ih)
        · rw [decide_eq_false hc, Bool.false_and, Bool.and_false]
          by_cases h1 : inR 0 (s - 1) (l.getD i z58).f0 = true
          · exact ev_pos h1 (ev_neg (fun h2 => hc ⟨inR_iff.1 h1, inR_iff.1 h2⟩) (Ev.now _))
          · exact ev_neg h1 (Ev.now _))
  exact key 0 (by omega)

theorem isGuarded_ev (s : Int) (r : Bool) (l : List S58) (hl : l.length ≤ 1048576) : Ev (fun k => impl_isGuarded.f k s r l) (sensV s r l) := by
  unfold impl_isGuarded.f sensV
  simp only [isLine_eq, Option.bind_some]
  cases hL : lineV s r with
  | true =>
    refine ev_pos rfl ?_
    rw [Bool.true_and]
    exact Ev.bind (areSensors_ev s r l hl (line_of hL).1) (Ev.now _)
  | false => exact ev_neg (by simp) (Ev.now _)

theorem l1Most_eq (a b : Int) : spec_l1Most.f a b = some (mx a b) := by
  unfold spec_l1Most.f mx
  by_cases h : a > b
  · rw [if_pos h, if_neg (by omega)]
  · rw [if_neg h]
    by_cases h2 : a < b
    · rw [if_pos h2]
    · rw [if_neg h2]; congr 1; omega

theorem l2Gap_eq (s a p : Int) (h0 : 0 ≤ a ∧ a ≤ 1000000) (h1 : 0 ≤ p ∧ p ≤ 1000000) : spec_l2Gap.f s false a p = some (mx (a - p) (p - a)) := by
  unfold spec_l2Gap.f
  simp only [l1Most_eq, Option.bind_some, Bool.false_eq_true, if_false]
  rw [mx_abs (s := s) h0 h1]
theorem gap_eq (s a p : Int) (h0 : 0 ≤ a ∧ a ≤ 1000000) (h1 : 0 ≤ p ∧ p ≤ 1000000) : impl_Road_gap.f s false a p = some (mx (a - p) (p - a)) := by
  unfold impl_Road_gap.f
  simp only [Bool.false_eq_true, if_false]
  rw [mx_abs (s := s) h0 h1]

def mvG (l : List S58) (P : List Int) (j : Nat) : Int := mx ((l.getD j z58).f0 - rd P (j : Int)) (rd P (j : Int) - (l.getD j z58).f0)
def mvS (l : List S58) (P : List Int) (n : Nat) : List S58 := tg n (fun q => ⟨rd P (q : Int), (l.getD q z58).f1⟩)
theorem mvS_succ (l : List S58) (P : List Int) (i : Nat) : mvS l P i ++ [⟨rd P (i : Int), (l.getD i z58).f1⟩] = mvS l P (i + 1) := tg_snoc i (fun q => (⟨rd P (q : Int), (l.getD q z58).f1⟩ : S58))
def mvOk (l : List S58) (P : List Int) : List S58 × Int × Int × Bool := (mvS l P l.length, rmax 0 (mvG l P) l.length, sm l.length (mvG l P), true)
def mvR (s : Int) (r : Bool) (l : List S58) (P : List Int) : List S58 × Int × Int × Bool := if sensV s r l = true ∧ P.length = l.length ∧ inAll 0 (s - 1) P = true then mvOk l P else ([], 0, 0, false)
theorem mvR_len (s : Int) (r : Bool) (l : List S58) (P : List Int) (hl : l.length ≤ 1048576) : (mvR s r l P).1.length ≤ 1048576 := by
  unfold mvR
  split
  · unfold mvOk mvS; simp only [tg_len]; omega
  · simp
theorem mvG_bd {s : Int} {l : List S58} {P : List Int} {j : Nat} (hs : 2 ≤ s ∧ s ≤ 24) (hc : sC s l j) (hp : 0 ≤ rd P (j : Int) ∧ rd P (j : Int) ≤ s - 1) : 0 ≤ mvG l P j ∧ mvG l P j ≤ 24 := by
  have := mx_ge ((l.getD j z58).f0 - rd P (j : Int)) (rd P (j : Int) - (l.getD j z58).f0)
  unfold sC at hc
  unfold mvG
  omega
theorem mvSum_bd {f : Nat → Int} {n i : Nat} (h : ∀ j, j < i → 0 ≤ f j ∧ f j ≤ 24) : 0 ≤ sm i f ∧ sm i f ≤ 24 * i := by
  induction i with
  | zero => exact ⟨Int.le_refl _, Int.le_refl _⟩
  | succ i ih =>
    have a := ih (fun j hj => h j (by omega))
    have b := h i (by omega)
    rw [sm_succ]
    omega
theorem implMove_loop (s : Int) (l : List S58) (P : List Int) (hv : sensV s false l = true) (he : P.length = l.length) (hP : inAll 0 (s - 1) P = true) : Ev (fun k => impl_MoveSensors.l0 k l [] 0 0 P (P.length : Int) 0 s false) (mvOk l P) := by
  have h := sens_of hv
  have hp : ∀ j, j < l.length → 0 ≤ rd P (j : Int) ∧ rd P (j : Int) ≤ s - 1 := fun j hj => inAll_iff.1 hP _ (mem_of_rd (by omega))
  have key := down (P := fun i => Ev (fun k => impl_MoveSensors.l0 k l (mvS l P i) (rmax 0 (mvG l P) i) (sm i (mvG l P)) P (P.length : Int) (i : Int) s false) (mvOk l P)) (n := l.length)
    (ev_now (fun k => by simp only [impl_MoveSensors.l0]; rw [if_neg (by omega)]; rfl))
    (fun i hi ih => by
      have hcs := h.2.2 i hi
      have hg := mvG_bd h.1.1 hcs (hp i hi)
      have hsum := mvSum_bd (n := 0) (i := i) (f := mvG l P) (fun j hj => mvG_bd h.1.1 (h.2.2 j (by omega)) (hp j (by omega)))
      have hpi := hp i hi
      unfold sC at hcs
      have eg : mx ((l.getD i z58).f0 - rd P (i : Int)) (rd P (i : Int) - (l.getD i z58).f0) = mvG l P i := rfl
      refine Ev.step (fun k => ?_) ih
      simp only [impl_MoveSensors.l0, rdT_nat]
      rw [if_pos (by omega), if_pos (by omega), if_pos (by omega), if_pos (by omega), gap_eq _ _ _ (by omega) (by omega), Option.bind_some, eg, if_pos (by unfold mvS; rw [tg_len]; omega), mvS_succ, w64 (x := sm i (mvG l P) + mvG l P i) (by omega) (by omega), w64s hi (by omega)]
      rfl)
  exact key 0 (by omega)
theorem specMove_loop (s : Int) (l : List S58) (P : List Int) (hv : sensV s false l = true) (he : P.length = l.length) : Ev (fun k => spec_MoveSensors.l0 k l P [] 0 0 0 s false) (if inAll 0 (s - 1) P = true then mvOk l P else ([], 0, 0, false)) := by
  have h := sens_of hv
  have key := down (P := fun i => (∀ j, j < i → 0 ≤ rd P (j : Int) ∧ rd P (j : Int) ≤ s - 1) → Ev (fun k => spec_MoveSensors.l0 k l P (mvS l P i) (rmax 0 (mvG l P) i) (sm i (mvG l P)) (i : Int) s false) (if inAll 0 (s - 1) (P.drop i) = true then mvOk l P else ([], 0, 0, false))) (n := l.length)
    (fun _ => ev_now (fun k => by
      simp only [spec_MoveSensors.l0]
      rw [if_neg (by omega), if_pos (by rw [← he, List.drop_length]; rfl)]
      rfl))
    (fun i hi ih hp => by
      have hcs := h.2.2 i hi
      rw [drop_cons (by omega), inAll_cons]
      cases hr : inR 0 (s - 1) (rd P (i : Int)) with
      | true =>
        have hpi := inR_iff.1 hr
        have hp' : ∀ j, j < i + 1 → 0 ≤ rd P (j : Int) ∧ rd P (j : Int) ≤ s - 1 := fun j hj => by
          by_cases e : j = i
          · subst e; exact hpi
          · exact hp j (by omega)
        have hg := mvG_bd h.1.1 hcs hpi
        have hsum := mvSum_bd (n := 0) (i := i) (f := mvG l P) (fun j hj => mvG_bd h.1.1 (h.2.2 j (by omega)) (hp j (by omega)))
        unfold sC at hcs
        have eg : mx ((l.getD i z58).f0 - rd P (i : Int)) (rd P (i : Int) - (l.getD i z58).f0) = mvG l P i := rfl
        rw [Bool.true_and]
        refine Ev.step (fun k => ?_) (ih hp')
        simp only [spec_MoveSensors.l0, l1In_eq, l1Most_eq, Option.bind_some, rdT_nat]
        rw [if_pos (by omega), if_pos (by omega), if_pos (by omega), w64 (x := s - 1) (by omega) (by omega), if_pos hr, l2Gap_eq _ _ _ (by omega) (by omega), Option.bind_some, eg, if_pos (by unfold mvS; rw [tg_len]; omega), mvS_succ, w64 (x := sm i (mvG l P) + mvG l P i) (by omega) (by omega), w64s hi (by omega)]
        rfl
      | false =>
        refine ev_now (fun k => ?_)
        simp only [spec_MoveSensors.l0, l1In_eq, Option.bind_some, rdT_nat, Bool.false_and, Bool.false_eq_true, if_false]
        rw [if_pos (by omega), if_pos (by omega), if_pos (by omega), w64 (x := s - 1) (by omega) (by omega), hr]
        simp)
  exact key 0 (by omega) (fun j hj => by omega)
theorem specMove_ev (s : Int) (r : Bool) (l : List S58) (P : List Int) (hl : l.length ≤ 1048576) : Ev (fun k => spec_MoveSensors.f k s r l P) (mvR s r l P) := by
  unfold spec_MoveSensors.f mvR
  simp only [Option.bind_some]
  refine Ev.bind (l9Sensors_ev s r l hl) ?_
  have hno : Ev (fun k => spec_MoveSensors.j0 k l P [] true s r) (([], 0, 0, false) : List S58 × Int × Int × Bool) := ev_now (fun k => by simp only [spec_MoveSensors.j0, if_true])
  cases hv : sensV s r l with
  | true =>
    have hr := (sens_of hv).1.2
    subst hr
    refine ev_pos rfl ?_
    by_cases he : P.length = l.length
    · have e : ((P.length : Int) != (l.length : Int)) = false := by rw [he]; simp
      rw [e]
      refine Ev.step (fun k => by simp only [spec_MoveSensors.j0, Bool.false_eq_true, if_false]; rfl) ?_
      have := specMove_loop s l P hv he
      by_cases ha : inAll 0 (s - 1) P = true
      · rw [if_pos ⟨rfl, he, ha⟩]; rwa [if_pos ha] at this
      · rw [if_neg (fun h => ha h.2.2)]; rwa [if_neg ha] at this
    · have e : ((P.length : Int) != (l.length : Int)) = true := by simp; omega
      rw [e, if_neg (fun h => he h.2.1)]
      exact hno
  | false =>
    rw [if_neg (fun h => absurd h.1 (by decide))]
    exact ev_neg (by simp) hno
theorem implMove_ev (s : Int) (r : Bool) (l : List S58) (P : List Int) (hl : l.length ≤ 1048576) (hpl : P.length ≤ 1048576) : Ev (fun k => impl_MoveSensors.f k s r l P) (mvR s r l P) := by
  unfold impl_MoveSensors.f mvR
  refine Ev.bind (isGuarded_ev s r l hl) ?_
  have hno : Ev (fun k => impl_MoveSensors.j0 k l P true s r) (([], 0, 0, false) : List S58 × Int × Int × Bool) := ev_now (fun k => by simp only [impl_MoveSensors.j0, if_true])
  cases hv : sensV s r l with
  | true =>
    have h := sens_of hv
    have hr := h.1.2
    subst hr
    refine ev_pos rfl ?_
    by_cases he : P.length = l.length
    · refine ev_pos (by omega) ?_
      have hh : Ev (fun k => impl_Road_has.f k s false P) (inAll 0 (s - 1) P) := by
        unfold impl_Road_has.f
        rw [w64 (by omega) (by omega)]
        exact Ev.bind (allWithin_ev P 0 (s - 1) (by omega)) (Ev.now _)
      refine Ev.bind hh ?_
      cases ha : inAll 0 (s - 1) P with
      | true =>
        rw [if_pos ⟨rfl, he, rfl⟩]
        refine Ev.step (fun k => by simp only [impl_MoveSensors.j0, Bool.not_true, Bool.false_eq_true, if_false]; rfl) ?_
        exact implMove_loop s l P hv he ha
      | false =>
        rw [if_neg (fun h => absurd h.2.2 (by decide))]
        exact hno
    · rw [if_neg (fun h => he h.2.1)]
      exact ev_neg (by omega) hno
  | false =>
    rw [if_neg (fun h => absurd h.1 (by decide))]
    exact ev_neg (by simp) hno

theorem FnExactMoveSensors : FnExactMoveSensorsLeft := by
  intro s r l0 P _ hm _ _ _
  refine Ev.rounds (g := fun k => laws_FnExactMoveSensors.f k s r l0 P) ?_
  unfold laws_FnExactMoveSensors.f
  by_cases hP : (P.length : Int) > 1048576
  · exact ev_pos hP (Ev.now _)
  refine ev_neg hP ?_
  have hpl : P.length ≤ 1048576 := by omega
  refine ev_bind0 (szSensorS_eq l0 hm) ?_
  by_cases h : 1048576 - (l0.length : Int) < 0
  · rw [if_pos h]; exact ev_pos (by omega) (Ev.now _)
  rw [if_neg h]
  refine ev_neg h ?_
  have hl0 : l0.length ≤ 1048576 := by omega
  have hl : (cvS l0).length ≤ 1048576 := by rw [cvS_len]; exact hl0
  have hr := mvR_len s r (cvS l0) P hl
  repeat (first
    | exact Ev.now _
    | (with_reducible refine Ev.bind (toSensorS_ev _ hl0) ?_; try dsimp only)
    | (with_reducible refine Ev.bind (toIntS_ev _ hpl) ?_; try dsimp only)
    | (with_reducible refine Ev.bind (specMove_ev _ _ _ _ hl) ?_; try dsimp only)
    | (with_reducible refine Ev.bind (implMove_ev _ _ _ _ hl hpl) ?_; try dsimp only)
    | (with_reducible refine Ev.bind (markSensorS_ev _ _ hl (by omega) (by omega)) ?_; try dsimp only)
    | (with_reducible refine Ev.bind (markIntS_ev _ _ hpl (by omega) (by omega)) ?_; try dsimp only)
    | (with_reducible refine Ev.bind (markSensorS_ev _ _ hr (by omega) (by omega)) ?_; try dsimp only)
    | (with_reducible refine Ev.bind (heldSensorS_ev _ _ hr (by omega) (by omega)) ?_; try dsimp only)
    | (with_reducible refine Ev.bind (eqSensorS_self _ (by omega)) ?_; try dsimp only)
    | (with_reducible refine Ev.bind (eqIntS_self _ (by omega)) ?_; try dsimp only)
    | (refine ev_bind0 (toRoad_eq _ _) ?_; try dsimp only)
    | (refine ev_pos (by first | exact True.intro | rfl | assumption | omega) ?_; try dsimp only)
    | (refine ev_neg (by first | (simp; done) | omega) ?_; try dsimp only)
    | (refine Ev.step (fun k => by simp only [laws_FnExactMoveSensors.j0]; rfl) ?_)
    | (refine Ev.step (fun k => by simp only [laws_FnExactMoveSensors.j1]; rfl) ?_)
    | (refine Ev.step (fun k => by simp only [laws_FnExactMoveSensors.j2]; rfl) ?_))

end Go.Proofs.Ytanfamfgdgcjpaa.Pure
