/- FnSensors: the left statement: for every code the law answers true. No condition. -/
import Derived.Test.YtknfhoghimnieaaQFnSensorsx14
import Derived.Test.YtknfhoghimnieaaBase
import Derived.Test.YtknfhoghimnieaaU64
import Derived.Test.YtknfhoghimnieaaDraw
namespace Go.Proofs.Ytknfhoghimnieaa.Pure
open Go.RowKit Go.Proofs.Ytknfhoghimnieaa.QFnSensors Go.Proofs.YtknfhoghimnieaaW.PrintWords Go.Proofs.YtknfhoghimnieaaW.PrintLast Go.Proofs.Ytknfhoghimnieaa.Base
set_option linter.unusedVariables false
set_option linter.unusedSimpArgs false

def FnSensorsLeft : Prop := ∀ (l0 : List Int), l0.length ≤ maxLen → (∀ x ∈ l0, (Lit.int .u8 x).wf = true) → ∃ k, laws_FnSensors.f k l0 = some true

theorem l1In_eq (a b c : Int) : spec_l1In.f a b c = some (inR b c a) := by
  unfold spec_l1In.f inR
  by_cases h : a ≥ b
  · have h' : b ≤ a := h
    rw [if_pos h]; simp [h']
  · have h' : ¬ b ≤ a := h
    rw [if_neg h]; simp [h']

theorem within_eq (a b c : Int) : impl_within.f a b c = some (inR b c a) := by
  unfold impl_within.f inR
  by_cases h : a ≥ b
  · have h' : b ≤ a := h
    rw [if_pos h]; simp [h']
  · have h' : ¬ b ≤ a := h
    rw [if_neg h]; simp [h']

def lineV (s : Int) (r : Bool) : Bool := inR 2 24 s && !r
theorem line_of {s : Int} {r : Bool} (h : lineV s r = true) : (2 ≤ s ∧ s ≤ 24) ∧ r = false := by
  unfold lineV at h
  rw [Bool.and_eq_true, inR_iff] at h
  exact ⟨h.1, by simpa using h.2⟩
theorem l2Road_eq (s : Int) (r : Bool) : spec_l2Road.f s r = some (inR 2 24 s && (!r || decide (s > 2))) := by
  unfold spec_l2Road.f
  simp only [l1In_eq, Option.bind_some]
  cases inR 2 24 s <;> cases r <;> simp
theorem isRoad_eq (s : Int) (r : Bool) : impl_IsRoad.f s r = some (inR 2 24 s && (!r || decide (s > 2))) := by
  unfold impl_IsRoad.f
  simp only [within_eq, Option.bind_some]
  cases h : inR 2 24 s <;> cases r <;> simp <;> omega
theorem isLine_eq (s : Int) (r : Bool) : impl_isLine.f s r = some (lineV s r) := by
  unfold impl_isLine.f lineV
  simp only [isRoad_eq, Option.bind_some]
  cases inR 2 24 s <;> cases r <;> simp

theorem l3Line_eq (s : Int) (r : Bool) (a : Int) : spec_l3Line.f s r a = some (lineV s r && inR 0 (s - 1) a) := by
  unfold spec_l3Line.f lineV
  simp only [l2Road_eq, l1In_eq, Option.bind_some]
  cases h : inR 2 24 s with
  | false => simp
  | true =>
    have hs := inR_iff.1 h
    rw [w64 (by omega) (by omega)]
    cases r <;> simp

theorem allWithin_ev (l : List Int) (a b : Int) (hl : l.length ≤ 1152921504606846976) : Ev (fun k => impl_allWithin.f k l a b) (inAll a b l) := by
  have key := down (P := fun i => Ev (fun k => impl_allWithin.l0 k a b l (l.length : Int) (i : Int)) (inAll a b (l.drop i))) (n := l.length)
    (ev_now (fun k => by
      simp only [impl_allWithin.l0]
      rw [if_neg (by omega)]
      simp [inAll_nil]))
    (fun i hi ih => by
      rw [drop_cons hi, inAll_cons]
      cases hc : inR a b (rd l (i : Int)) with
      | true =>
        rw [Bool.true_and]
        refine Ev.step (fun k => ?_) ih
        simp only [impl_allWithin.l0, within_eq, Option.bind_some, hc, if_true]
        rw [if_pos (by omega), if_pos (by omega), if_pos (by omega), w64s hi hl]
      | false =>
        refine ev_now (fun k => ?_)
        simp only [impl_allWithin.l0, within_eq, Option.bind_some, hc, Bool.false_eq_true, if_false]
        rw [if_pos (by omega), if_pos (by omega), if_pos (by omega)]
        simp)
  exact key 0 (by omega)

def sC (s : Int) (l : List S59) (j : Nat) : Prop := (0 ≤ (l.getD j z59).f0 ∧ (l.getD j z59).f0 ≤ s - 1) ∧ 0 ≤ (l.getD j z59).f1 ∧ (l.getD j z59).f1 ≤ 12
instance (s : Int) (l : List S59) : DecidablePred (sC s l) := fun j => by unfold sC; infer_instance
def sensV (s : Int) (r : Bool) (l : List S59) : Bool := (lineV s r && decide ((l.length : Int) ≤ 6)) && allF l.length (sC s l) 0
theorem sens_of {s : Int} {r : Bool} {l : List S59} (h : sensV s r l = true) : ((2 ≤ s ∧ s ≤ 24) ∧ r = false) ∧ l.length ≤ 6 ∧ ∀ j, j < l.length → sC s l j := by
  unfold sensV at h
  rw [Bool.and_eq_true, Bool.and_eq_true] at h
  have := of_decide_eq_true h.1.2
  exact ⟨line_of h.1.1, by omega, allF_of h.2⟩
theorem rdT_nat (l : List S59) (j : Nat) : rd_T59 l (j : Int) = l.getD j z59 := rfl
theorem l9Sensors_ev (s : Int) (r : Bool) (l : List S59) (hl : l.length ≤ 1048576) : Ev (fun k => spec_l9Sensors.f k s r l) (sensV s r l) := by
  have key := down (P := fun i => Ev (fun k => spec_l9Sensors.l0 k l (i : Int) s r) ((lineV s r && decide ((l.length : Int) ≤ 6)) && allF l.length (sC s l) i)) (n := l.length)
    (ev_now (fun k => by
      simp only [spec_l9Sensors.l0, l2Road_eq, Option.bind_some]
      rw [if_neg (by omega), allF_end]
      unfold lineV
      cases inR 2 24 s <;> cases r <;> simp))
    (fun i hi ih => by
      rw [allF_step hi]
      have e3 : ∀ k, spec_l9Sensors.l0 (k + 1) l (i : Int) s r = if (lineV s r && inR 0 (s - 1) (l.getD i z59).f0) = true then (if inR 0 12 (l.getD i z59).f1 = true then spec_l9Sensors.l0 k l ((i + 1 : Nat) : Int) s r else some false) else some false := by
        intro k
        simp only [spec_l9Sensors.l0, l3Line_eq, l1In_eq, Option.bind_some, rdT_nat]
        rw [if_pos (by omega), if_pos (by omega), w64s hi (by omega)]
      cases hL : lineV s r with
      | false =>
        refine ev_now (fun k => ?_)
        rw [e3, hL]; simp
      | true =>
        rw [hL] at ih
        by_cases hc : sC s l i
        · rw [decide_eq_true hc, Bool.true_and]
          refine Ev.step (fun k => ?_) ih
          rw [e3, hL, Bool.true_and, if_pos (inR_iff.2 hc.1), if_pos (inR_iff.2 hc.2)]
        · rw [decide_eq_false hc, Bool.false_and, Bool.and_false]
          refine ev_now (fun k => ?_)
          rw [e3, hL, Bool.true_and]
          by_cases h1 : inR 0 (s - 1) (l.getD i z59).f0 = true
          · rw [if_pos h1, if_neg (fun h2 => hc ⟨inR_iff.1 h1, inR_iff.1 h2⟩)]
          · rw [if_neg h1])
  exact key 0 (by omega)
theorem areSensors_ev (s : Int) (r : Bool) (l : List S59) (hl : l.length ≤ 1048576) (hs : 2 ≤ s ∧ s ≤ 24) : Ev (fun k => impl_Road_areSensors.f k s r l) (decide ((l.length : Int) ≤ 6) && allF l.length (sC s l) 0) := by
  have key := down (P := fun i => Ev (fun k => impl_Road_areSensors.l0 k l l (l.length : Int) (i : Int) s r) (decide ((l.length : Int) ≤ 6) && allF l.length (sC s l) i)) (n := l.length)
    (ev_now (fun k => by
      simp only [impl_Road_areSensors.l0]
      rw [if_neg (by omega), allF_end, Bool.and_true]))
    (fun i hi ih => by
      rw [allF_step hi]
      have hh : Ev (fun k => impl_Road_has.f k s r [(l.getD i z59).f0]) (inR 0 (s - 1) (l.getD i z59).f0) := by
        unfold impl_Road_has.f
        rw [w64 (by omega) (by omega)]
        have := allWithin_ev [(l.getD i z59).f0] 0 (s - 1) (by simp)
        have e : inAll 0 (s - 1) [(l.getD i z59).f0] = inR 0 (s - 1) (l.getD i z59).f0 := by simp [inAll]
        rw [e] at this
        exact Ev.bind this (Ev.now _)
      refine Ev.step (f := fun k => (impl_Road_has.f k s r [(l.getD i z59).f0]).bind fun t => if t = true then (if inR 0 12 (l.getD i z59).f1 = true then impl_Road_areSensors.l0 k l l (l.length : Int) ((i + 1 : Nat) : Int) s r else some false) else some false) (fun k => ?_) (Ev.bind hh ?_)
      · simp only [impl_Road_areSensors.l0, within_eq, Option.bind_some, rdT_nat]
        rw [if_pos (by omega), if_pos (by omega), if_pos (by omega), w64s hi (by omega)]
      · by_cases hc : sC s l i
        · rw [decide_eq_true hc, Bool.true_and]
          exact ev_pos (inR_iff.2 hc.1) (ev_pos (inR_iff.2 hc.2) ih)
        · rw [decide_eq_false hc, Bool.false_and, Bool.and_false]
          by_cases h1 : inR 0 (s - 1) (l.getD i z59).f0 = true
          · exact ev_pos h1 (ev_neg (fun h2 => hc ⟨inR_iff.1 h1, inR_iff.1 h2⟩) (Ev.now _))
          · exact ev_neg h1 (Ev.now _))
  exact key 0 (by omega)

theorem isGuarded_ev (s : Int) (r : Bool) (l : List S59) (hl : l.length ≤ 1048576) : Ev (fun k => impl_isGuarded.f k s r l) (sensV s r l) := by
  unfold impl_isGuarded.f sensV
  simp only [isLine_eq, Option.bind_some]
  cases hL : lineV s r with
  | true =>
    refine ev_pos rfl ?_
    rw [Bool.true_and]
    exact Ev.bind (areSensors_ev s r l hl (line_of hL).1) (Ev.now _)
  | false => exact ev_neg (by simp) (Ev.now _)

theorem gap_eq (s a p : Int) (h0 : 0 ≤ a ∧ a ≤ 1000000) (h1 : 0 ≤ p ∧ p ≤ 1000000) : impl_Road_gap.f s false a p = some (mx (a - p) (p - a)) := by
  unfold impl_Road_gap.f
  simp only [Bool.false_eq_true, if_false]
  rw [mx_abs (s := s) h0 h1]

theorem l1Most_eq (a b : Int) : spec_l1Most.f a b = some (mx a b) := by
  unfold spec_l1Most.f mx
  by_cases h : a > b
  · rw [if_pos h, if_neg (by omega)]
  · rw [if_neg h]
    by_cases h2 : a < b
    · rw [if_pos h2]
    · rw [if_neg h2]; congr 1; omega

theorem l2Gap_eq (s a p : Int) (h0 : 0 ≤ a ∧ a ≤ 1000000) (h1 : 0 ≤ p ∧ p ≤ 1000000) : spec_l2Gap.f s false a p = some (mx (a - p) (p - a)) := by
  unfold spec_l2Gap.f
  simp only [l1Most_eq, Option.bind_some, Bool.false_eq_true, if_false]
  rw [mx_abs (s := s) h0 h1]

def see (l : List S59) (p : Nat) (j : Nat) : Int := if mx ((l.getD j z59).f0 - p) ((p : Int) - (l.getD j z59).f0) ≤ (l.getD j z59).f1 then 1 else 0
def seenP (l : List S59) (p : Nat) : Int := sm l.length (see l p)
def seenL (n : Nat) (l : List S59) : List Int := tab n (seenP l)
def seenT (n : Nat) (l : List S59) (p i : Nat) : List Int := tab n (fun q => if q < p then seenP l q else if q = p then sm i (see l q) else 0)
theorem see_bd (l : List S59) (p i : Nat) : 0 ≤ sm i (see l p) ∧ sm i (see l p) ≤ i := sm_bound (fun q => by unfold see; split <;> omega) i
theorem seenT_next (n : Nat) (l : List S59) (p : Nat) : seenT n l p l.length = seenT n l (p + 1) 0 := by
  refine tab_congr (fun q _ => ?_)
  by_cases h1 : q < p
  · rw [if_pos h1, if_pos (by omega)]
  · rw [if_neg h1]
    by_cases h2 : q = p
    · rw [if_pos h2, if_pos (by omega)]; rfl
    · rw [if_neg h2, if_neg (by omega)]
      split <;> rfl
theorem seenT_step {n : Nat} {l : List S59} {p i : Nat} (hp : p < n) (hi : i ≤ 1000) : (if mx ((l.getD i z59).f0 - p) ((p : Int) - (l.getD i z59).f0) ≤ (l.getD i z59).f1 then (seenT n l p i).set p (wrap64 (rd (seenT n l p i) (p : Int) + 1)) else seenT n l p i) = seenT n l p (i + 1) := by
  have hb := see_bd l p i
  by_cases h : mx ((l.getD i z59).f0 - p) ((p : Int) - (l.getD i z59).f0) ≤ (l.getD i z59).f1
  · rw [if_pos h]
    unfold seenT
    rw [tab_rd hp, if_neg (by omega), if_pos rfl, w64 (by omega) (by omega), tab_set]
    refine tab_congr (fun q _ => ?_)
    by_cases e : q = p
    · subst e
      rw [if_pos rfl, if_neg (by omega), if_pos rfl, sm_succ]
      congr 1
      unfold see; rw [if_pos h]
    · rw [if_neg e]
      by_cases h1 : q < p
      · rw [if_pos h1, if_pos h1]
      · rw [if_neg h1, if_neg h1, if_neg e, if_neg e]
  · rw [if_neg h]
    refine tab_congr (fun q _ => ?_)
    by_cases h1 : q < p
    · rw [if_pos h1, if_pos h1]
    · rw [if_neg h1, if_neg h1]
      by_cases e : q = p
      · subst e
        rw [if_pos rfl, if_pos rfl, sm_succ]
        have : see l q i = 0 := by unfold see; rw [if_neg h]
        omega
      · rw [if_neg e, if_neg e]
theorem seenT_zero (n : Nat) (l : List S59) : List.replicate n 0 = seenT n l 0 0 := by
  rw [tab_rep]
  refine tab_congr (fun q _ => ?_)
  rw [if_neg (by omega)]
  split <;> rfl
theorem seenT_end (n : Nat) (l : List S59) : seenT n l n 0 = seenL n l := tab_congr (fun q hq => by rw [if_pos hq])
theorem seenT_len (n : Nat) (l : List S59) (p i : Nat) : (seenT n l p i).length = n := tab_len _ _
theorem l9Seen_ev (n : Nat) (l : List S59) (hv : sensV (n : Int) false l = true) : Ev (fun k => spec_l9Seen.f k (n : Int) false l) (seenL n l) := by
  have h := sens_of hv
  have key := down (P := fun p => Ev (fun k => spec_l9Seen.l0 k l (seenT n l p 0) (p : Int) (n : Int) false) (seenL n l)) (n := n)
    (ev_now (fun k => by simp only [spec_l9Seen.l0]; rw [if_neg (by omega), seenT_end]))
    (fun p hp ih => by
      refine Ev.step (f := fun k => spec_l9Seen.l1 k l (seenT n l p 0) (p : Int) ((0 : Nat) : Int) (n : Int) false) (fun k => by simp only [spec_l9Seen.l0]; rw [if_pos (by omega)]; rfl) ?_
      have inner := down (P := fun i => Ev (fun k => spec_l9Seen.l1 k l (seenT n l p i) (p : Int) (i : Int) (n : Int) false) (seenL n l)) (n := l.length)
        (by
          refine Ev.step (fun k => ?_) ih
          simp only [spec_l9Seen.l1]
          rw [if_neg (by omega), w64s hp (by omega), seenT_next])
        (fun i hi ihi => by
          have hc := (h.2.2 i hi).1
          rw [← seenT_step hp (by omega)] at ihi
          refine Ev.step (fun k => ?_) ihi
          simp only [spec_l9Seen.l1, rdT_nat]
          rw [if_pos (by omega), if_pos (by omega), l2Gap_eq _ _ _ (by omega) (by omega), Option.bind_some, w64s hi (by omega), if_pos (by omega), if_pos (by rw [seenT_len]; omega), Int.toNat_natCast]
          by_cases hg : mx ((l.getD i z59).f0 - p) ((p : Int) - (l.getD i z59).f0) ≤ (l.getD i z59).f1
          · simp only [hg, if_true]
          · simp only [hg, if_false])
      exact inner 0 (by omega))
  unfold spec_l9Seen.f
  refine ev_pos (by omega) (ev_pos (by omega) ?_)
  rw [Int.toNat_natCast, seenT_zero n l]
  exact key 0 (by omega)
theorem implSeen_ev (n : Nat) (l : List S59) (hv : sensV (n : Int) false l = true) : Ev (fun k => impl_Road_seen.f k (n : Int) false l) (seenL n l) := by
  have h := sens_of hv
  have key := down (P := fun p => Ev (fun k => impl_Road_seen.l0 k l (seenT n l p 0) (n : Int) (p : Int) (n : Int) false) (seenL n l)) (n := n)
    (ev_now (fun k => by simp only [impl_Road_seen.l0]; rw [if_neg (by omega), seenT_end]))
    (fun p hp ih => by
      refine Ev.step (f := fun k => impl_Road_seen.l1 k l (seenT n l p 0) (p : Int) (n : Int) (p : Int) l (l.length : Int) ((0 : Nat) : Int) (n : Int) false) (fun k => by simp only [impl_Road_seen.l0]; rw [if_pos (by omega)]; rfl) ?_
      have inner := down (P := fun i => Ev (fun k => impl_Road_seen.l1 k l (seenT n l p i) (p : Int) (n : Int) (p : Int) l (l.length : Int) (i : Int) (n : Int) false) (seenL n l)) (n := l.length)
        (by
          refine Ev.step (fun k => ?_) ih
          simp only [impl_Road_seen.l1]
          rw [if_neg (by omega), w64s hp (by omega), seenT_next])
        (fun i hi ihi => by
          have hc := (h.2.2 i hi).1
          rw [← seenT_step hp (by omega)] at ihi
          refine Ev.step (fun k => ?_) ihi
          simp only [impl_Road_seen.l1, rdT_nat]
          rw [if_pos (by omega), if_pos (by omega), if_pos (by omega), gap_eq _ _ _ (by omega) (by omega), Option.bind_some, w64s hi (by omega), if_pos (by omega), if_pos (by rw [seenT_len]; omega), Int.toNat_natCast]
          by_cases hg : mx ((l.getD i z59).f0 - p) ((p : Int) - (l.getD i z59).f0) ≤ (l.getD i z59).f1
          · simp only [hg, if_true]
          · simp only [hg, if_false])
      exact inner 0 (by omega))
  unfold impl_Road_seen.f
  refine ev_pos (by omega) (ev_pos (by omega) ?_)
  simp only [Option.bind_some]
  rw [Int.toNat_natCast, seenT_zero n l, seenT_len]
  exact key 0 (by omega)
theorem sens_nat {s : Int} {r : Bool} {l : List S59} (h : sensV s r l = true) : ∃ n : Nat, s = n ∧ r = false ∧ 2 ≤ n ∧ n ≤ 24 := by
  have := sens_of h
  exact ⟨s.toNat, by omega, this.1.2, by omega, by omega⟩

theorem slicesMin_ev (l : List Int) (h0 : 0 < l.length) (hl : l.length ≤ 1048576) : Ev (fun k => slices_Min_int_int.f k l) (rmin (rd l 0) (fun j => rd l ((j + 1 : Nat) : Int)) (l.length - 1)) := by
  have key := down (P := fun i => Ev (fun k => slices_Min_int_int.l0 k l (rmin (rd l 0) (fun j => rd l ((j + 1 : Nat) : Int)) i) ((i + 1 : Nat) : Int)) (rmin (rd l 0) (fun j => rd l ((j + 1 : Nat) : Int)) (l.length - 1))) (n := l.length - 1)
    (ev_now (fun k => by simp only [slices_Min_int_int.l0]; rw [if_neg (by omega)]))
    (fun i hi ih => by
      refine Ev.step (fun k => ?_) ih
      simp only [slices_Min_int_int.l0]
      rw [if_pos (by omega), if_pos (by omega), w64s (n := l.length) (by omega) (by omega)]
      rfl)
  unfold slices_Min_int_int.f
  exact ev_neg (by omega) (ev_pos (by omega) (key 0 (by omega)))

theorem l1Least_eq (a b : Int) : spec_l1Least.f a b = some (mn a b) := by
  unfold spec_l1Least.f mn
  by_cases h : a < b
  · rw [if_pos h, if_neg (by omega)]
  · rw [if_neg h]
    by_cases h2 : b < a
    · rw [if_pos h2]
    · rw [if_neg h2]; congr 1; omega

def strL (l : List Int) : Int := rmin (rd l 0) (fun j => rd l ((j + 1 : Nat) : Int)) (l.length - 1)
theorem l9Strength_ev (n : Nat) (l : List S59) (hv : sensV (n : Int) false l = true) : Ev (fun k => spec_l9Strength.f k (n : Int) false l) (strL (seenL n l)) := by
  have h := sens_of hv
  have hlen : (seenL n l).length = n := tab_len _ _
  unfold spec_l9Strength.f
  refine Ev.bind (l9Seen_ev n l hv) (ev_pos (by omega) ?_)
  have key := down (P := fun i => Ev (fun k => spec_l9Strength.l0 k (seenL n l) (rmin (rd (seenL n l) 0) (fun j => rd (seenL n l) ((j + 1 : Nat) : Int)) i) ((i + 1 : Nat) : Int) (n : Int) false) (strL (seenL n l))) (n := n - 1)
    (ev_now (fun k => by
      simp only [spec_l9Strength.l0]
      rw [if_neg (by omega)]
      unfold strL
      rw [hlen]))
    (fun i hi ih => by
      refine Ev.step (fun k => ?_) ih
      simp only [spec_l9Strength.l0, l1Least_eq, Option.bind_some]
      rw [if_pos (by omega), if_pos (by omega), if_pos (by omega), w64s (n := n) (by omega) (by omega)]
      rfl)
  exact key 0 (by omega)

def spP (n : Nat) (l : List S59) (i : Nat) : Bool := decide (0 < strL (seenL n (l.eraseIdx i)))
def spL (n : Nat) (l : List S59) (i : Nat) : List Int := ((List.range' i (l.length - i)).filter (spP n l)).map (fun i : Nat => (i : Int))
theorem spL_end (n : Nat) (l : List S59) : spL n l l.length = [] := by unfold spL; rw [Nat.sub_self]; rfl
theorem spL_step (n : Nat) {l : List S59} {i : Nat} (hi : i < l.length) : spL n l i = (if spP n l i = true then [(i : Int)] else []) ++ spL n l (i + 1) := by
  unfold spL
  rw [show l.length - i = (l.length - (i + 1)) + 1 by omega, List.range'_succ, List.filter_cons]
  by_cases h : spP n l i = true
  · rw [if_pos h, if_pos h]; rfl
  · rw [if_neg h, if_neg h]; rfl
theorem spL_len (n : Nat) (l : List S59) (i : Nat) : (spL n l i).length ≤ l.length := by
  unfold spL
  rw [List.length_map]
  refine Nat.le_trans (List.length_filter_le _ _) ?_
  rw [List.length_range']
  omega
theorem sens_erase {n : Nat} {l : List S59} (h : sensV (n : Int) false l = true) (i : Nat) : sensV (n : Int) false (l.eraseIdx i) = true := by
  obtain ⟨h1, h2, h3⟩ := sens_of h
  have hl : (l.eraseIdx i).length ≤ l.length := List.length_eraseIdx_le _ _
  unfold sensV at h ⊢
  rw [Bool.and_eq_true, Bool.and_eq_true] at h ⊢
  refine ⟨⟨h.1.1, decide_eq_true (by omega)⟩, decide_eq_true (fun j hj _ => ?_)⟩
  have e : ∃ j', j' < l.length ∧ (l.eraseIdx i).getD j z59 = l.getD j' z59 := by
    by_cases hji : j < i
    · exact ⟨j, by omega, by rw [List.getD_eq_getElem?_getD, List.getElem?_eraseIdx, if_pos hji, List.getD_eq_getElem?_getD]⟩
    · refine ⟨j + 1, ?_, by rw [List.getD_eq_getElem?_getD, List.getElem?_eraseIdx, if_neg hji, List.getD_eq_getElem?_getD]⟩
      by_cases hil : i < l.length
      · rw [List.length_eraseIdx_of_lt hil] at hj
        omega
      · rw [List.eraseIdx_of_length_le (by omega)] at hj
        omega
  obtain ⟨j', hj', e⟩ := e
  unfold sC
  rw [e]
  exact h3 j' hj'
def spareR (s : Int) (r : Bool) (l : List S59) : List Int × Bool := if sensV s r l = true then (spL s.toNat l 0, true) else ([], false)
theorem spareR_len (s : Int) (r : Bool) (l : List S59) (hl : l.length ≤ 1048576) : (spareR s r l).1.length ≤ 1048576 := by
  unfold spareR
  split
  · have := spL_len s.toNat l 0
    simp only
    omega
  · simp
theorem specSpare_ev (s : Int) (r : Bool) (l : List S59) (hl : l.length ≤ 1048576) : Ev (fun k => spec_SpareSensors.f k s r l) (spareR s r l) := by
  unfold spec_SpareSensors.f spareR
  simp only [Option.bind_some]
  refine Ev.bind (l9Sensors_ev s r l hl) ?_
  cases hv : sensV s r l with
  | true =>
    obtain ⟨n, rfl, rfl, _, _⟩ := sens_nat hv
    refine ev_pos rfl ?_
    have key := down (P := fun i => ∀ acc : List Int, acc.length ≤ i → Ev (fun k => spec_SpareSensors.l0 k l acc (i : Int) (n : Int) false) (acc ++ spL n l i, true)) (n := l.length)
      (fun acc _ => ev_now (fun k => by
        simp only [spec_SpareSensors.l0]
        rw [if_neg (by omega), spL_end, List.append_nil]))
      (fun i hi ih acc ha => by
        have e : (l.take i) ++ l.drop (i + 1) = l.eraseIdx i := (List.eraseIdx_eq_take_drop_succ l i).symm
        have e1 : (l.take i).length = i := by rw [List.length_take]; omega
        have e2 : (l.drop (i + 1)).length = l.length - (i + 1) := List.length_drop
        refine Ev.step (f := fun k => (spec_l9Strength.f k (n : Int) false (l.eraseIdx i)).bind fun t => if t > 0 then spec_SpareSensors.l0 k l (acc ++ [(i : Int)]) ((i + 1 : Nat) : Int) (n : Int) false else spec_SpareSensors.l0 k l acc ((i + 1 : Nat) : Int) (n : Int) false) (fun k => ?_) (Ev.bind (l9Strength_ev n _ (sens_erase hv i)) ?_)
        · simp only [spec_SpareSensors.l0, Option.bind_some, List.nil_append, List.length_nil, Nat.zero_add, w64s hi (show l.length ≤ 1152921504606846976 by omega), Int.toNat_natCast, e, e1, e2]
          rw [if_pos (by omega), if_pos (by omega), if_pos (by omega), if_pos (by omega), if_pos (by omega), if_pos (by omega), if_pos (by omega)]
          simp only [if_pos (show acc.length < 17592186044416 by omega)]
        · rw [spL_step n hi]
          by_cases h : 0 < strL (seenL n (l.eraseIdx i))
          · have hp : spP n l i = true := decide_eq_true h
            rw [if_pos hp, ← List.append_assoc]
            exact ev_pos h (ih _ (by rw [List.length_append, List.length_singleton]; omega))
          · have hp : ¬ spP n l i = true := by unfold spP; rw [decide_eq_false h]; decide
            rw [if_neg hp, List.nil_append]
            exact ev_neg h (ih _ (by omega)))
    exact key 0 (by omega) [] (by simp)
  | false => exact ev_neg (by simp) (Ev.now _)
theorem implSpare_ev (s : Int) (r : Bool) (l : List S59) (hl : l.length ≤ 1048576) : Ev (fun k => impl_SpareSensors.f k s r l) (spareR s r l) := by
  unfold impl_SpareSensors.f spareR
  refine Ev.bind (isGuarded_ev s r l hl) ?_
  cases hv : sensV s r l with
  | true =>
    obtain ⟨n, rfl, rfl, h2, h3⟩ := sens_nat hv
    refine ev_pos rfl ?_
    have key := down (P := fun i => ∀ acc : List Int, acc.length ≤ i → Ev (fun k => impl_SpareSensors.l0 k l acc (l.length : Int) (i : Int) (n : Int) false) (acc ++ spL n l i, true)) (n := l.length)
      (fun acc _ => ev_now (fun k => by
        simp only [impl_SpareSensors.l0]
        rw [if_neg (by omega), spL_end, List.append_nil]))
      (fun i hi ih acc ha => by
        have hlen : (seenL n (l.eraseIdx i)).length = n := tab_len _ _
        have ed : ∀ k, cloneDelete.f k l (i : Int) (wrap64 ((i : Int) + 1)) = some (l.eraseIdx i) := fun k => by
          unfold cloneDelete.f
          rw [if_pos ⟨by omega, by omega, rfl, by omega⟩, Int.toNat_natCast]
        refine Ev.step (f := fun k => (impl_Road_seen.f k (n : Int) false (l.eraseIdx i)).bind fun t => (slices_Min_int_int.f k t).bind fun u => if u > 0 then impl_SpareSensors.l0 k l (acc ++ [(i : Int)]) (l.length : Int) ((i + 1 : Nat) : Int) (n : Int) false else impl_SpareSensors.l0 k l acc (l.length : Int) ((i + 1 : Nat) : Int) (n : Int) false) (fun k => ?_) (Ev.bind (implSeen_ev n _ (sens_erase hv i)) (Ev.bind (slicesMin_ev (seenL n (l.eraseIdx i)) (by omega) (by omega)) ?_))
        · simp only [impl_SpareSensors.l0, ed, Option.bind_some]
          rw [if_pos (by omega), w64s hi (by omega)]
          simp only [if_pos (show acc.length < 17592186044416 by omega)]
        · rw [spL_step n hi]
          by_cases h : 0 < strL (seenL n (l.eraseIdx i))
          · have hp : spP n l i = true := decide_eq_true h
            rw [if_pos hp, ← List.append_assoc]
            exact ev_pos h (ih _ (by rw [List.length_append, List.length_singleton]; omega))
          · have hp : ¬ spP n l i = true := by unfold spP; rw [decide_eq_false h]; decide
            rw [if_neg hp, List.nil_append]
            exact ev_neg h (ih _ (by omega)))
    exact key 0 (by omega) [] (by simp)
  | false => exact ev_neg (by simp) (Ev.now _)

def mirS (s : Int) (l : List S59) (n : Nat) : List S59 := tg n (fun q => ⟨s - 1 - (l.getD q z59).f0, (l.getD q z59).f1⟩)
def mirSR (s : Int) (r : Bool) (l : List S59) : List S59 × Bool := if sensV s r l = true then (mirS s l l.length, true) else ([], false)
theorem mirSR_len (s : Int) (r : Bool) (l : List S59) (hl : l.length ≤ 1048576) : (mirSR s r l).1.length ≤ 1048576 := by
  unfold mirSR
  split
  · unfold mirS; simp only [tg_len]; omega
  · simp
theorem mirS_succ (s : Int) (l : List S59) (i : Nat) : mirS s l i ++ [⟨s - 1 - (l.getD i z59).f0, (l.getD i z59).f1⟩] = mirS s l (i + 1) := tg_snoc i (fun q => (⟨s - 1 - (l.getD q z59).f0, (l.getD q z59).f1⟩ : S59))
theorem specMirS_ev (s : Int) (r : Bool) (l : List S59) (hl : l.length ≤ 1048576) : Ev (fun k => spec_MirrorSensors.f k s r l) (mirSR s r l) := by
  unfold spec_MirrorSensors.f mirSR
  simp only [Option.bind_some]
  refine Ev.bind (l9Sensors_ev s r l hl) ?_
  cases hv : sensV s r l with
  | true =>
    have h := sens_of hv
    refine ev_pos rfl ?_
    have key := down (P := fun i => Ev (fun k => spec_MirrorSensors.l0 k l (mirS s l i) (i : Int) s r) (mirS s l l.length, true)) (n := l.length)
      (ev_now (fun k => by simp only [spec_MirrorSensors.l0]; rw [if_neg (by omega)]))
      (fun i hi ih => by
        have hc := (h.2.2 i hi).1
        refine Ev.step (fun k => ?_) ih
        simp only [spec_MirrorSensors.l0, rdT_nat]
        rw [if_pos (by omega), if_pos (by omega), if_pos (by unfold mirS; rw [tg_len]; omega), w64s hi (by omega), w64 (x := s - 1) (by omega) (by omega), w64 (by omega) (by omega), mirS_succ])
    exact key 0 (by omega)
  | false => exact ev_neg (by simp) (Ev.now _)
theorem implMirS_ev (s : Int) (r : Bool) (l : List S59) (hl : l.length ≤ 1048576) : Ev (fun k => impl_MirrorSensors.f k s r l) (mirSR s r l) := by
  unfold impl_MirrorSensors.f mirSR
  refine Ev.bind (isGuarded_ev s r l hl) ?_
  cases hv : sensV s r l with
  | true =>
    have h := sens_of hv
    refine ev_pos rfl ?_
    have key := down (P := fun i => Ev (fun k => impl_MirrorSensors.l0 k (mirS s l i) l (l.length : Int) (i : Int) s r) (mirS s l l.length, true)) (n := l.length)
      (ev_now (fun k => by simp only [impl_MirrorSensors.l0]; rw [if_neg (by omega)]))
      (fun i hi ih => by
        have hc := (h.2.2 i hi).1
        refine Ev.step (fun k => ?_) ih
        simp only [impl_MirrorSensors.l0, impl_Road_mirror.f, Option.bind_some, rdT_nat]
        rw [if_pos (by omega), if_pos (by omega), if_pos (by omega), if_pos (by unfold mirS; rw [tg_len]; omega), w64s hi (by omega), w64 (x := s - 1) (by omega) (by omega), w64 (by omega) (by omega), mirS_succ])
    exact key 0 (by omega)
  | false => exact ev_neg (by simp) (Ev.now _)

def lastR (out : List S54) : S54 := out.getD (out.length - 1) z54
def runStep (V : List Int) (i : Nat) (out : List S54) : List S54 := if rd V (i : Int) > 0 then out else if 0 < i ∧ rd V ((i : Int) - 1) = 0 then out.set (out.length - 1) ⟨(lastR out).f0, (i : Int)⟩ else out ++ [⟨(i : Int), (i : Int)⟩]
def runs (V : List Int) : Nat → Nat → List S54 → List S54
  | 0, _, out => out
  | m + 1, i, out => runs V m (i + 1) (runStep V i out)
def InvR (V : List Int) (i : Nat) (out : List S54) : Prop := (0 < out.length → (lastR out).f1 < (i : Int)) ∧ (0 < i → (rd V ((i : Int) - 1) = 0 ↔ 0 < out.length ∧ (lastR out).f1 = (i : Int) - 1)) ∧ out.length ≤ i
theorem last_app (out : List S54) (x : S54) : lastR (out ++ [x]) = x := by
  unfold lastR
  rw [List.length_append, List.length_singleton, Nat.add_sub_cancel, List.getD_eq_getElem?_getD, List.getElem?_append_right (Nat.le_refl _), Nat.sub_self]
  rfl
theorem last_set {out : List S54} (h : 0 < out.length) (x : S54) : lastR (out.set (out.length - 1) x) = x := by
  unfold lastR
  rw [List.length_set, List.getD_eq_getElem?_getD, List.getElem?_set_self (by omega)]
  rfl
theorem inv_step {V : List Int} (hV : ∀ i : Nat, 0 ≤ rd V (i : Int)) {i : Nat} {out : List S54} (h : InvR V i out) : InvR V (i + 1) (runStep V i out) := by
  obtain ⟨h1, h2, h3⟩ := h
  have e : ((i + 1 : Nat) : Int) - 1 = (i : Int) := by omega
  unfold runStep
  by_cases c : rd V (i : Int) > 0
  · rw [if_pos c]
    refine ⟨fun hp => by have := h1 hp; omega, fun _ => ?_, by omega⟩
    rw [e]
    exact ⟨fun q => by omega, fun q => by have := h1 q.1; omega⟩
  · rw [if_neg c]
    have hz : rd V (i : Int) = 0 := by have := hV i; omega
    by_cases d : 0 < i ∧ rd V ((i : Int) - 1) = 0
    · rw [if_pos d]
      have hp := ((h2 d.1).1 d.2).1
      refine ⟨fun _ => by rw [last_set hp]; simp only; omega, fun _ => ?_, by rw [List.length_set]; omega⟩
      rw [e, last_set hp, List.length_set]
      exact ⟨fun _ => ⟨hp, rfl⟩, fun _ => hz⟩
    · rw [if_neg d]
      refine ⟨fun _ => by rw [last_app]; simp only; omega, fun _ => ?_, by rw [List.length_append, List.length_singleton]; omega⟩
      rw [e, last_app, List.length_append, List.length_singleton]
      exact ⟨fun _ => ⟨by omega, rfl⟩, fun _ => hz⟩
theorem seen_nonneg (n : Nat) (l : List S59) (i : Nat) : 0 ≤ rd (seenL n l) (i : Int) := by
  by_cases h : i < n
  · unfold seenL
    rw [tab_rd h]
    exact (see_bd l i l.length).1
  · have e : (seenL n l).length = n := tab_len _ _
    unfold rd
    rw [Int.toNat_natCast, List.getD_eq_getElem?_getD, List.getElem?_eq_none (by omega)]
    exact Int.le_refl 0
def unseenR (s : Int) (r : Bool) (l : List S59) : List S54 × Bool := if sensV s r l = true then (runs (seenL s.toNat l) s.toNat 0 [], true) else ([], false)
theorem specUnseen_ev (s : Int) (r : Bool) (l : List S59) (hl : l.length ≤ 1048576) : Ev (fun k => spec_UnseenRuns.f k s r l) (unseenR s r l) := by
  unfold spec_UnseenRuns.f unseenR
  simp only [Option.bind_some]
  refine Ev.bind (l9Sensors_ev s r l hl) ?_
  cases hv : sensV s r l with
  | true =>
    obtain ⟨n, rfl, rfl, h2, h24⟩ := sens_nat hv
    refine ev_pos rfl (Ev.bind (l9Seen_ev n l hv) ?_)
    rw [if_pos rfl, Int.toNat_natCast]
    have hlen : (seenL n l).length = n := tab_len _ _
    have key := down (P := fun i => ∀ out : List S54, InvR (seenL n l) i out → Ev (fun k => spec_UnseenRuns.l0 k out (seenL n l) (i : Int) (n : Int) false) (runs (seenL n l) (n - i) i out, true)) (n := n)
      (fun out _ => ev_now (fun k => by
        simp only [spec_UnseenRuns.l0]
        rw [if_neg (by omega), Nat.sub_self]
        rfl))
      (fun i hi ih out hI => by
        rw [show n - i = (n - (i + 1)) + 1 by omega]
        simp only [runs]
        refine Ev.step (fun k => ?_) (ih _ (inv_step (seen_nonneg n l) hI))
        obtain ⟨i1, i2, i3⟩ := hI
        simp only [spec_UnseenRuns.l0]
        rw [if_pos (by omega), if_pos (by omega), if_pos (by omega), w64s hi (by omega)]
        unfold runStep
        by_cases c : rd (seenL n l) (i : Int) > 0
        · rw [if_pos c, if_pos c]
        · rw [if_neg c, if_neg c]
          by_cases d0 : 0 < i
          · rw [if_pos (by omega), w64 (x := (i : Int) - 1) (by omega) (by omega), if_pos (by omega), if_pos (by omega)]
            by_cases d : rd (seenL n l) ((i : Int) - 1) = 0
            · have hp := ((i2 d0).1 d).1
              rw [if_pos d, if_pos (show 0 < i ∧ rd (seenL n l) ((i : Int) - 1) = 0 from ⟨d0, d⟩), w64 (x := (out.length : Int) - 1) (by omega) (by omega), if_pos (by omega), if_pos (by omega)]
              rw [show (out.length : Int) - 1 = ((out.length - 1 : Nat) : Int) by omega, Int.toNat_natCast]
              rfl
            · rw [if_neg d, if_neg (show ¬ (0 < i ∧ rd (seenL n l) ((i : Int) - 1) = 0) from fun h => d h.2), if_pos (by omega)]
          · rw [if_neg (by omega), if_neg (show ¬ (0 < i ∧ rd (seenL n l) ((i : Int) - 1) = 0) from fun h => d0 h.1), if_pos (by omega)])
    exact key 0 (by omega) [] ⟨fun h => absurd h (by simp), fun h => absurd h (by omega), by simp⟩
  | false => exact ev_neg (by simp) (Ev.now _)
theorem implUnseen_ev (s : Int) (r : Bool) (l : List S59) (hl : l.length ≤ 1048576) : Ev (fun k => impl_UnseenRuns.f k s r l) (unseenR s r l) := by
  unfold impl_UnseenRuns.f unseenR
  refine Ev.bind (isGuarded_ev s r l hl) ?_
  cases hv : sensV s r l with
  | true =>
    obtain ⟨n, rfl, rfl, h2, h24⟩ := sens_nat hv
    refine ev_pos rfl (Ev.bind (implSeen_ev n l hv) ?_)
    rw [if_pos rfl, Int.toNat_natCast]
    have hlen : (seenL n l).length = n := tab_len _ _
    have key := down (P := fun i => ∀ out : List S54, InvR (seenL n l) i out → Ev (fun k => impl_UnseenRuns.l0 k out (seenL n l) ((seenL n l).length : Int) (i : Int)) (runs (seenL n l) (n - i) i out, true)) (n := n)
      (fun out _ => ev_now (fun k => by
        simp only [impl_UnseenRuns.l0]
        rw [if_neg (by omega), Nat.sub_self]
        rfl))
      (fun i hi ih out hI => by
        rw [show n - i = (n - (i + 1)) + 1 by omega]
        simp only [runs]
        refine Ev.step (fun k => ?_) (ih _ (inv_step (seen_nonneg n l) hI))
        obtain ⟨i1, i2, i3⟩ := hI
        simp only [impl_UnseenRuns.l0]
        rw [if_pos (by omega), if_pos (by omega), if_pos (by omega), w64s hi (by omega)]
        unfold runStep
        by_cases c : rd (seenL n l) (i : Int) > 0
        · rw [if_pos c, if_pos c]
        · rw [if_neg c, if_neg c]
          by_cases hp : 0 < out.length
          · rw [if_pos (by omega), w64 (x := (out.length : Int) - 1) (by omega) (by omega), if_pos (by omega), if_pos (by omega), w64 (x := (i : Int) - 1) (by omega) (by omega), show rd_T54 out ((out.length : Int) - 1) = lastR out by rw [show (out.length : Int) - 1 = ((out.length - 1 : Nat) : Int) by omega]; rfl]
            by_cases d : (lastR out).f1 = (i : Int) - 1
            · rw [if_pos d, if_pos (show 0 < i ∧ rd (seenL n l) ((i : Int) - 1) = 0 from ⟨by omega, (i2 (by omega)).2 ⟨hp, d⟩⟩)]
              rw [show (out.length : Int) - 1 = ((out.length - 1 : Nat) : Int) by omega, Int.toNat_natCast]
            · rw [if_neg d, if_neg (show ¬ (0 < i ∧ rd (seenL n l) ((i : Int) - 1) = 0) from fun h => d ((i2 h.1).1 h.2).2), if_pos (by omega)]
          · rw [if_neg (by omega), if_neg (show ¬ (0 < i ∧ rd (seenL n l) ((i : Int) - 1) = 0) from fun h => hp ((i2 h.1).1 h.2).1), if_pos (by omega)])
    exact key 0 (by omega) [] ⟨fun h => absurd h (by simp), fun h => absurd h (by omega), by simp⟩
  | false => exact ev_neg (by simp) (Ev.now _)

theorem rmin_le (a : Int) (f : Nat → Int) (n : Nat) : rmin a f n ≤ a ∧ ∀ j, j < n → rmin a f n ≤ f j := by
  induction n with
  | zero => exact ⟨Int.le_refl _, fun j hj => by omega⟩
  | succ n ih =>
    have h := mn_le (rmin a f n) (f n)
    refine ⟨Int.le_trans h.1 ih.1, fun j hj => ?_⟩
    by_cases e : j = n
    · subst e; exact h.2.1
    · exact Int.le_trans h.1 (ih.2 j (by omega))
theorem rmin_mem (a : Int) (f : Nat → Int) (n : Nat) : rmin a f n = a ∨ ∃ j, j < n ∧ rmin a f n = f j := by
  induction n with
  | zero => exact .inl rfl
  | succ n ih =>
    rcases (mn_le (rmin a f n) (f n)).2.2 with h | h
    · rcases ih with e | ⟨j, hj, e⟩
      · exact .inl (h.trans e)
      · exact .inr ⟨j, by omega, h.trans e⟩
    · exact .inr ⟨n, by omega, h⟩
theorem strL_le {l : List Int} {i : Nat} (h : i < l.length) : strL l ≤ rd l (i : Int) := by
  have := rmin_le (rd l 0) (fun j => rd l ((j + 1 : Nat) : Int)) (l.length - 1)
  unfold strL
  cases i with
  | zero => exact this.1
  | succ i => exact this.2 i (by omega)
theorem strL_mem {l : List Int} (h : 0 < l.length) : ∃ i, i < l.length ∧ strL l = rd l (i : Int) := by
  unfold strL
  rcases rmin_mem (rd l 0) (fun j => rd l ((j + 1 : Nat) : Int)) (l.length - 1) with e | ⟨j, hj, e⟩
  · exact ⟨0, h, e⟩
  · exact ⟨j + 1, by omega, e⟩
theorem strL_ge {l : List Int} (h : 0 < l.length) {v : Int} (hv : ∀ i, i < l.length → v ≤ rd l (i : Int)) : v ≤ strL l := by
  obtain ⟨i, hi, e⟩ := strL_mem h
  rw [e]; exact hv i hi
theorem mir_getD {s : Int} {l : List S59} {j : Nat} (h : j < l.length) : (mirS s l l.length).getD j z59 = ⟨s - 1 - (l.getD j z59).f0, (l.getD j z59).f1⟩ := tg_get h
theorem mir_seen {n : Nat} (l : List S59) {p : Nat} (hp : p < n) : rd (seenL n (mirS (n : Int) l l.length)) (p : Int) = rd (seenL n l) ((n - 1 - p : Nat) : Int) := by
  unfold seenL
  rw [tab_rd hp, tab_rd (by omega)]
  unfold seenP
  have e : (mirS (n : Int) l l.length).length = l.length := tg_len _ _
  rw [e]
  refine sm_congr (fun j hj => ?_)
  unfold see
  rw [mir_getD hj]
  have h1 := mx_ge ((n : Int) - 1 - (l.getD j z59).f0 - p) ((p : Int) - ((n : Int) - 1 - (l.getD j z59).f0))
  have h2 := mx_ge ((l.getD j z59).f0 - ((n - 1 - p : Nat) : Int)) (((n - 1 - p : Nat) : Int) - (l.getD j z59).f0)
  simp only
  have h3 : mx ((n : Int) - 1 - (l.getD j z59).f0 - p) ((p : Int) - ((n : Int) - 1 - (l.getD j z59).f0)) = mx ((l.getD j z59).f0 - ((n - 1 - p : Nat) : Int)) (((n - 1 - p : Nat) : Int) - (l.getD j z59).f0) := by omega
  rw [h3]
theorem mir_mir (s : Int) (l : List S59) : mirS s (mirS s l l.length) (mirS s l l.length).length = l := by
  have e : (mirS s l l.length).length = l.length := tg_len _ _
  rw [e]
  refine (tg_ext (d := z59) rfl (fun q hq => ?_)).symm
  rw [mir_getD hq]
  simp only
  rw [show s - 1 - (s - 1 - (l.getD q z59).f0) = (l.getD q z59).f0 by omega]
theorem mir_sens {s : Int} {r : Bool} {l : List S59} (h : sensV s r l = true) : sensV s r (mirS s l l.length) = true := by
  obtain ⟨h1, h2, h3⟩ := sens_of h
  have e : (mirS s l l.length).length = l.length := tg_len _ _
  unfold sensV at h ⊢
  rw [Bool.and_eq_true, Bool.and_eq_true] at h ⊢
  rw [e]
  refine ⟨⟨h.1.1, decide_eq_true (by omega)⟩, decide_eq_true (fun j hj _ => ?_)⟩
  have := h3 j hj
  unfold sC at this ⊢
  rw [mir_getD hj]
  simp only
  omega
def dkF (V : List Int) (p : Nat) : Int := if rd V (p : Int) = 0 then 1 else 0
theorem dk_bd (V : List Int) (i : Nat) : 0 ≤ sm i (dkF V) ∧ sm i (dkF V) ≤ i := sm_bound (fun q => by unfold dkF; split <;> omega) i
def totR : List S54 → Int
  | [] => 0
  | x :: l => (x.f1 - x.f0 + 1) + totR l
theorem totR_app (a : List S54) (x : S54) : totR (a ++ [x]) = totR a + (x.f1 - x.f0 + 1) := by
  induction a with
  | nil => simp [totR]
  | cons y a ih => simp only [List.cons_append, totR, ih]; omega
def okRun (V : List Int) (i : Nat) (x : S54) : Prop := 0 ≤ x.f0 ∧ x.f0 ≤ x.f1 ∧ x.f1 < i ∧ ∀ p : Nat, x.f0 ≤ p → (p : Int) ≤ x.f1 → rd V (p : Int) = 0
def wfR (V : List Int) (i : Nat) (out : List S54) : Prop := (∀ x ∈ out, okRun V i x) ∧ totR out = sm i (dkF V)
theorem set_last (a : List S54) (x y : S54) : (a ++ [x]).set ((a ++ [x]).length - 1) y = a ++ [y] := by
  rw [List.length_append, List.length_singleton, Nat.add_sub_cancel, List.set_append_right _ _ (Nat.le_refl _)]; simp
theorem wf_step {V : List Int} (hV : ∀ i : Nat, 0 ≤ rd V (i : Int)) {i : Nat} {out : List S54} (hI : InvR V i out) (h : wfR V i out) : wfR V (i + 1) (runStep V i out) := by
  obtain ⟨h1, h2, h3⟩ := hI
  obtain ⟨w1, w2⟩ := h
  have wk : ∀ x, okRun V i x → okRun V (i + 1) x := fun x hx => ⟨hx.1, hx.2.1, by have := hx.2.2.1; omega, hx.2.2.2⟩
  unfold runStep
  by_cases c : rd V (i : Int) > 0
  · rw [if_pos c]
    refine ⟨fun x hx => wk x (w1 x hx), ?_⟩
    rw [sm_succ, w2]
    unfold dkF
    rw [if_neg (show ¬ rd V (i : Int) = 0 by omega)]; omega
  · rw [if_neg c]
    have hz : rd V (i : Int) = 0 := by have := hV i; omega
    have hd : dkF V i = 1 := by unfold dkF; rw [if_pos hz]
    by_cases d : 0 < i ∧ rd V ((i : Int) - 1) = 0
    · rw [if_pos d]
      obtain ⟨hp, hq⟩ := (h2 d.1).1 d.2
      rcases List.eq_nil_or_concat out with e | ⟨a, x, e⟩
      · subst e; simp at hp
      · rw [List.concat_eq_append] at e
        subst e
        rw [last_app] at hq
        rw [last_app, set_last]
        have hx := w1 x (by simp)
        refine ⟨fun y hy => ?_, ?_⟩
        · rcases List.mem_append.1 hy with hy | hy
          · exact wk y (w1 y (List.mem_append_left _ hy))
          · rw [List.mem_singleton.1 hy]
            refine ⟨hx.1, by have := hx.2.1; simp only; omega, by simp only; omega, fun p hp1 hp2 => ?_⟩
            simp only at hp1 hp2
            by_cases e : p = i
            · subst e; exact hz
            · exact hx.2.2.2 p hp1 (by omega)
        · rw [totR_app] at w2 ⊢
          rw [sm_succ, hd]
          simp only
          omega
    · rw [if_neg d]
      refine ⟨fun y hy => ?_, ?_⟩
      · rcases List.mem_append.1 hy with hy | hy
        · exact wk y (w1 y hy)
        · rw [List.mem_singleton.1 hy]
          refine ⟨by simp only; omega, by simp only; omega, by simp only; omega, fun p hp1 hp2 => ?_⟩
          simp only at hp1 hp2
          rw [show p = i by omega]; exact hz
      · rw [totR_app, sm_succ, hd, w2]
        simp only; omega
theorem runs_wf {V : List Int} (hV : ∀ i : Nat, 0 ≤ rd V (i : Int)) : ∀ (m i : Nat) (out : List S54), InvR V i out → wfR V i out → wfR V (i + m) (runs V m i out) := by
  intro m
  induction m with
  | zero => intro i out _ h; exact h
  | succ m ih =>
    intro i out hI h
    have := ih (i + 1) _ (inv_step hV hI) (wf_step hV hI h)
    rw [show i + (m + 1) = i + 1 + m by omega]
    exact this
theorem runs_ok (n : Nat) (l : List S59) : wfR (seenL n l) n (runs (seenL n l) n 0 []) := by
  have := runs_wf (seen_nonneg n l) n 0 [] ⟨fun h => absurd h (by simp), fun h => absurd h (by omega), by simp⟩ ⟨fun x hx => absurd hx List.not_mem_nil, rfl⟩
  simpa using this
theorem runs_pos {V : List Int} {i : Nat} {out : List S54} (h : wfR V i out) : (0 < out.length ↔ 0 < sm i (dkF V)) ∧ (out.length : Int) ≤ totR out := by
  obtain ⟨w1, w2⟩ := h
  have key : ∀ o : List S54, (∀ x ∈ o, okRun V i x) → (o.length : Int) ≤ totR o := by
    intro o
    induction o with
    | nil => intro _; simp [totR]
    | cons x o ih =>
      intro hx
      have a := ih (fun y hy => hx y (List.mem_cons_of_mem _ hy))
      have b := (hx x List.mem_cons_self).2.1
      simp only [totR, List.length_cons]
      omega
  have k := key out w1
  refine ⟨⟨fun h => by omega, fun h => ?_⟩, k⟩
  rcases Nat.eq_zero_or_pos out.length with e | e
  · rw [List.length_eq_zero_iff.1 e] at w2
    simp [totR] at w2
    omega
  · exact e
theorem dark_zero {V : List Int} (hV : ∀ i : Nat, 0 ≤ rd V (i : Int)) (n : Nat) : 0 < sm n (dkF V) ↔ ∃ p, p < n ∧ rd V (p : Int) = 0 := by
  induction n with
  | zero => simp [sm]
  | succ n ih =>
    have hb := dk_bd V n
    rw [sm_succ]
    by_cases c : rd V (n : Int) = 0
    · have : dkF V n = 1 := by unfold dkF; rw [if_pos c]
      rw [this]
      exact ⟨fun _ => ⟨n, by omega, c⟩, fun _ => by omega⟩
    · have : dkF V n = 0 := by unfold dkF; rw [if_neg c]
      rw [this, Int.add_zero, ih]
      constructor
      · rintro ⟨p, hp, h⟩; exact ⟨p, by omega, h⟩
      · rintro ⟨p, hp, h⟩
        by_cases e : p = n
        · subst e; exact absurd h c
        · exact ⟨p, by omega, h⟩
theorem str_zero {V : List Int} (hV : ∀ i : Nat, 0 ≤ rd V (i : Int)) (h0 : 0 < V.length) : strL V = 0 ↔ 0 < sm V.length (dkF V) := by
  rw [dark_zero hV]
  constructor
  · intro h
    obtain ⟨p, hp, e⟩ := strL_mem h0
    exact ⟨p, hp, by omega⟩
  · rintro ⟨p, hp, e⟩
    have a := strL_le hp
    obtain ⟨q, hq, f⟩ := strL_mem h0
    have b := hV q
    omega
theorem sm_erase (f g : Nat → Int) (i : Nat) : ∀ n, i ≤ n → (∀ j, j < n → g j = if j < i then f j else f (j + 1)) → sm n g + f i = sm (n + 1) f := by
  intro n
  induction n with
  | zero => intro h _; rw [show i = 0 by omega]; simp [sm]
  | succ n ih =>
    intro h hg
    by_cases e : i = n + 1
    · subst e
      rw [sm_succ (n + 1) f]
      rw [sm_congr (f := g) (g := f) (fun q hq => by rw [hg q hq, if_pos hq])]
    · have := ih (by omega) (fun j hj => hg j (by omega))
      rw [sm_succ n g, hg n (by omega), if_neg (by omega), sm_succ (n + 1) f]
      omega
theorem seen_erase {n : Nat} (l : List S59) {i p : Nat} (hi : i < l.length) (hp : p < n) : rd (seenL n (l.eraseIdx i)) (p : Int) + see l p i = rd (seenL n l) (p : Int) := by
  unfold seenL
  rw [tab_rd hp, tab_rd hp]
  unfold seenP
  have e : (l.eraseIdx i).length = l.length - 1 := List.length_eraseIdx_of_lt hi
  have := sm_erase (see l p) (see (l.eraseIdx i) p) i (l.length - 1) (by omega) (fun j hj => by
    unfold see
    have e : (l.eraseIdx i).getD j z59 = if j < i then l.getD j z59 else l.getD (j + 1) z59 := by
      rw [List.getD_eq_getElem?_getD, List.getElem?_eraseIdx]
      split <;> rw [List.getD_eq_getElem?_getD]
    rw [e]
    by_cases c : j < i
    · rw [if_pos c, if_pos c]
    · rw [if_neg c, if_neg c])
  rw [e, this, show l.length - 1 + 1 = l.length by omega]
theorem str_erase {n : Nat} (hn : 0 < n) (l : List S59) {i : Nat} (hi : i < l.length) : strL (seenL n l) - 1 ≤ strL (seenL n (l.eraseIdx i)) := by
  have e1 : (seenL n l).length = n := tab_len _ _
  have e2 : (seenL n (l.eraseIdx i)).length = n := tab_len _ _
  refine strL_ge (by omega) (fun p hp => ?_)
  have h1 := strL_le (l := seenL n l) (i := p) (by omega)
  have h2 := seen_erase (n := n) l (p := p) hi (by omega)
  have h3 : see l p i ≤ 1 := by unfold see; split <;> omega
  omega
theorem spL_mem {n : Nat} {l : List S59} {i : Nat} (hi : i < l.length) : (i : Int) ∈ spL n l 0 ↔ spP n l i = true := by
  unfold spL
  rw [List.mem_map]
  constructor
  · rintro ⟨j, hj, e⟩
    have : j = i := by omega
    subst this
    exact (List.mem_filter.1 hj).2
  · intro h
    exact ⟨i, List.mem_filter.2 ⟨by rw [List.mem_range']; exact ⟨i, by omega, by omega⟩, h⟩, rfl⟩

def seenR (s : Int) (r : Bool) (l : List S59) : List Int × Bool := if sensV s r l = true then (seenL s.toNat l, true) else ([], false)
theorem seenR_len (s : Int) (r : Bool) (l : List S59) : (seenR s r l).1.length ≤ 1048576 := by
  unfold seenR
  split
  · rename_i h
    have := sens_of h
    unfold seenL
    simp only [tab_len]; omega
  · simp
theorem specSeen_ev (s : Int) (r : Bool) (l : List S59) (hl : l.length ≤ 1048576) : Ev (fun k => spec_SeenBy.f k s r l) (seenR s r l) := by
  unfold spec_SeenBy.f seenR
  refine Ev.bind (l9Sensors_ev s r l hl) ?_
  cases hv : sensV s r l with
  | true =>
    obtain ⟨n, rfl, rfl, _, _⟩ := sens_nat hv
    exact ev_pos rfl (Ev.bind (l9Seen_ev n l hv) (Ev.now _))
  | false => exact ev_neg (by simp) (Ev.now _)
theorem implSeenBy_ev (s : Int) (r : Bool) (l : List S59) (hl : l.length ≤ 1048576) : Ev (fun k => impl_SeenBy.f k s r l) (seenR s r l) := by
  unfold impl_SeenBy.f seenR
  refine Ev.bind (isGuarded_ev s r l hl) ?_
  cases hv : sensV s r l with
  | true =>
    obtain ⟨n, rfl, rfl, _, _⟩ := sens_nat hv
    exact ev_pos rfl (Ev.bind (implSeen_ev n l hv) (Ev.now _))
  | false => exact ev_neg (by simp) (Ev.now _)

def strR (s : Int) (r : Bool) (l : List S59) : Int × Bool := if sensV s r l = true then (strL (seenL s.toNat l), true) else (0, false)
theorem specStr_ev (s : Int) (r : Bool) (l : List S59) (hl : l.length ≤ 1048576) : Ev (fun k => spec_StrengthOf.f k s r l) (strR s r l) := by
  unfold spec_StrengthOf.f strR
  refine Ev.bind (l9Sensors_ev s r l hl) ?_
  cases hv : sensV s r l with
  | true =>
    obtain ⟨n, rfl, rfl, _, _⟩ := sens_nat hv
    exact ev_pos rfl (Ev.bind (l9Strength_ev n l hv) (Ev.now _))
  | false => exact ev_neg (by simp) (Ev.now _)
theorem implStr_ev (s : Int) (r : Bool) (l : List S59) (hl : l.length ≤ 1048576) : Ev (fun k => impl_StrengthOf.f k s r l) (strR s r l) := by
  unfold impl_StrengthOf.f strR
  refine Ev.bind (isGuarded_ev s r l hl) ?_
  cases hv : sensV s r l with
  | true =>
    obtain ⟨n, rfl, rfl, h2, h3⟩ := sens_nat hv
    have hlen : (seenL n l).length = n := tab_len _ _
    exact ev_pos rfl (Ev.bind (implSeen_ev n l hv) (Ev.bind (slicesMin_ev (seenL n l) (by omega) (by omega)) (Ev.now _)))
  | false => exact ev_neg (by simp) (Ev.now _)

def areR (s : Int) (r : Bool) (l : List S59) : Bool × Bool := (sensV s r l, lineV s r)
theorem specAre_ev (s : Int) (r : Bool) (l : List S59) (hl : l.length ≤ 1048576) : Ev (fun k => spec_AreSensors.f k s r l) (areR s r l) := by
  unfold spec_AreSensors.f areR
  simp only [l2Road_eq, Option.bind_some]
  cases hL : lineV s r with
  | true =>
    have h := line_of hL
    have e : inR 2 24 s = true := inR_iff.2 h.1
    rw [e, h.2]
    refine ev_pos (by simp) (ev_neg (by simp) ?_)
    have h2 := h.2; subst h2
    exact Ev.bind (l9Sensors_ev s false l hl) (Ev.now _)
  | false =>
    have e : sensV s r l = false := by unfold sensV; rw [hL]; simp
    rw [e]
    unfold lineV at hL
    cases h1 : inR 2 24 s with
    | false => exact ev_neg (by simp) (Ev.now _)
    | true =>
      rw [h1] at hL
      cases r with
      | false => simp at hL
      | true =>
        by_cases h2 : s > 2
        · exact ev_pos (by simp [h2]) (ev_pos rfl (Ev.now _))
        · exact ev_neg (by simp [h2]) (Ev.now _)
theorem implAre_ev (s : Int) (r : Bool) (l : List S59) (hl : l.length ≤ 1048576) : Ev (fun k => impl_AreSensors.f k s r l) (areR s r l) := by
  unfold impl_AreSensors.f areR
  simp only [isLine_eq, Option.bind_some]
  cases hL : lineV s r with
  | true =>
    refine ev_pos rfl ?_
    unfold sensV
    rw [hL, Bool.true_and]
    exact Ev.bind (areSensors_ev s r l hl (line_of hL).1) (Ev.now _)
  | false =>
    have e : sensV s r l = false := by unfold sensV; rw [hL]; simp
    rw [e]
    exact ev_neg (by simp) (Ev.now _)

theorem and255w (x : Int) : 0 ≤ wrap64 (Go.bits .and .u64 (IntKind.u64.wrap x / 1099511627776) 255) ∧ wrap64 (Go.bits .and .u64 (IntKind.u64.wrap x / 1099511627776) 255) ≤ 255 := by
  have := and255 x
  rw [w64 (by omega) (by omega)]
  exact this
theorem cur_next {l : List Int} (hb : ∀ x ∈ l, 0 ≤ x ∧ x ≤ 255) (s1 s2 : Int) (h0 : 0 ≤ s1) (h1 : s1 ≤ 1000000) : ∃ v s, spec_l1Cur_next.f l s1 s2 = some (v, s1 + 1, s) ∧ 0 ≤ v ∧ v ≤ 255 := by
  unfold spec_l1Cur_next.f
  rw [w64 (x := s1 + 1) (by omega) (by omega)]
  by_cases c : s1 < (l.length : Int)
  · have hm : rd l s1 ∈ l := by
      obtain ⟨n, rfl⟩ := Int.eq_ofNat_of_zero_le h0
      unfold rd
      rw [Int.toNat_natCast, List.getD_eq_getElem?_getD, List.getElem?_eq_getElem (by omega)]
      exact List.getElem_mem _
    have hv := hb _ hm
    rw [if_pos c, if_pos h0, if_pos (by omega)]
    exact ⟨_, _, rfl, by rw [w64 (by omega) (by omega)]; exact hv⟩
  · rw [if_neg c, if_neg (by omega)]
    exact ⟨_, _, rfl, and255w _⟩
theorem cur_pick {l : List Int} (hb : ∀ x ∈ l, 0 ≤ x ∧ x ≤ 255) (s1 s2 a : Int) (h0 : 0 ≤ s1) (h1 : s1 ≤ 1000000) (ha : 2 ≤ a ∧ a ≤ 200) : ∃ v s, spec_l1Cur_pick.f l s1 s2 a = some (v, s1 + 1, s) ∧ 0 ≤ v ∧ v < a := by
  obtain ⟨v, s, h, v0, v1⟩ := cur_next hb s1 s2 h0 h1
  unfold spec_l1Cur_pick.f
  rw [if_neg (by omega), h]
  simp only [Option.bind_some]
  rw [if_neg (by omega), if_neg (by omega)]
  exact ⟨_, _, rfl, Int.tmod_nonneg _ v0, Int.tmod_lt_of_pos _ (by omega)⟩
theorem cur_among {l : List Int} (hb : ∀ x ∈ l, 0 ≤ x ∧ x ≤ 255) (s1 s2 : Int) (L : List Int) (h0 : 0 ≤ s1) (h1 : s1 ≤ 1000000) (ha : 2 ≤ L.length ∧ L.length ≤ 200) : ∃ v s, spec_l1Cur_among.f l s1 s2 L = some (v, s1 + 1, s) ∧ v ∈ L := by
  obtain ⟨v, s, h, v0, v1⟩ := cur_pick hb s1 s2 (L.length : Int) h0 h1 (by omega)
  unfold spec_l1Cur_among.f
  rw [h]
  simp only [Option.bind_some]
  rw [if_pos v0, if_pos v1]
  refine ⟨_, _, rfl, ?_⟩
  obtain ⟨n, rfl⟩ := Int.eq_ofNat_of_zero_le v0
  unfold rd
  rw [Int.toNat_natCast, List.getD_eq_getElem?_getD, List.getElem?_eq_getElem (by omega)]
  exact List.getElem_mem _
theorem cur_one {l : List Int} (hb : ∀ x ∈ l, 0 ≤ x ∧ x ≤ 255) (s1 s2 a : Int) (h0 : 0 ≤ s1) (h1 : s1 ≤ 1000000) (ha : 2 ≤ a ∧ a ≤ 200) : ∃ b s, spec_l1Cur_one.f l s1 s2 a = some (b, s1 + 1, s) := by
  obtain ⟨v, s, h, v0, v1⟩ := cur_pick hb s1 s2 a h0 h1 ha
  unfold spec_l1Cur_one.f
  rw [h]
  exact ⟨_, _, rfl⟩

theorem cur_size {l : List Int} (hb : ∀ x ∈ l, 0 ≤ x ∧ x ≤ 255) (s1 s2 : Int) (h0 : 0 ≤ s1) (h1 : s1 ≤ 900) : ∃ v s, spec_l1Cur_size.f l s1 s2 = some (v, s1 + 2, s) := by
  obtain ⟨b, s, ho⟩ := cur_one hb s1 s2 40 h0 (by omega) (by omega)
  unfold spec_l1Cur_size.f
  simp only [ho, Option.bind_some]
  cases b with
  | true =>
    obtain ⟨u, t, ha, _⟩ := cur_among hb (s1 + 1) s [1, 2, 24, 25, 0, (-1), 4611686018427387904] (by omega) (by omega) (by simp)
    rw [if_pos rfl, ha]
    exact ⟨u, t, by simp only [Option.bind_some]; rw [show s1 + 1 + 1 = s1 + 2 by omega]⟩
  | false =>
    obtain ⟨u, t, ha, _⟩ := cur_among hb (s1 + 1) s [5, 6, 4, 8, 3, 10, 7, 13, 24, 2] (by omega) (by omega) (by simp)
    rw [if_neg (by decide), ha]
    exact ⟨u, t, by simp only [Option.bind_some]; rw [show s1 + 1 + 1 = s1 + 2 by omega]⟩
theorem cur_road {l : List Int} (hb : ∀ x ∈ l, 0 ≤ x ∧ x ≤ 255) (s1 s2 : Int) (h0 : 0 ≤ s1) (h1 : s1 ≤ 850) : ∃ v r t s, spec_l1Cur_road.f l s1 s2 = some (v, r, t, s) ∧ s1 ≤ t ∧ t ≤ s1 + 10 := by
  obtain ⟨b, s, ho⟩ := cur_one hb s1 s2 2 h0 (by omega) (by omega)
  obtain ⟨v, t, hs⟩ := cur_size hb (s1 + 1) s (by omega) (by omega)
  unfold spec_l1Cur_road.f
  simp only [ho, Option.bind_some]
  cases b with
  | true =>
    rw [if_pos rfl]
    unfold spec_l1Cur_line.f
    simp only [hs, Option.bind_some]
    exact ⟨v, false, s1 + 1 + 2, t, rfl, by omega, by omega⟩
  | false =>
    rw [if_neg (by decide)]
    unfold spec_l1Cur_ring.f
    simp only [hs, Option.bind_some]
    by_cases c : v = 2
    · obtain ⟨b2, u, ho2⟩ := cur_one hb (s1 + 1 + 2) t 4 (by omega) (by omega) (by omega)
      rw [if_pos c]
      simp only [ho2, Option.bind_some]
      cases b2 with
      | true => exact ⟨v, true, s1 + 1 + 2 + 1, u, by rw [if_pos rfl]; rfl, by omega, by omega⟩
      | false => exact ⟨3, true, s1 + 1 + 2 + 1, u, by rw [if_neg (by decide)]; rfl, by omega, by omega⟩
    · rw [if_neg c]
      exact ⟨v, true, s1 + 1 + 2, t, rfl, by omega, by omega⟩
theorem cur_line9 {l : List Int} (hb : ∀ x ∈ l, 0 ≤ x ∧ x ≤ 255) (s1 s2 : Int) (h0 : 0 ≤ s1) (h1 : s1 ≤ 800) : ∃ v r t s, spec_l1Cur_line9.f l s1 s2 = some (v, r, t, s) ∧ s1 ≤ t ∧ t ≤ s1 + 20 := by
  obtain ⟨b, s, ho⟩ := cur_one hb s1 s2 8 h0 (by omega) (by omega)
  unfold spec_l1Cur_line9.f
  simp only [ho, Option.bind_some]
  cases b with
  | true =>
    obtain ⟨v, r, t, u, hr, q0, q1⟩ := cur_road hb (s1 + 1) s (by omega) (by omega)
    rw [if_pos rfl]
    simp only [hr, Option.bind_some]
    exact ⟨v, r, t, u, rfl, by omega, by omega⟩
  | false =>
    obtain ⟨u, t, ha, _⟩ := cur_among hb (s1 + 1) s [6, 8, 5, 10, 4, 12, 3, 2] (by omega) (by omega) (by simp)
    rw [if_neg (by decide)]
    simp only [ha, Option.bind_some]
    exact ⟨u, false, s1 + 1 + 1, t, rfl, by omega, by omega⟩
theorem cur_pick1 {l : List Int} (hb : ∀ x ∈ l, 0 ≤ x ∧ x ≤ 255) (s1 s2 a : Int) (h0 : 0 ≤ s1) (h1 : s1 ≤ 1000000) (ha : a ≤ 200) : ∃ v t s, spec_l1Cur_pick.f l s1 s2 a = some (v, t, s) ∧ s1 ≤ t ∧ t ≤ s1 + 1 := by
  by_cases c : a ≤ 1
  · unfold spec_l1Cur_pick.f
    rw [if_pos c]
    exact ⟨0, s1, s2, rfl, by omega, by omega⟩
  · obtain ⟨v, s, h, _⟩ := cur_pick hb s1 s2 a h0 h1 (by omega)
    exact ⟨v, s1 + 1, s, h, by omega, by omega⟩
def snOk (f : Nat → Option (List S59 × Int × Int)) : Prop := ∃ r, Ev f r ∧ r.1.length ≤ 100 ∧ 0 ≤ r.2.1 ∧ r.2.1 ≤ 1000
theorem sn_l1 (l : List Int) (s1 s2 : Int) (h0 : 0 ≤ s1) (h1 : s1 ≤ 950) : ∀ (m : Nat) (x : List S59), x.length ≤ 50 → 7 - x.length ≤ m → snOk (fun k => spec_l1Cur_sensors9.l1 k x l s1 s2)
  | 0, x, hl, hm => ⟨(x, s1, s2), ev_now (fun k => by simp only [spec_l1Cur_sensors9.l1]; rw [if_neg (by omega)]), by simp only; omega⟩
  | m + 1, x, hl, hm => by
    by_cases c : (x.length : Int) < 7
    · obtain ⟨r, h, hr⟩ := sn_l1 l s1 s2 h0 h1 m (x ++ [⟨0, 0⟩]) (by simp; omega) (by simp; omega)
      exact ⟨r, Ev.step (fun k => by simp only [spec_l1Cur_sensors9.l1]; rw [if_pos c, if_pos (by omega)]) h, hr⟩
    · exact ⟨(x, s1, s2), ev_now (fun k => by simp only [spec_l1Cur_sensors9.l1]; rw [if_neg c]), by simp only; omega⟩
theorem sn_l0 {l : List Int} (hb : ∀ x ∈ l, 0 ≤ x ∧ x ≤ 255) (rc : Int) (same : Bool) (sz : Int) (rg : Bool) : ∀ (c : Nat) (x : List S59) (s1 s2 : Int), x.length + c ≤ 40 → 0 ≤ s1 → s1 + 2 * c ≤ 900 → snOk (fun k => spec_l1Cur_sensors9.l0 k x rc same (c : Int) l s1 s2 sz rg)
  | 0, x, s1, s2, hx, h0, h1 => by
    obtain ⟨v, s, hp, v0, v1⟩ := cur_pick hb s1 s2 30 h0 (by omega) (by omega)
    by_cases c0 : v = 0
    · obtain ⟨u, t, ha, _⟩ := cur_among hb (s1 + 1) s [(-1), sz, 0] (by omega) (by omega) (by simp)
      obtain ⟨u2, t2, ha2, _⟩ := cur_among hb (s1 + 1 + 1) t [12, 13, (-1)] (by omega) (by omega) (by simp)
      exact ⟨(x ++ [⟨u, u2⟩], s1 + 1 + 1 + 1, t2), ev_now (fun k => by
        simp only [spec_l1Cur_sensors9.l0, hp, Option.bind_some]
        rw [if_neg (by omega), if_pos c0]
        simp only [ha, ha2, Option.bind_some]
        rw [if_pos (by omega)]), by simp; omega⟩
    · by_cases c1 : v = 1
      · obtain ⟨r, h, hr⟩ := sn_l1 l (s1 + 1) s (by omega) (by omega) 7 x (by omega) (by omega)
        exact ⟨r, Ev.step (fun k => by
          simp only [spec_l1Cur_sensors9.l0, hp, Option.bind_some]
          rw [if_neg (by omega), if_neg c0, if_pos c1]) h, hr⟩
      · exact ⟨(x, s1 + 1, s), ev_now (fun k => by
          simp only [spec_l1Cur_sensors9.l0, hp, Option.bind_some]
          rw [if_neg (by omega), if_neg c0, if_neg c1]), by simp only; omega⟩
  | c + 1, x, s1, s2, hx, h0, h1 => by
    have hmn := mn_le sz 24
    have hmx := mx_ge 1 (mn sz 24)
    obtain ⟨v, t, s, hp, t0, t1⟩ := cur_pick1 hb s1 s2 (mx 1 (mn sz 24)) h0 (by omega) (by omega)
    cases same with
    | true =>
      obtain ⟨r, h, hr⟩ := sn_l0 hb rc true sz rg c (x ++ [⟨v, rc⟩]) t s (by simp; omega) (by omega) (by omega)
      exact ⟨r, Ev.step (fun k => by
        simp only [spec_l1Cur_sensors9.l0, l1Least_eq, l1Most_eq, hp, Option.bind_some]
        rw [if_pos (by omega), if_pos True.intro, if_pos (by omega), w64 (x := ((c + 1 : Nat) : Int) - 1) (by omega) (by omega), show ((c + 1 : Nat) : Int) - 1 = (c : Int) by omega]) h, hr⟩
    | false =>
      obtain ⟨u, t2, ha, _⟩ := cur_among hb t s [1, 2, 0, 3, 5, 1] (by omega) (by omega) (by simp)
      obtain ⟨r, h, hr⟩ := sn_l0 hb rc false sz rg c (x ++ [⟨v, u⟩]) (t + 1) t2 (by simp; omega) (by omega) (by omega)
      exact ⟨r, Ev.step (fun k => by
        simp only [spec_l1Cur_sensors9.l0, l1Least_eq, l1Most_eq, hp, Option.bind_some]
        rw [if_pos (by omega), if_neg (by decide)]
        simp only [ha, Option.bind_some]
        rw [if_pos (by omega), w64 (x := ((c + 1 : Nat) : Int) - 1) (by omega) (by omega), show ((c + 1 : Nat) : Int) - 1 = (c : Int) by omega]) h, hr⟩
theorem sensors9_ok {l : List Int} (hb : ∀ x ∈ l, 0 ≤ x ∧ x ≤ 255) (s1 s2 : Int) (h0 : 0 ≤ s1) (h1 : s1 ≤ 800) (sz : Int) (rg : Bool) : snOk (fun k => spec_l1Cur_sensors9.f k l s1 s2 sz rg) := by
  obtain ⟨u, t, ha, _⟩ := cur_among hb s1 s2 [1, 2, 0, 3] (by omega) (by omega) (by simp)
  obtain ⟨b, s, ho⟩ := cur_one hb (s1 + 1) t 3 (by omega) (by omega) (by omega)
  obtain ⟨n, t2, ha2, hn⟩ := cur_among hb (s1 + 1 + 1) s [3, 2, 4, 1, 5, 0] (by omega) (by omega) (by simp)
  have hn2 : 0 ≤ n ∧ n ≤ 5 := by
    simp only [List.mem_cons, List.not_mem_nil, or_false] at hn
    omega
  obtain ⟨c, rfl⟩ := Int.eq_ofNat_of_zero_le hn2.1
  obtain ⟨r, h, hr⟩ := sn_l0 hb u b sz rg c [] (s1 + 1 + 1 + 1) t2 (by simp; omega) (by omega) (by omega)
  refine ⟨r, ?_, hr⟩
  unfold spec_l1Cur_sensors9.f
  simp only [ha, ho, ha2, Option.bind_some]
  exact h
theorem vCut_ok {l : List Int} (hb : ∀ x ∈ l, 0 ≤ x ∧ x ≤ 255) (hl : l.length ≤ 65536) (a : Int) (ha : 0 ≤ a) : ∃ l', laws_vCut.f l a = some l' ∧ ∀ x ∈ l', 0 ≤ x ∧ x ≤ 255 := by
  unfold laws_vCut.f
  have hd : ∀ n, (l.drop n).length ≤ 65536 := fun n => by rw [List.length_drop]; omega
  have hmem : ∀ (n : Nat) (y : Int), 0 ≤ y ∧ y ≤ 255 → ∀ x ∈ ([] ++ l.drop n) ++ [y], 0 ≤ x ∧ x ≤ 255 := fun n y hy x hx => by
    rcases List.mem_append.1 hx with hx | hx
    · rw [List.nil_append] at hx
      exact hb x (List.mem_of_mem_drop hx)
    · rw [List.mem_singleton.1 hx]; exact hy
  by_cases c : a > (l.length : Int)
  · rw [if_pos c]
    have h1 := hd (l.length : Int).toNat
    refine ⟨([] ++ l.drop (l.length : Int).toNat) ++ [((l.length : Int)) % 256], ?_, hmem _ _ (by omega)⟩
    simp only [Option.bind_some]
    rw [if_pos (by omega), if_pos (by omega), if_pos (by simp <;> omega), if_pos (by simp <;> omega)]
  · rw [if_neg c]
    have h1 := hd a.toNat
    refine ⟨([] ++ l.drop a.toNat) ++ [a % 256], ?_, hmem _ _ (by omega)⟩
    simp only [Option.bind_some]
    rw [if_pos (by omega), if_pos (by omega), if_pos (by simp; omega), if_pos (by simp; omega)]

theorem drawAre_ok {l : List Int} (hb : ∀ x ∈ l, 0 ≤ x ∧ x ≤ 255) : ∃ r : Int × Bool × List S59, Ev (fun k => spec_DrawAreSensors.f k l) r ∧ r.2.2.length ≤ 100 := by
  obtain ⟨v, rg, t, s, hl, t0, t1⟩ := cur_line9 hb 0 0 (by omega) (by omega)
  obtain ⟨r, h, hr⟩ := sensors9_ok hb t s (by omega) (by omega) v rg
  refine ⟨(v, rg, r.1), ?_, hr.1⟩
  unfold spec_DrawAreSensors.f
  simp only [hl, Option.bind_some]
  exact Ev.bind h (Ev.now _)

theorem vInts_self (l : List Int) (hl : l.length ≤ 1048576) : Ev (fun k => laws_vInts.f k l l) true := by
  unfold laws_vInts.f
  refine ev_pos rfl ?_
  have key := down (P := fun i => Ev (fun k => laws_vInts.l0 k l l (i : Int)) true) (n := l.length)
    (ev_now (fun k => by simp only [laws_vInts.l0]; rw [if_neg (by omega)]))
    (fun i hi ih => Ev.step (fun k => by
      simp only [laws_vInts.l0]
      rw [if_pos (by omega), if_pos (by omega), if_pos (by omega), w64s hi (by omega)]
      simp) ih)
  exact key 0 (by omega)
theorem vPairs_self (l : List S54) (hl : l.length ≤ 1048576) : Ev (fun k => laws_vPairs.f k l l) true := by
  unfold laws_vPairs.f
  refine ev_pos rfl ?_
  have key := down (P := fun i => Ev (fun k => laws_vPairs.l0 k l l (i : Int)) true) (n := l.length)
    (ev_now (fun k => by simp only [laws_vPairs.l0]; rw [if_neg (by omega)]))
    (fun i hi ih => Ev.step (fun k => by
      simp only [laws_vPairs.l0]
      rw [if_pos (by omega), if_pos (by omega), if_pos (by omega), w64s hi (by omega)]
      simp) ih)
  exact key 0 (by omega)
theorem vSensors_self (l : List S59) (hl : l.length ≤ 1048576) : Ev (fun k => laws_vSensors.f k l l) true := by
  unfold laws_vSensors.f
  refine ev_pos rfl ?_
  have key := down (P := fun i => Ev (fun k => laws_vSensors.l0 k l l (i : Int)) true) (n := l.length)
    (ev_now (fun k => by simp only [laws_vSensors.l0]; rw [if_neg (by omega)]))
    (fun i hi ih => Ev.step (fun k => by
      simp only [laws_vSensors.l0]
      rw [if_pos (by omega), if_pos (by omega), if_pos (by omega), w64s hi (by omega)]
      simp) ih)
  exact key 0 (by omega)
theorem vHas_ev (l : List Int) (a : Int) (hl : l.length ≤ 1048576) : Ev (fun k => laws_vHas.f k l a) (decide (a ∈ l)) := by
  unfold laws_vHas.f
  have key := down (P := fun i => Ev (fun k => laws_vHas.l0 k l a (i : Int)) (decide (a ∈ l.drop i))) (n := l.length)
    (ev_now (fun k => by simp only [laws_vHas.l0]; rw [if_neg (by omega), List.drop_length]; simp))
    (fun i hi ih => by
      rw [drop_cons hi]
      by_cases c : rd l (i : Int) = a
      · refine ev_now (fun k => ?_)
        simp only [laws_vHas.l0]
        rw [if_pos (by omega), if_pos (by omega), if_pos c, decide_eq_true (by rw [c]; exact List.mem_cons_self)]
      · have e : decide (a ∈ rd l (i : Int) :: l.drop (i + 1)) = decide (a ∈ l.drop (i + 1)) := by
          rw [Bool.eq_iff_iff, decide_eq_true_iff, decide_eq_true_iff, List.mem_cons]
          exact ⟨fun h => h.resolve_left (fun e => c e.symm), .inr⟩
        rw [e]
        refine Ev.step (fun k => ?_) ih
        simp only [laws_vHas.l0]
        rw [if_pos (by omega), if_pos (by omega), if_neg c, w64s hi (by omega)])
  have := key 0 (by omega)
  simpa using this
section
variable {n : Nat} {l : List S59}
set_option maxHeartbeats 2000000 in
theorem sens_l4 (hv : sensV (n : Int) false l = true) : Ev (fun k => laws_FnSensors.l4 k l (strL (seenL n l)) (spL n l 0) 0 (n : Int) false) true := by
  have h := sens_of hv
  have hl := h.2.1
  have hs := h.1.1
  have hsl := spL_len n l 0
  have key := down (P := fun i => Ev (fun k => laws_FnSensors.l4 k l (strL (seenL n l)) (spL n l 0) (i : Int) (n : Int) false) true) (n := l.length)
    (ev_now (fun k => by simp only [laws_FnSensors.l4]; rw [if_neg (by omega)]))
    (fun i hi ih => by
      have hve := sens_erase hv i
      have e : (l.take i) ++ l.drop (i + 1) = l.eraseIdx i := (List.eraseIdx_eq_take_drop_succ l i).symm
      have e1 : (l.take i).length = i := by rw [List.length_take]; omega
      have e2 : (l.drop (i + 1)).length = l.length - (i + 1) := List.length_drop
      have hle := List.length_eraseIdx_le l i
      have hst := implStr_ev (n : Int) false (l.eraseIdx i) (by omega)
      have est : strR (n : Int) false (l.eraseIdx i) = (strL (seenL n (l.eraseIdx i)), true) := by unfold strR; rw [if_pos hve, Int.toNat_natCast]
      rw [est] at hst
      have hstr := str_erase (n := n) (by omega) l hi
      have hmem : decide ((i : Int) ∈ spL n l 0) = decide (strL (seenL n (l.eraseIdx i)) > 0) := by
        rw [Bool.eq_iff_iff, decide_eq_true_iff, spL_mem hi]
        rfl
      have hsz : (seenL n l).length = n := tab_len _ _
      have hb0 : -10 ≤ strL (seenL n l) ∧ strL (seenL n l) ≤ 1000 := by
        obtain ⟨p, hp, ep⟩ := strL_mem (l := seenL n l) (by omega)
        have h0 := seen_nonneg n l p
        have h1 : rd (seenL n l) (p : Int) ≤ 6 := by
          unfold seenL
          rw [tab_rd (by omega)]
          have := (see_bd l p l.length).2
          unfold seenP
          omega
        omega
      refine Ev.step (f := fun k => (impl_StrengthOf.f k (n : Int) false (l.eraseIdx i)).bind fun bt => if bt.2 = true then ((laws_vHas.f k (spL n l 0) (i : Int)).bind fun t => if (t != decide (bt.1 > 0)) = true then some false else (if bt.1 < wrap64 (strL (seenL n l) - 1) then some false else laws_FnSensors.l4 k l (strL (seenL n l)) (spL n l 0) ((i + 1 : Nat) : Int) (n : Int) false)) else some false) (fun k => ?_) (Ev.bind hst (ev_pos rfl (Ev.bind (vHas_ev _ _ (by omega)) (ev_neg (by rw [hmem]; simp) (ev_neg ?_ ih)))))
      · simp only [laws_FnSensors.l4, Option.bind_some, List.nil_append, List.length_nil, Nat.zero_add, w64s hi (show l.length ≤ 1152921504606846976 by omega), Int.toNat_natCast, e, e1, e2]
        rw [if_pos (by omega), if_pos (by omega), if_pos (by omega), if_pos (by omega), if_pos (by omega), if_pos (by omega), if_pos (by omega)]
      · rw [w64 (by omega) (by omega)]
        simp only
        omega)
  exact key 0 (by omega)
theorem tot_take {l : List S54} {i : Nat} (h : i < l.length) : totR (l.take (i + 1)) = totR (l.take i) + ((l.getD i z54).f1 - (l.getD i z54).f0 + 1) := by
  have : l.take (i + 1) = l.take i ++ [l.getD i z54] := by
    rw [List.take_succ_eq_append_getElem h]; congr 1; simp [List.getD, h]
  rw [this, totR_app]
theorem tot_bd {V : List Int} {n : Nat} {l : List S54} (h : ∀ x ∈ l, okRun V n x) (hn : n ≤ 24) : 0 ≤ totR l ∧ totR l ≤ 24 * l.length := by
  induction l with
  | nil => simp [totR]
  | cons x l ih =>
    have a := ih (fun y hy => h y (List.mem_cons_of_mem _ hy))
    have b := h x List.mem_cons_self
    unfold okRun at b
    simp only [totR, List.length_cons]
    omega
set_option maxHeartbeats 2000000 in
theorem sens_l2 (hv : sensV (n : Int) false l = true) (L : List S54) (hL : runs (seenL n l) n 0 [] = L) (dk : Int) (hdk : dk = sm n (dkF (seenL n l))) :
    Ev (fun k => laws_FnSensors.l2 k l (seenL n l) L (strL (seenL n l)) (spL n l 0) (strL (seenL n l)) dk 0 0 (n : Int) false) true := by
  have h := sens_of hv
  have hs := h.1.1
  have hw := runs_ok n l
  rw [hL] at hw
  have hlen : (seenL n l).length = n := tab_len _ _
  have hdb := dk_bd (seenL n l) n
  have htot := hw.2
  have hpos := runs_pos hw
  have hll : L.length ≤ 24 := by omega
  have hz := str_zero (seen_nonneg n l) (by omega)
  rw [hlen] at hz
  have key := down (P := fun i => Ev (fun k => laws_FnSensors.l2 k l (seenL n l) L (strL (seenL n l)) (spL n l 0) (strL (seenL n l)) dk (totR (L.take i)) (i : Int) (n : Int) false) true) (n := L.length)
    (by
      rw [List.take_length]
      refine Ev.step (f := fun k => laws_FnSensors.j7 k l (strL (seenL n l)) (spL n l 0) false (n : Int) false) (fun k => ?_) (Ev.step (fun k => ?_) (sens_l4 hv))
      · simp only [laws_FnSensors.l2]
        rw [if_neg (by omega), if_pos (by omega), if_pos True.intro]
        congr 1
        by_cases c : strL (seenL n l) = 0
        · have h1 := hz.1 c
          have h2 : 0 < L.length := hpos.1.2 (by omega)
          rw [c, decide_eq_true (by omega)]
          rfl
        · have h1 : ¬ 0 < sm n (dkF (seenL n l)) := fun q => c (hz.2 q)
          have h2 : ¬ 0 < L.length := fun q => h1 (hpos.1.1 q)
          rw [decide_eq_false (by omega)]
          simp [c]
      · simp only [laws_FnSensors.j7]
        rw [if_neg (by decide)])
    (fun i hi ih => by
      have hr := hw.1 _ (show L.getD i z54 ∈ L by rw [List.getD_eq_getElem?_getD, List.getElem?_eq_getElem hi]; exact List.getElem_mem _)
      obtain ⟨x, hx⟩ : ∃ x, L.getD i z54 = x := ⟨_, rfl⟩
      have hx' : rd_T54 L (i : Int) = x := hx
      have ht := tot_take hi
      have htb := tot_bd (l := L.take i) (fun y hy => hw.1 y (List.mem_of_mem_take hy)) (by omega)
      have hlt : (L.take i).length ≤ 24 := by rw [List.length_take]; omega
      rw [hx] at hr ht
      unfold okRun at hr
      obtain ⟨a, ha⟩ : ∃ a : Nat, x.f0 = a := ⟨x.f0.toNat, by omega⟩
      obtain ⟨b, hb⟩ : ∃ b : Nat, x.f1 = b := ⟨x.f1.toNat, by omega⟩
      rw [ha, hb] at hr ht
      obtain ⟨S, hS⟩ : ∃ S, totR (L.take i) = S := ⟨_, rfl⟩
      rw [hS] at htb ht
      rw [ht] at ih
      have inner := down (P := fun p => a ≤ p → Ev (fun k => laws_FnSensors.l3 k l (seenL n l) L (strL (seenL n l)) (spL n l 0) (strL (seenL n l)) dk (S + ((p : Int) - a)) (i : Int) (p : Int) (n : Int) false) true) (n := b + 1)
        (fun _ => by
          have e0 : S + (((b + 1 : Nat) : Int) - a) = S + ((b : Int) - a + 1) := by omega
          rw [e0]
          refine Ev.step (fun k => ?_) ih
          simp only [laws_FnSensors.l3, hx', hb]
          rw [if_pos (by omega), if_pos (by omega), if_neg (by omega), w64s hi (by omega)])
        (fun p hp ih2 hap => by
          have hz0 := hr.2.2.2 p (by omega) (by omega)
          have h3 := ih2 (by omega)
          have e0 : S + (((p + 1 : Nat) : Int) - a) = S + ((p : Int) - a) + 1 := by omega
          rw [e0] at h3
          refine Ev.step (fun k => ?_) h3
          simp only [laws_FnSensors.l3, hx', hb]
          rw [if_pos (by omega), if_pos (by omega), if_pos (by omega), if_pos (by omega), if_pos (by omega), if_pos hz0, w64 (x := S + ((p : Int) - a) + 1) (by omega) (by omega), w64s (n := 1000) (by omega) (by omega)])
      have i0 := inner a (by omega) (Nat.le_refl _)
      rw [show S + ((a : Int) - a) = S by omega] at i0
      rw [hS]
      refine Ev.step (fun k => ?_) i0
      simp only [laws_FnSensors.l2, hx', ha]
      rw [if_pos (by omega), if_pos (by omega)])
  have := key 0 (by omega)
  simpa [totR] using this
def leastTo (V : List Int) : Nat → Int
  | 0 => rd V 0
  | p + 1 => if rd V (p : Int) < leastTo V p then rd V (p : Int) else leastTo V p
theorem leastTo_str {V : List Int} (h : 0 < V.length) : leastTo V V.length = strL V := by
  have key : ∀ p, p ≤ V.length → leastTo V p ≤ rd V 0 ∧ (∀ q, q < p → leastTo V p ≤ rd V (q : Int)) ∧ ∃ q, q < V.length ∧ leastTo V p = rd V (q : Int) := by
    intro p
    induction p with
    | zero => intro _; exact ⟨Int.le_refl _, fun q hq => by omega, 0, h, rfl⟩
    | succ p ih =>
      intro hp
      obtain ⟨a, b, c⟩ := ih (by omega)
      unfold leastTo
      split
      · rename_i hlt
        refine ⟨by omega, fun q hq => ?_, p, by omega, rfl⟩
        by_cases e : q = p
        · subst e; exact Int.le_refl _
        · have := b q (by omega); omega
      · rename_i hlt
        refine ⟨a, fun q hq => ?_, c⟩
        by_cases e : q = p
        · subst e; omega
        · exact b q (by omega)
  obtain ⟨_, b, q, hq, e⟩ := key V.length (Nat.le_refl _)
  obtain ⟨p, hp, e2⟩ := strL_mem h
  have h1 := strL_le hq
  have h2 := b p hp
  omega
set_option maxHeartbeats 2000000 in
theorem sens_j3 (hv : sensV (n : Int) false l = true) : Ev (fun k => laws_FnSensors.j3 k l (seenL n l) true (runs (seenL n l) n 0 []) (strL (seenL n l)) (spL n l 0) (n : Int) false) true := by
  have h := sens_of hv
  have hs := h.1.1
  have hlen : (seenL n l).length = n := tab_len _ _
  obtain ⟨L, hL⟩ : ∃ L, runs (seenL n l) n 0 [] = L := ⟨_, rfl⟩
  rw [hL]
  have key := down (P := fun p => Ev (fun k => laws_FnSensors.l1 k l (seenL n l) L (strL (seenL n l)) (spL n l 0) (leastTo (seenL n l) p) (sm p (dkF (seenL n l))) 0 (p : Int) (n : Int) false) true) (n := n)
    (by
      have h2 := sens_l2 hv L hL _ rfl
      have e := leastTo_str (V := seenL n l) (by omega)
      rw [hlen] at e
      rw [e]
      refine Ev.step (fun k => ?_) h2
      simp only [laws_FnSensors.l1]
      rw [if_neg (by omega)])
    (fun p hp ih => by
      have hd := dk_bd (seenL n l) p
      rw [sm_succ] at ih
      refine Ev.step (fun k => ?_) ih
      simp only [laws_FnSensors.l1, leastTo]
      rw [if_pos (by omega), if_pos (by omega), if_pos (by omega), w64s hp (by omega)]
      by_cases c : rd (seenL n l) (p : Int) = 0
      · have e1 : dkF (seenL n l) p = 1 := by unfold dkF; rw [if_pos c]
        rw [e1, if_pos c, if_pos c, w64 (x := sm p (dkF (seenL n l)) + 1) (by omega) (by omega)]
        by_cases c2 : rd (seenL n l) (p : Int) < leastTo (seenL n l) p
        · rw [if_pos c2, if_pos c2]
        · rw [if_neg c2, if_neg c2]
      · have e1 : dkF (seenL n l) p = 0 := by unfold dkF; rw [if_neg c]
        rw [e1, if_neg c, if_neg c, Int.add_zero]
        by_cases c2 : rd (seenL n l) (p : Int) < leastTo (seenL n l) p
        · rw [if_pos c2, if_pos c2]
        · rw [if_neg c2, if_neg c2])
  refine Ev.step (fun k => ?_) (key 0 (by omega))
  simp only [laws_FnSensors.j3]
  rw [if_pos True.intro, if_pos (by omega)]
  rfl
end
theorem runs_len (V : List Int) : ∀ (m i : Nat) (out : List S54), (runs V m i out).length ≤ out.length + m
  | 0, _, _ => by simp [runs]
  | m + 1, i, out => by
    simp only [runs]
    have h := runs_len V m (i + 1) (runStep V i out)
    have h2 : (runStep V i out).length ≤ out.length + 1 := by
      unfold runStep
      split
      · omega
      · split
        · rw [List.length_set]; omega
        · rw [List.length_append, List.length_singleton]; omega
    omega
theorem unseenR_len (s : Int) (r : Bool) (l : List S59) : (unseenR s r l).1.length ≤ 1048576 := by
  unfold unseenR
  split
  · rename_i h
    have h1 := (sens_of h).1.1
    have h2 := runs_len (seenL s.toNat l) s.toNat 0 []
    simp only
    rw [List.length_nil] at h2
    omega
  · simp
theorem sens_end (s : Int) (r : Bool) (l : List S59) : Ev (fun k => laws_FnSensors.j3 k l (seenR s r l).1 (seenR s r l).2 (unseenR s r l).1 (strR s r l).1 (spareR s r l).1 s r) true := by
  cases hv : sensV s r l with
  | false =>
    have e : (seenR s r l).2 = false := by unfold seenR; rw [hv]; rfl
    rw [e]
    exact ev_now (fun k => by simp only [laws_FnSensors.j3]; rw [if_neg (by decide)])
  | true =>
    obtain ⟨n, rfl, rfl, _, _⟩ := sens_nat hv
    have e1 : seenR (n : Int) false l = (seenL n l, true) := by unfold seenR; rw [if_pos hv, Int.toNat_natCast]
    have e2 : unseenR (n : Int) false l = (runs (seenL n l) n 0 [], true) := by unfold unseenR; rw [if_pos hv, Int.toNat_natCast]
    have e3 : strR (n : Int) false l = (strL (seenL n l), true) := by unfold strR; rw [if_pos hv, Int.toNat_natCast]
    have e4 : spareR (n : Int) false l = (spL n l 0, true) := by unfold spareR; rw [if_pos hv, Int.toNat_natCast]
    rw [e1, e2, e3, e4]
    exact sens_j3 hv
set_option maxHeartbeats 2000000 in
theorem sens_j0 (s : Int) (r : Bool) (l : List S59) (s' : Int) (r' : Bool) (l' : List S59) (hl' : l'.length ≤ 100) : Ev (fun k => laws_FnSensors.j0 k l (seenR s r l).1 (seenR s r l).2 (unseenR s r l).1 (strR s r l).1 (spareR s r l).1 l' (mirSR s' r' l').1 (mirSR s' r' l').2 false s r s' r') true := by
  have hend := sens_end s r l
  obtain ⟨x5, h5⟩ : ∃ x, (seenR s r l).1 = x := ⟨_, rfl⟩
  obtain ⟨x6, h6⟩ : ∃ x, (seenR s r l).2 = x := ⟨_, rfl⟩
  obtain ⟨x9, h9⟩ : ∃ x, (unseenR s r l).1 = x := ⟨_, rfl⟩
  obtain ⟨x13, h13⟩ : ∃ x, (strR s r l).1 = x := ⟨_, rfl⟩
  obtain ⟨x17, h17⟩ : ∃ x, (spareR s r l).1 = x := ⟨_, rfl⟩
  rw [h5, h6, h9, h13, h17] at hend ⊢
  cases hv : sensV s' r' l' with
  | false =>
    have e : (mirSR s' r' l').2 = false := by unfold mirSR; rw [hv]; rfl
    rw [e]
    exact Ev.step (fun k => by simp only [laws_FnSensors.j0]; rw [if_neg (by decide), if_neg (by decide)]) hend
  | true =>
    obtain ⟨n, rfl, rfl, h2, h24⟩ := sens_nat hv
    have em : mirSR (n : Int) false l' = (mirS (n : Int) l' l'.length, true) := by unfold mirSR; rw [if_pos hv]
    have hvm := mir_sens hv
    have hml : (mirS (n : Int) l' l'.length).length = l'.length := tg_len _ _
    have es1 : seenR (n : Int) false l' = (seenL n l', true) := by unfold seenR; rw [if_pos hv, Int.toNat_natCast]
    have es2 : seenR (n : Int) false (mirS (n : Int) l' l'.length) = (seenL n (mirS (n : Int) l' l'.length), true) := by unfold seenR; rw [if_pos hvm, Int.toNat_natCast]
    have emm : mirSR (n : Int) false (mirS (n : Int) l' l'.length) = (l', true) := by
      unfold mirSR
      rw [if_pos hvm, mir_mir]
    have t1 := implSeenBy_ev (n : Int) false l' (by omega)
    have t2 := implSeenBy_ev (n : Int) false (mirS (n : Int) l' l'.length) (by omega)
    have t3 := implMirS_ev (n : Int) false (mirS (n : Int) l' l'.length) (by omega)
    rw [es1] at t1
    rw [es2] at t2
    rw [emm] at t3
    rw [em]
    have hla : (seenL n l').length = n := tab_len _ _
    have hlb : (seenL n (mirS (n : Int) l' l'.length)).length = n := tab_len _ _
    have key := down (P := fun p => Ev (fun k => laws_FnSensors.l0 k l x5 x6 x9 x13 x17 l' (mirS (n : Int) l' l'.length) (seenL n l') true (seenL n (mirS (n : Int) l' l'.length)) true (p : Int) s r (n : Int) false) true) (n := n)
      (by
        refine Ev.step (f := fun k => laws_FnSensors.j2 k l x5 x6 x9 x13 x17 l' (mirS (n : Int) l' l'.length) (seenL n l') true (seenL n (mirS (n : Int) l' l'.length)) true (n : Int) false s r (n : Int) false) (fun k => ?_) ?_
        · simp only [laws_FnSensors.l0]
          rw [if_pos True.intro, if_pos True.intro, decide_eq_false (by omega)]
        · refine Ev.step (fun k => by simp only [laws_FnSensors.j2]; rw [if_neg (by decide)]) (Ev.bind t3 (ev_pos True.intro (ev_pos True.intro (ev_pos rfl (Ev.bind (vSensors_self l' (by omega)) (ev_pos rfl hend)))))))
      (fun p hp ih => by
        have hm := mir_seen l' (n := n) (p := n - 1 - p) (by omega)
        rw [show n - 1 - (n - 1 - p) = p by omega] at hm
        refine Ev.step (f := fun k => laws_FnSensors.j2 k l x5 x6 x9 x13 x17 l' (mirS (n : Int) l' l'.length) (seenL n l') true (seenL n (mirS (n : Int) l' l'.length)) true (p : Int) true s r (n : Int) false) (fun k => ?_) (Ev.step (fun k => ?_) ih)
        · simp only [laws_FnSensors.l0]
          rw [if_pos True.intro, if_pos True.intro, decide_eq_true (by omega)]
        · simp only [laws_FnSensors.j2]
          rw [if_pos True.intro, if_pos (by omega), if_pos (by omega), w64 (x := (n : Int) - 1) (by omega) (by omega), w64 (x := (n : Int) - 1 - p) (by omega) (by omega), if_pos (by omega), if_pos (by omega), show (n : Int) - 1 - p = ((n - 1 - p : Nat) : Int) by omega, hm, if_pos rfl, w64s hp (by omega)])
    exact Ev.step (fun k => by simp only [laws_FnSensors.j0]; rw [if_neg (by decide), if_pos True.intro]) (Ev.bind t1 (Ev.bind t2 (key 0 (by omega))))
set_option maxHeartbeats 2000000 in
theorem FnSensors : FnSensorsLeft := by
  intro code _ hwf
  have hb : ∀ x ∈ code, 0 ≤ x ∧ x ≤ 255 := fun x hx => by
    have := hwf x hx
    simp [Lit.wf, IntKind.min, IntKind.max, IntKind.signed, IntKind.bits] at this
    omega
  refine Ev.rounds (g := fun k => laws_FnSensors.f k code) ?_
  unfold laws_FnSensors.f laws_vBig.f
  simp only [Option.bind_some]
  by_cases hbig : (code.length : Int) > 65536
  · exact ev_pos (decide_eq_true hbig) (Ev.now _)
  refine ev_neg (by rw [decide_eq_false hbig]; simp) ?_
  obtain ⟨⟨s, r, l⟩, hd1, hl⟩ := drawAre_ok hb
  obtain ⟨code', hcut, hb'⟩ := vCut_ok hb (by omega) 1 (by omega)
  obtain ⟨⟨s', r', l'⟩, hd2, hl'⟩ := drawAre_ok hb'
  simp only at hl hl'
  have hdraw1 : Ev (fun k => spec_DrawSeenBy.f k code) (s, r, l) := by unfold spec_DrawSeenBy.f; exact Ev.bind hd1 (Ev.now _)
  have hdraw2 : Ev (fun k => spec_DrawMirrorSensors.f k code') (s', r', l') := by unfold spec_DrawMirrorSensors.f; exact Ev.bind hd2 (Ev.now _)
  have hl2 : l.length ≤ 1048576 := by omega
  have hl2' : l'.length ≤ 1048576 := by omega
  have hu := unseenR_len s r l
  have hsp := spareR_len s r l hl2
  have hse := seenR_len s r l
  have hmi := mirSR_len s' r' l' hl2'
  have hj0 := sens_j0 s r l s' r' l' hl'
  refine Ev.bind hdraw1 ?_
  refine Ev.bind (implSeenBy_ev s r l hl2) (Ev.bind (specSeen_ev s r l hl2) ?_)
  refine Ev.bind (implUnseen_ev s r l hl2) (Ev.bind (specUnseen_ev s r l hl2) ?_)
  refine Ev.bind (implStr_ev s r l hl2) (Ev.bind (specStr_ev s r l hl2) ?_)
  refine Ev.bind (implSpare_ev s r l hl2) (Ev.bind (specSpare_ev s r l hl2) ?_)
  refine Ev.bind (implAre_ev s r l hl2) (Ev.bind (specAre_ev s r l hl2) ?_)
  refine ev_bind0 hcut ?_
  refine Ev.bind hdraw2 ?_
  refine Ev.bind (implMirS_ev s' r' l' hl2') (Ev.bind (specMirS_ev s' r' l' hl2') ?_)
  refine ev_neg (by simp) (Ev.bind (vInts_self _ hse) (ev_pos rfl ?_))
  refine ev_neg (by simp) (Ev.bind (vPairs_self _ (by omega)) (ev_pos rfl ?_))
  refine ev_pos rfl (ev_neg (by simp) (ev_neg (by simp) ?_))
  refine Ev.bind (vInts_self _ hsp) (ev_pos rfl ?_)
  refine ev_neg (by simp) (ev_neg (by simp) (ev_neg (by simp) ?_))
  refine Ev.bind (vSensors_self _ hmi) (ev_pos rfl ?_)
  have hok : ((seenR s r l).2 != (areR s r l).1) = false := by
    unfold seenR areR
    cases sensV s r l <;> rfl
  by_cases c : (areR s r l).2 = true
  · refine ev_pos c ?_
    rw [hok]
    exact hj0
  · refine ev_neg c ?_
    have e : (seenR s r l).2 = false := by
      unfold areR at c
      unfold seenR
      have : sensV s r l = false := by
        unfold sensV
        cases hL : lineV s r with
        | true => exact absurd hL c
        | false => simp
      rw [this]; rfl
    have e2 : ((seenR s r l).2 != false) = false := by rw [e]; rfl
    rw [e2]
    exact hj0

end Go.Proofs.Ytknfhoghimnieaa.Pure
