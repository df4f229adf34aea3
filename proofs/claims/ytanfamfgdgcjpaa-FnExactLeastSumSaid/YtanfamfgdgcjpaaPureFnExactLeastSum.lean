/- FnExactLeastSum: the left statement: for every road and list of sensors the law answers true. No condition. -/
import Derived.Test.YtanfamfgdgcjpaaQFnExactLeastSumx6
import Derived.Test.YtanfamfgdgcjpaaBase
import Derived.Test.YtanfamfgdgcjpaaBits
import Derived.Test.YtanfamfgdgcjpaaBitsOn
namespace Go.Proofs.Ytanfamfgdgcjpaa.Pure
open Go.RowKit Go.Proofs.Ytanfamfgdgcjpaa.QFnExactLeastSum Go.Proofs.YtanfamfgdgcjpaaW.PrintWords Go.Proofs.YtanfamfgdgcjpaaW.PrintLast Go.Proofs.Ytanfamfgdgcjpaa.Base
set_option linter.unusedVariables false
set_option linter.unusedSimpArgs false

def FnExactLeastSumLeft : Prop := ∀ (a0_0 : Int) (a0_1 : Bool) (l1 : List S66), (Lit.int .i64 a0_0).wf = true → l1.length ≤ maxLen → (∀ x ∈ l1, (Lit.int .i64 x.f0).wf = true ∧ (Lit.int .i64 x.f1).wf = true) → ∃ k, laws_FnExactLeastSum.f k a0_0 a0_1 l1 = some true

def cvS (l : List S66) : List S58 := tg l.length (fun q => ⟨(l.getD q z66).f0, (l.getD q z66).f1⟩)
theorem cvS_len (l : List S66) : (cvS l).length = l.length := tg_len _ _
theorem toSensorS_ev (l : List S66) (hl : l.length ≤ 1048576) : Ev (fun k => laws_toSensorS.f k l) (cvS l) := by
  have key := down (P := fun i => Ev (fun k => laws_toSensorS.l0 k l (tg l.length (fun q => if q < i then ⟨(l.getD q z66).f0, (l.getD q z66).f1⟩ else z58)) (i : Int)) (cvS l)) (n := l.length)
    (ev_now (fun k => by
      simp only [laws_toSensorS.l0]
      rw [if_neg (by omega)]
      congr 1
      exact tg_congr (fun q hq => by rw [if_pos hq])))
    (fun i hi ih => by
      refine Ev.step (fun k => ?_) ih
      simp only [laws_toSensorS.l0, laws_toSensor.f, Option.bind_some]
      rw [if_pos (by omega), if_pos (by omega), if_pos (by rw [tg_len]; omega), w64s hi (by omega), Int.toNat_natCast, tg_set]
      congr 1
      refine tg_congr (fun q _ => ?_)
      by_cases e : q = i
      · subst e; rw [if_pos rfl, if_pos (by omega)]; rfl
      · rw [if_neg e]
        by_cases e2 : q < i
        · rw [if_pos e2, if_pos (by omega)]
        · rw [if_neg e2, if_neg (by omega)])
  unfold laws_toSensorS.f
  refine ev_pos (by omega) (ev_pos (by omega) ?_)
  rw [Int.toNat_natCast, tg_rep]
  have k0 := key 0 (by omega)
  simpa using k0
theorem szSensorS_eq (l : List S66) (hl : l.length ≤ maxLen) : laws_szSensorS.f l 1048576 = some (if 1048576 - (l.length : Int) < 0 then -1 else 1048576 - (l.length : Int)) := by
  have hm : l.length ≤ 9223372036854775807 := by simpa [maxLen] using hl
  unfold laws_szSensorS.f
  rw [w64 (by omega) (by omega)]
  split <;> rfl
theorem toRoad_eq (s : Int) (r : Bool) : laws_toRoad.f s r = some (s, r) := rfl

theorem eqSensorS_self (l : List S58) (hl : l.length ≤ 1048576) : Ev (fun k => laws_eqSensorS.f k l l) true := by
  have key := down (P := fun i => Ev (fun k => laws_eqSensorS.l0 k l l (i : Int)) true) (n := l.length)
    (ev_now (fun k => by simp only [laws_eqSensorS.l0]; rw [if_neg (by omega)]))
    (fun i hi ih => by
      refine Ev.step (fun k => ?_) ih
      simp only [laws_eqSensorS.l0, laws_eqSensor.f, if_true, Option.bind_some]
      rw [if_pos (by omega), if_pos (by omega), if_pos (by omega), w64s hi (by omega)])
  unfold laws_eqSensorS.f
  exact ev_pos rfl (key 0 (by omega))

theorem l1In_eq (a b c : Int) : spec_l1In.f a b c = some (inR b c a) := by
  unfold spec_l1In.f inR
  by_cases h : a ≥ b
  · have h' : b ≤ a := h
    rw [if_pos h]; simp [h']
  · have h' : ¬ b ≤ a := h
    rw [if_neg h]; simp [h']

theorem within_eq (a b c : Int) : impl_within.f a b c = some (inR b c a) := by
  unfold impl_within.f inR
  by_cases h : a ≥ b
  · have h' : b ≤ a := h
    rw [if_pos h]; simp [h']
  · have h' : ¬ b ≤ a := h
    rw [if_neg h]; simp [h']

def lineV (s : Int) (r : Bool) : Bool := inR 2 24 s && !r
theorem line_of {s : Int} {r : Bool} (h : lineV s r = true) : (2 ≤ s ∧ s ≤ 24) ∧ r = false := by
  unfold lineV at h
  rw [Bool.and_eq_true, inR_iff] at h
  exact ⟨h.1, by simpa using h.2⟩
theorem l2Road_eq (s : Int) (r : Bool) : spec_l2Road.f s r = some (inR 2 24 s && (!r || decide (s > 2))) := by
  unfold spec_l2Road.f
  simp only [l1In_eq, Option.bind_some]
  cases inR 2 24 s <;> cases r <;> simp
theorem isRoad_eq (s : Int) (r : Bool) : impl_IsRoad.f s r = some (inR 2 24 s && (!r || decide (s > 2))) := by
  unfold impl_IsRoad.f
  simp only [within_eq, Option.bind_some]
  cases h : inR 2 24 s <;> cases r <;> simp <;> omega
theorem isLine_eq (s : Int) (r : Bool) : impl_isLine.f s r = some (lineV s r) := by
  unfold impl_isLine.f lineV
  simp only [isRoad_eq, Option.bind_some]
  cases inR 2 24 s <;> cases r <;> simp

theorem l3Line_eq (s : Int) (r : Bool) (a : Int) : spec_l3Line.f s r a = some (lineV s r && inR 0 (s - 1) a) := by
  unfold spec_l3Line.f lineV
  simp only [l2Road_eq, l1In_eq, Option.bind_some]
  cases h : inR 2 24 s with
  | false => simp
  | true =>
    have hs := inR_iff.1 h
    rw [w64 (by omega) (by omega)]
    cases r <;> simp

theorem allWithin_ev (l : List Int) (a b : Int) (hl : l.length ≤ 1152921504606846976) : Ev (fun k => impl_allWithin.f k l a b) (inAll a b l) := by
  have key := down (P := fun i => Ev (fun k => impl_allWithin.l0 k a b l (l.length : Int) (i : Int)) (inAll a b (l.drop i))) (n := l.length)
    (ev_now (fun k => by
      simp only [impl_allWithin.l0]
      rw [if_neg (by omega)]
      simp [inAll_nil]))
    (fun i hi ih => by
      rw [drop_cons hi, inAll_cons]
      cases hc : inR a b (rd l (i : Int)) with
      | true =>
        rw [Bool.true_and]
        refine Ev.step (fun k => ?_) ih
        simp only [impl_allWithin.l0, within_eq, Option.bind_some, hc, if_true]
        rw [if_pos (by omega), if_pos (by omega), if_pos (by omega), w64s hi hl]
      | false =>
        refine ev_now (fun k => ?_)
        simp only [impl_allWithin.l0, within_eq, Option.bind_some, hc, Bool.false_eq_true, if_false]
        rw [if_pos (by omega), if_pos (by omega), if_pos (by omega)]
        simp)
  exact key 0 (by omega)

def sC (s : Int) (l : List S58) (j : Nat) : Prop := (0 ≤ (l.getD j z58).f0 ∧ (l.getD j z58).f0 ≤ s - 1) ∧ 0 ≤ (l.getD j z58).f1 ∧ (l.getD j z58).f1 ≤ 12
instance (s : Int) (l : List S58) : DecidablePred (sC s l) := fun j => by unfold sC; infer_instance
def sensV (s : Int) (r : Bool) (l : List S58) : Bool := (lineV s r && decide ((l.length : Int) ≤ 6)) && allF l.length (sC s l) 0
theorem sens_of {s : Int} {r : Bool} {l : List S58} (h : sensV s r l = true) : ((2 ≤ s ∧ s ≤ 24) ∧ r = false) ∧ l.length ≤ 6 ∧ ∀ j, j < l.length → sC s l j := by
  unfold sensV at h
  rw [Bool.and_eq_true, Bool.and_eq_true] at h
  have := of_decide_eq_true h.1.2
  exact ⟨line_of h.1.1, by omega, allF_of h.2⟩
theorem rdT_nat (l : List S58) (j : Nat) : rd_T58 l (j : Int) = l.getD j z58 := rfl
theorem l9Sensors_ev (s : Int) (r : Bool) (l : List S58) (hl : l.length ≤ 1048576) : Ev (fun k => spec_l9Sensors.f k s r l) (sensV s r l) := by
  have key := down (P := fun i => Ev (fun k => spec_l9Sensors.l0 k l (i : Int) s r) ((lineV s r && decide ((l.length : Int) ≤ 6)) && allF l.length (sC s l) i)) (n := l.length)
    (ev_now (fun k => by
      simp only [spec_l9Sensors.l0, l2Road_eq, Option.bind_some]
      rw [if_neg (by omega), allF_end]
      unfold lineV
      cases inR 2 24 s <;> cases r <;> simp))
    (fun i hi ih => by
      rw [allF_step hi]
      have e3 : ∀ k, spec_l9Sensors.l0 (k + 1) l (i : Int) s r = if (lineV s r && inR 0 (s - 1) (l.getD i z58).f0) = true then (if inR 0 12 (l.getD i z58).f1 = true then spec_l9Sensors.l0 k l ((i + 1 : Nat) : Int) s r else some false) else some false := by
        intro k
        simp only [spec_l9Sensors.l0, l3Line_eq, l1In_eq, Option.bind_some, rdT_nat]
        rw [if_pos (by omega), if_pos (by omega), w64s hi (by omega)]
      cases hL : lineV s r with
      | false =>
        refine ev_now (fun k => ?_)
        rw [e3, hL]; simp
      | true =>
        rw [hL] at ih
        by_cases hc : sC s l i
        · rw [decide_eq_true hc, Bool.true_and]
          refine Ev.step (fun k => ?_) ih
          rw [e3, hL, Bool.true_and, if_pos (inR_iff.2 hc.1), if_pos (inR_iff.2 hc.2)]
        · rw [decide_eq_false hc, Bool.false_and, Bool.and_false]
          refine ev_now (fun k => ?_)
          rw [e3, hL, Bool.true_and]
          by_cases h1 : inR 0 (s - 1) (l.getD i z58).f0 = true
          · rw [if_pos h1, if_neg (fun h2 => hc ⟨inR_iff.1 h1, inR_iff.1 h2⟩)]
          · rw [if_neg h1])
  exact key 0 (by omega)
theorem areSensors_ev (s : Int) (r : Bool) (l : List S58) (hl : l.length ≤ 1048576) (hs : 2 ≤ s ∧ s ≤ 24) : Ev (fun k => impl_Road_areSensors.f k s r l) (decide ((l.length : Int) ≤ 6) && allF l.length (sC s l) 0) := by
  have key := down (P := fun i => Ev (fun k => impl_Road_areSensors.l0 k l l (l.length : Int) (i : Int) s r) (decide ((l.length : Int) ≤ 6) && allF l.length (sC s l) i)) (n := l.length)
    (ev_now (fun k => by
      simp only [impl_Road_areSensors.l0]
      rw [if_neg (by omega), allF_end, Bool.and_true]))
    (fun i hi ih => by
      rw [allF_step hi]
      have hh : Ev (fun k => impl_Road_has.f k s r [(l.getD i z58).f0]) (inR 0 (s - 1) (l.getD i z58).f0) := by
        unfold impl_Road_has.f
        rw [w64 (by omega) (by omega)]
        have := allWithin_ev [(l.getD i z58).f0] 0 (s - 1) (by simp)
        have e : inAll 0 (s - 1) [(l.getD i z58).f0] = inR 0 (s - 1) (l.getD i z58).f0 := by simp [inAll]
        rw [e] at this
        exact Ev.bind this (Ev.now _)
      refine Ev.step (f := fun k => (impl_Road_has.f k s r [(l.getD i z58).f0]).bind fun t => if t = true then (if inR 0 12 (l.getD i z58).f1 = true then impl_Road_areSensors.l0 k l l (l.length : Int) ((i + 1 : Nat) : Int) s r else some false) else some false) (fun k => ?_) (Ev.bind hh ?_)
      · simp only [impl_Road_areSensors.l0, within_eq, Option.bind_some, rdT_nat]
        rw [if_pos (by omega), if_pos (by omega), if_pos (by omega), w64s hi (by omega)]
      · by_cases hc : sC s l i
        · rw [decide_eq_true hc, Bool.true_and]
          exact ev_pos (inR_iff.2 hc.1) (ev_pos (inR_iff.2 hc.2) ih)
        · rw [decide_eq_false hc, Bool.false_and, Bool.and_false]
          by_cases h1 : inR 0 (s - 1) (l.getD i z58).f0 = true
          · exact ev_pos h1 (ev_neg (fun h2 => hc ⟨inR_iff.1 h1, inR_iff.1 h2⟩) (Ev.now _))
          · exact ev_neg h1 (Ev.now _))
  exact key 0 (by omega)

theorem isGuarded_ev (s : Int) (r : Bool) (l : List S58) (hl : l.length ≤ 1048576) : Ev (fun k => impl_isGuarded.f k s r l) (sensV s r l) := by
  unfold impl_isGuarded.f sensV
  simp only [isLine_eq, Option.bind_some]
  cases hL : lineV s r with
  | true =>
    refine ev_pos rfl ?_
    rw [Bool.true_and]
    exact Ev.bind (areSensors_ev s r l hl (line_of hL).1) (Ev.now _)
  | false => exact ev_neg (by simp) (Ev.now _)

/-- For each set of sensors and each number of places the least sum, -1 where there is none. -/
def Tb : Type := Nat → Nat → Int
def putT (T : Tb) (x e : Nat) (v : Int) : Tb := fun y f => if y = x ∧ f = e then v else T y f
def lowT (T : Tb) (x e : Nat) (v : Int) : Tb := if T x e < 0 ∨ v < T x e then putT T x e v else T
def gpP (a : Int) (p : Nat) : Int := mx (a - p) ((p : Int) - a)
/-- The first p places of a sensor, tried. -/
def inP (s : Nat) (a r : Int) (x e : Nat) (sum : Int) : Nat → Tb → Tb
  | 0, T => T
  | p + 1, T => if (p : Int) - r > e ∨ (p : Int) + r < e then inP s a r x e sum p T else lowT (inP s a r x e sum p T) x (mn (s : Int) ((p : Int) + r + 1)).toNat (sum + gpP a p)
/-- The first i sensors, tried. -/
def inI (s : Nat) (l : List S58) (x e : Nat) (sum : Int) : Nat → Tb → Tb
  | 0, T => T
  | i + 1, T => if bitA x i = 1 then inI s l x e sum i T else inP s (l.getD i z58).f0 (l.getD i z58).f1 (x + 2 ^ i) e sum s (inI s l x e sum i T)
def bestT (s e : Nat) (sum best : Int) : Int := if e = s ∧ (best < 0 ∨ sum < best) then sum else best
/-- The first e numbers of places of a set; all: whether the whole line is tried on, too. -/
def inE (all : Bool) (s : Nat) (l : List S58) (x : Nat) : Nat → Tb × Int → Tb × Int
  | 0, st => st
  | e + 1, st => if (inE all s l x e st).1 x e < 0 then inE all s l x e st else (if e < s ∨ all = true then inI s l x e ((inE all s l x e st).1 x e) l.length (inE all s l x e st).1 else (inE all s l x e st).1, bestT s e ((inE all s l x e st).1 x e) (inE all s l x e st).2)
def inX (all : Bool) (s : Nat) (l : List S58) : Nat → Tb × Int → Tb × Int
  | 0, st => st
  | x + 1, st => inE all s l x (s + 1) (inX all s l x st)
def T0 : Tb := fun y f => if y = 0 ∧ f = 0 then 0 else -1
def lsum (all : Bool) (s : Nat) (l : List S58) : Int := (inX all s l (2 ^ l.length) (T0, -1)).2
theorem putT_same (T : Tb) (x e : Nat) (v : Int) : putT T x e v x e = v := by unfold putT; rw [if_pos ⟨rfl, rfl⟩]
theorem putT_other (T : Tb) {x e y f : Nat} (v : Int) (h : ¬ (y = x ∧ f = e)) : putT T x e v y f = T y f := by unfold putT; rw [if_neg h]
theorem lowT_other (T : Tb) {x e y f : Nat} (v : Int) (h : ¬ (y = x ∧ f = e)) : lowT T x e v y f = T y f := by
  unfold lowT; split
  · exact putT_other T v h
  · rfl
theorem lowT_same (T : Tb) (x e : Nat) (v : Int) : lowT T x e v x e = if T x e < 0 ∨ v < T x e then v else T x e := by
  unfold lowT; split
  · exact putT_same T x e v
  · rfl
/-- How the program's table and the reference's stand to each other. -/
structure JT (s : Nat) (F T : Tb) (b : Int) : Prop where
  eq : ∀ x e, e < s → F x e = T x e
  top : ∀ x, F x s = T x s ∨ (0 ≤ b ∧ b ≤ F x s ∧ (T x s < 0 ∨ b ≤ T x s))
theorem JT.low {s : Nat} {F T : Tb} {b : Int} (h : JT s F T b) {x e : Nat} {v : Int} (he : e ≤ s) : JT s (lowT F x e v) (lowT T x e v) b := by
  refine ⟨fun y f hf => ?_, fun y => ?_⟩
  · by_cases c : y = x ∧ f = e
    · obtain ⟨rfl, rfl⟩ := c
      rw [lowT_same, lowT_same, h.eq y f hf]
    · rw [lowT_other _ _ c, lowT_other _ _ c]; exact h.eq y f hf
  · by_cases c : y = x ∧ s = e
    · obtain ⟨rfl, rfl⟩ := c
      rw [lowT_same, lowT_same]
      rcases h.top y with k | k
      · rw [k]; exact .inl rfl
      · by_cases c1 : F y s < 0 ∨ v < F y s
        · rw [if_pos c1]
          by_cases c2 : T y s < 0 ∨ v < T y s
          · rw [if_pos c2]; exact .inl rfl
          · rw [if_neg c2]; exact .inr ⟨k.1, by omega, by omega⟩
        · rw [if_neg c1]
          by_cases c2 : T y s < 0 ∨ v < T y s
          · rw [if_pos c2]; exact .inr ⟨k.1, by omega, by omega⟩
          · rw [if_neg c2]; exact .inr ⟨k.1, by omega, by omega⟩
    · rw [lowT_other _ _ c, lowT_other _ _ c]; exact h.top y
theorem JT.low1 {s : Nat} {F T : Tb} {b : Int} (h : JT s F T b) {x : Nat} {v : Int} (hb : 0 ≤ b) (hv : b ≤ v) : JT s (lowT F x s v) T b := by
  refine ⟨fun y f hf => ?_, fun y => ?_⟩
  · rw [lowT_other _ _ (by omega)]; exact h.eq y f hf
  · by_cases c : y = x ∧ s = s
    · obtain ⟨rfl, _⟩ := c
      rw [lowT_same]
      rcases h.top y with k | k
      · by_cases c1 : F y s < 0 ∨ v < F y s
        · rw [if_pos c1]; exact .inr ⟨hb, hv, by omega⟩
        · rw [if_neg c1]; exact .inl k
      · split
        · exact .inr ⟨hb, hv, k.2.2⟩
        · exact .inr k
    · rw [lowT_other _ _ c]; exact h.top y
theorem gpP_nn (a : Int) (p : Nat) : 0 ≤ gpP a p := by
  have := mx_ge (a - p) ((p : Int) - a)
  unfold gpP; omega
theorem jt_inP {s : Nat} {a r : Int} {x e : Nat} {sum : Int} {F T : Tb} {b : Int} (hr : 0 ≤ r) (h : JT s F T b) (p : Nat) : JT s (inP s a r x e sum p F) (inP s a r x e sum p T) b := by
  induction p with
  | zero => exact h
  | succ p ih =>
    simp only [inP]
    have := mn_le (s : Int) ((p : Int) + r + 1)
    split
    · exact ih
    · exact ih.low (by omega)
theorem jt_inP1 {s : Nat} {a r : Int} {x : Nat} {sum : Int} {F T : Tb} {b : Int} (hr : 0 ≤ r) (hb : 0 ≤ b) (hs : b ≤ sum) (h : JT s F T b) (p : Nat) : JT s (inP s a r x s sum p F) T b := by
  induction p with
  | zero => exact h
  | succ p ih =>
    simp only [inP]
    have hm := mn_le (s : Int) ((p : Int) + r + 1)
    split
    · exact ih
    · have := gpP_nn a p
      rw [show (mn (s : Int) ((p : Int) + r + 1)).toNat = s by omega]
      exact ih.low1 hb (by omega)
def radOk (l : List S58) : Prop := ∀ j, j < l.length → 0 ≤ (l.getD j z58).f1
theorem jt_inI {s : Nat} {l : List S58} {x e : Nat} {sum : Int} {F T : Tb} {b : Int} (hl : radOk l) (h : JT s F T b) (i : Nat) (hi : i ≤ l.length) : JT s (inI s l x e sum i F) (inI s l x e sum i T) b := by
  induction i with
  | zero => exact h
  | succ i ih =>
    simp only [inI]
    split
    · exact ih (by omega)
    · exact jt_inP (hl i (by omega)) (ih (by omega)) s
theorem jt_inI1 {s : Nat} {l : List S58} {x : Nat} {sum : Int} {F T : Tb} {b : Int} (hl : radOk l) (hb : 0 ≤ b) (hs : b ≤ sum) (h : JT s F T b) (i : Nat) (hi : i ≤ l.length) : JT s (inI s l x s sum i F) T b := by
  induction i with
  | zero => exact h
  | succ i ih =>
    simp only [inI]
    split
    · exact ih (by omega)
    · exact jt_inP1 (hl i (by omega)) hb hs (ih (by omega)) s
theorem JT.mono {s : Nat} {F T : Tb} {b b' : Int} (h : JT s F T b) (k : 0 ≤ b → 0 ≤ b' ∧ b' ≤ b) : JT s F T b' := by
  refine ⟨h.eq, fun y => ?_⟩
  rcases h.top y with q | q
  · exact .inl q
  · have := k q.1
    exact .inr ⟨this.1, by omega, by omega⟩
theorem bestT_ne {s e : Nat} (sum b : Int) (h : e ≠ s) : bestT s e sum b = b := by
  unfold bestT; exact if_neg (fun k => h k.1)
theorem inE_neg {all : Bool} {s : Nat} {l : List S58} {x e : Nat} {st : Tb × Int} (c : (inE all s l x e st).1 x e < 0) : inE all s l x (e + 1) st = inE all s l x e st := by
  show (if _ then _ else _) = _
  exact if_pos c
theorem inE_pos {all : Bool} {s : Nat} {l : List S58} {x e : Nat} {st : Tb × Int} (c : ¬ (inE all s l x e st).1 x e < 0) (k : e < s ∨ all = true) : inE all s l x (e + 1) st = (inI s l x e ((inE all s l x e st).1 x e) l.length (inE all s l x e st).1, bestT s e ((inE all s l x e st).1 x e) (inE all s l x e st).2) := by
  show (if _ then _ else (if _ then _ else _, _)) = _
  rw [if_neg c, if_pos k]
theorem inE_end {s : Nat} {l : List S58} {x e : Nat} {st : Tb × Int} (c : ¬ (inE false s l x e st).1 x e < 0) (k : ¬ e < s) : inE false s l x (e + 1) st = ((inE false s l x e st).1, bestT s e ((inE false s l x e st).1 x e) (inE false s l x e st).2) := by
  show (if _ then _ else (if _ then _ else _, _)) = _
  rw [if_neg c, if_neg (by simp [k])]
theorem inE_JT {s : Nat} {l : List S58} {x : Nat} (hl : radOk l) {A B : Tb × Int} (h : JT s A.1 B.1 A.2) (hb : A.2 = B.2) (e : Nat) (he : e ≤ s + 1) : JT s (inE true s l x e A).1 (inE false s l x e B).1 (inE true s l x e A).2 ∧ (inE true s l x e A).2 = (inE false s l x e B).2 := by
  induction e with
  | zero => exact ⟨h, hb⟩
  | succ e ih =>
    obtain ⟨ih1, ih2⟩ := ih (by omega)
    by_cases hes : e < s
    · have heq := ih1.eq x e hes
      by_cases c : (inE false s l x e B).1 x e < 0
      · rw [inE_neg (all := true) (by rw [heq]; exact c), inE_neg c]; exact ⟨ih1, ih2⟩
      · rw [inE_pos (all := true) (by rw [heq]; exact c) (.inl hes), inE_pos c (.inl hes)]
        simp only [bestT_ne _ _ (show e ≠ s by omega), heq]
        exact ⟨jt_inI hl ih1 _ (Nat.le_refl _), ih2⟩
    · have hes' : e = s := by omega
      subst hes'
      have ht := ih1.top x
      by_cases c : (inE true e l x e A).1 x e < 0
      · rw [inE_neg c]
        rcases ht with q | q
        · rw [inE_neg (all := false) (by omega)]; exact ⟨ih1, ih2⟩
        · omega
      · rw [inE_pos c (.inr rfl)]
        rcases ht with q | q
        · rw [inE_end (by omega) hes]
          refine ⟨?_, ?_⟩
          · refine jt_inI1 hl ?_ ?_ (ih1.mono ?_) _ (Nat.le_refl _)
            · simp only; unfold bestT; split <;> omega
            · simp only; unfold bestT; split <;> omega
            · intro hh; simp only; unfold bestT; split <;> omega
          · simp only
            rw [q, ih2]
        · have e1 : bestT e e ((inE true e l x e A).1 x e) (inE true e l x e A).2 = (inE true e l x e A).2 := by unfold bestT; exact if_neg (by omega)
          simp only [e1]
          by_cases c2 : (inE false e l x e B).1 x e < 0
          · rw [inE_neg c2]
            exact ⟨jt_inI1 hl q.1 q.2.1 ih1 _ (Nat.le_refl _), ih2⟩
          · rw [inE_end c2 hes]
            refine ⟨jt_inI1 hl q.1 q.2.1 ih1 _ (Nat.le_refl _), ?_⟩
            simp only
            have e2 : bestT e e ((inE false e l x e B).1 x e) (inE false e l x e B).2 = (inE false e l x e B).2 := by unfold bestT; exact if_neg (by omega)
            rw [e2]; exact ih2
theorem inX_JT {s : Nat} {l : List S58} (hl : radOk l) (x : Nat) : JT s (inX true s l x (T0, -1)).1 (inX false s l x (T0, -1)).1 (inX true s l x (T0, -1)).2 ∧ (inX true s l x (T0, -1)).2 = (inX false s l x (T0, -1)).2 := by
  induction x with
  | zero => exact ⟨⟨fun _ _ _ => rfl, fun _ => .inl rfl⟩, rfl⟩
  | succ x ih => exact inE_JT hl ih.1 ih.2 (s + 1) (Nat.le_refl _)
theorem lsum_both {s : Nat} {l : List S58} (hl : radOk l) : lsum true s l = lsum false s l := (inX_JT hl _).2
/-- Bounds: a sum is at most 24 for each number of the set. -/
def bdT (T : Tb) : Prop := ∀ x e, -1 ≤ T x e ∧ T x e ≤ 24 * x
theorem bdT_low {T : Tb} (h : bdT T) {x e : Nat} {v : Int} (hv : 0 ≤ v ∧ v ≤ 24 * x) : bdT (lowT T x e v) := by
  intro y f
  by_cases c : y = x ∧ f = e
  · obtain ⟨rfl, rfl⟩ := c
    rw [lowT_same]
    have := h y f
    split <;> omega
  · rw [lowT_other _ _ c]; exact h y f
theorem gpP_le {a : Int} {p s : Nat} (ha : 0 ≤ a ∧ a ≤ s - 1) (hp : p < s) (hs : s ≤ 24) : gpP a p ≤ 23 := by
  have := mx_ge (a - p) ((p : Int) - a)
  unfold gpP; omega
theorem bdT_inP {s : Nat} {a r : Int} {x e : Nat} {sum : Int} {T : Tb} (ha : 0 ≤ a ∧ a ≤ s - 1) (hs : s ≤ 24) (h : bdT T) (h0 : 0 ≤ sum) (h1 : sum + 23 ≤ 24 * x) (p : Nat) (hp : p ≤ s) : bdT (inP s a r x e sum p T) := by
  induction p with
  | zero => exact h
  | succ p ih =>
    unfold inP
    split
    · exact ih (by omega)
    · have g0 := gpP_nn a p
      have g1 := gpP_le (p := p) ha (by omega) hs
      exact bdT_low (ih (by omega)) ⟨by omega, by omega⟩
theorem bdT_inI {s : Nat} {l : List S58} {x e : Nat} {sum : Int} {T : Tb} (ha : ∀ j, j < l.length → 0 ≤ (l.getD j z58).f0 ∧ (l.getD j z58).f0 ≤ s - 1) (hs : s ≤ 24) (h : bdT T) (h0 : 0 ≤ sum) (h1 : sum ≤ 24 * x) (i : Nat) (hi : i ≤ l.length) : bdT (inI s l x e sum i T) := by
  induction i with
  | zero => exact h
  | succ i ih =>
    unfold inI
    split
    · exact ih (by omega)
    · have := Nat.two_pow_pos i
      exact bdT_inP (ha i (by omega)) hs (ih (by omega)) h0 (by omega) s (Nat.le_refl _)
/-- Only sets that are greater are written. -/
theorem inP_old {s : Nat} {a r : Int} {x e : Nat} {sum : Int} {T : Tb} {y f : Nat} (h : y ≠ x) (p : Nat) : inP s a r x e sum p T y f = T y f := by
  induction p with
  | zero => rfl
  | succ p ih =>
    unfold inP
    split
    · exact ih
    · rw [lowT_other _ _ (by omega)]; exact ih
theorem inI_old {s : Nat} {l : List S58} {x e : Nat} {sum : Int} {T : Tb} {y f : Nat} (h : y ≤ x) (i : Nat) : inI s l x e sum i T y f = T y f := by
  induction i with
  | zero => rfl
  | succ i ih =>
    unfold inI
    split
    · exact ih
    · have := Nat.two_pow_pos i
      rw [inP_old (by omega)]; exact ih
theorem inE_bd {all : Bool} {s : Nat} {l : List S58} {x : Nat} (ha : ∀ j, j < l.length → 0 ≤ (l.getD j z58).f0 ∧ (l.getD j z58).f0 ≤ s - 1) (hs : s ≤ 24) {A : Tb × Int} (h : bdT A.1) (hb : -1 ≤ A.2 ∧ A.2 ≤ 24 * 64) (hx : x < 64) (e : Nat) : bdT (inE all s l x e A).1 ∧ -1 ≤ (inE all s l x e A).2 ∧ (inE all s l x e A).2 ≤ 24 * 64 := by
  induction e with
  | zero => exact ⟨h, hb⟩
  | succ e ih =>
    unfold inE
    split
    · exact ih
    · rename_i c
      have h1 := ih.1 x e
      refine ⟨?_, ?_⟩
      · simp only
        split
        · exact bdT_inI ha hs ih.1 (by omega) (by omega) _ (Nat.le_refl _)
        · exact ih.1
      · simp only
        unfold bestT
        split <;> omega
theorem inX_bd {all : Bool} {s : Nat} {l : List S58} (ha : ∀ j, j < l.length → 0 ≤ (l.getD j z58).f0 ∧ (l.getD j z58).f0 ≤ s - 1) (hs : s ≤ 24) (x : Nat) (hx : x ≤ 64) : bdT (inX all s l x (T0, -1)).1 ∧ -1 ≤ (inX all s l x (T0, -1)).2 ∧ (inX all s l x (T0, -1)).2 ≤ 24 * 64 := by
  induction x with
  | zero => exact ⟨fun y f => by show -1 ≤ (if y = 0 ∧ f = 0 then (0 : Int) else -1) ∧ (if y = 0 ∧ f = 0 then (0 : Int) else -1) ≤ 24 * y; split <;> omega, by show (-1 : Int) ≤ -1; omega, by show (-1 : Int) ≤ _; omega⟩
  | succ x ih =>
    have := ih (by omega)
    exact inE_bd ha hs this.1 this.2 (by omega) (s + 1)

theorem gap_eq (s a p : Int) (h0 : 0 ≤ a ∧ a ≤ 1000000) (h1 : 0 ≤ p ∧ p ≤ 1000000) : impl_Road_gap.f s false a p = some (mx (a - p) (p - a)) := by
  unfold impl_Road_gap.f
  simp only [Bool.false_eq_true, if_false]
  rw [mx_abs (s := s) h0 h1]

theorem l1Most_eq (a b : Int) : spec_l1Most.f a b = some (mx a b) := by
  unfold spec_l1Most.f mx
  by_cases h : a > b
  · rw [if_pos h, if_neg (by omega)]
  · rw [if_neg h]
    by_cases h2 : a < b
    · rw [if_pos h2]
    · rw [if_neg h2]; congr 1; omega

theorem l2Gap_eq (s a p : Int) (h0 : 0 ≤ a ∧ a ≤ 1000000) (h1 : 0 ≤ p ∧ p ≤ 1000000) : spec_l2Gap.f s false a p = some (mx (a - p) (p - a)) := by
  unfold spec_l2Gap.f
  simp only [l1Most_eq, Option.bind_some, Bool.false_eq_true, if_false]
  rw [mx_abs (s := s) h0 h1]

/-! the program's map -/
def mtOf (T : Tb) (c : Nat) : Mt := ⟨fun y z => if 0 ≤ y ∧ 0 ≤ z then T y.toNat z.toNat else -1, c⟩
theorem mtOf_0 : mt0 = mtOf T0 1 := by
  unfold mt0 mtOf
  congr 1
  funext y z
  by_cases h : 0 ≤ y ∧ 0 ≤ z
  · rw [if_pos h]
    unfold T0
    by_cases h2 : y = 0 ∧ z = 0
    · rw [if_pos h2, if_pos (by omega)]
    · rw [if_neg h2, if_neg (by omega)]
  · rw [if_neg h, if_neg (by omega)]
theorem mtOf_at (T : Tb) (c x e : Nat) : (mtOf T c).f (x : Int) (e : Int) = T x e := by
  show (if 0 ≤ (x : Int) ∧ 0 ≤ (e : Int) then T (x : Int).toNat (e : Int).toNat else -1) = _
  rw [if_pos (by omega), Int.toNat_natCast, Int.toNat_natCast]
theorem get_eq (T : Tb) (c : Nat) {x e : Nat} (hx : x ≤ 100) (he : e ≤ 100) : mapGet.f (mtOf T c) (x : Int) (e : Int) = some (if T x e < 0 then 0 else T x e, decide (0 ≤ T x e)) := by
  unfold mapGet.f
  rw [if_pos (by omega), mtOf_at]
theorem put_eq (T : Tb) {c : Nat} {x e : Nat} {v : Int} (hx : x ≤ 100) (he : e ≤ 100) (hv : 0 ≤ v ∧ v ≤ 100000) (hc : c < 1000000000) : mapPut.f (mtOf T c) (x : Int) (e : Int) v = some (mtOf (putT T x e v) (c + 1)) := by
  unfold mapPut.f
  have hn : (mtOf T c).n = c := rfl
  rw [if_pos (by rw [hn]; omega)]
  congr 1
  unfold mtOf
  congr 1
  funext y z
  simp only
  by_cases h2 : y = (x : Int) ∧ z = (e : Int)
  · rw [if_pos h2, if_pos (by omega)]
    unfold putT
    rw [if_pos (by omega)]
  · rw [if_neg h2]
    by_cases h : 0 ≤ y ∧ 0 ≤ z
    · rw [if_pos h, if_pos h, putT_other _ _ (by omega)]
    · rw [if_neg h, if_neg h]
theorem mn_nat (s : Nat) (v : Int) (h : 0 ≤ v) : ∃ q : Nat, mn (s : Int) v = (q : Int) ∧ q ≤ s ∧ (mn (s : Int) v).toNat = q := by
  have := mn_le (s : Int) v
  exact ⟨(mn (s : Int) v).toNat, by omega, by omega, rfl⟩
section
variable {s : Nat} {l : List S58} {R : Int × Bool}
/-- The places of a sensor that is one of the set's: nothing. -/
theorem l3_on (hs : s ≤ 24) (hl : l.length ≤ 6) {x e i : Nat} (hx : x < 64) (hi : i < l.length) (hb : bitA x i = 1) (m : Mt) (best sum N : Int)
    (h : Ev (fun k => impl_LeastSum.l2 k l m best (x : Int) (e : Int) sum N (x : Int) ((s + 1 : Nat) : Int) (e : Int) l (l.length : Int) ((i + 1 : Nat) : Int) (s : Int) false) R) :
    Ev (fun k => impl_LeastSum.l3 k l m best (x : Int) (e : Int) sum (i : Int) N (x : Int) ((s + 1 : Nat) : Int) (e : Int) l (l.length : Int) (i : Int) (s : Int) 0 (s : Int) false (rd_T58 l (i : Int)).f0 (rd_T58 l (i : Int)).f1) R := by
  have key := down (P := fun p => Ev (fun k => impl_LeastSum.l3 k l m best (x : Int) (e : Int) sum (i : Int) N (x : Int) ((s + 1 : Nat) : Int) (e : Int) l (l.length : Int) (i : Int) (s : Int) (p : Int) (s : Int) false (rd_T58 l (i : Int)).f0 (rd_T58 l (i : Int)).f1) R) (n := s)
    (by
      refine Ev.step (fun k => ?_) h
      simp only [impl_LeastSum.l3]
      rw [if_neg (by omega), w64s hi (by omega)])
    (fun p hp ih => by
      refine Ev.step (f := fun k => impl_LeastSum.j6 k l m best (x : Int) (e : Int) sum (i : Int) (p : Int) N (x : Int) ((s + 1 : Nat) : Int) (e : Int) l (l.length : Int) (i : Int) (s : Int) (p : Int) true (s : Int) false (rd_T58 l (i : Int)).f0 (rd_T58 l (i : Int)).f1) (fun k => ?_) (Ev.step (fun k => ?_) ih)
      · simp only [impl_LeastSum.l3]
        rw [if_pos (by omega), if_pos (by omega), bit_read (by omega) (by omega), hb, if_pos (by omega)]
      · simp only [impl_LeastSum.j6]
        rw [if_pos True.intro, w64s hp (by omega)])
  exact key 0 (by omega)
set_option maxHeartbeats 2000000 in
/-- The places of a sensor that is free. -/
theorem l3_off (hs : s ≤ 24) (hl : l.length ≤ 6) {x e i : Nat} (hx : x < 64) (hi : i < l.length) (hb : bitA x i = 0) (hx2 : x + 2 ^ i < 64) (he : e ≤ s) (a r : Int) (ha : 0 ≤ a ∧ a ≤ s - 1) (hr : 0 ≤ r ∧ r ≤ 12) (hgi : rd_T58 l (i : Int) = ⟨a, r⟩)
    (T : Tb) (best sum N : Int) (hsum : 0 ≤ sum ∧ sum ≤ 1600) (c0 : Nat) (hc0 : c0 ≤ 400000)
    (h : ∀ c, c ≤ c0 + 24 → Ev (fun k => impl_LeastSum.l2 k l (mtOf (inP s a r (x + 2 ^ i) e sum s T) c) best (x : Int) (e : Int) sum N (x : Int) ((s + 1 : Nat) : Int) (e : Int) l (l.length : Int) ((i + 1 : Nat) : Int) (s : Int) false) R) :
    ∀ c, c ≤ c0 → Ev (fun k => impl_LeastSum.l3 k l (mtOf T c) best (x : Int) (e : Int) sum (i : Int) N (x : Int) ((s + 1 : Nat) : Int) (e : Int) l (l.length : Int) (i : Int) (s : Int) 0 (s : Int) false a r) R := by
  have key := down (P := fun p => ∀ c, c ≤ c0 + p → Ev (fun k => impl_LeastSum.l3 k l (mtOf (inP s a r (x + 2 ^ i) e sum p T) c) best (x : Int) (e : Int) sum (i : Int) N (x : Int) ((s + 1 : Nat) : Int) (e : Int) l (l.length : Int) (i : Int) (s : Int) (p : Int) (s : Int) false a r) R) (n := s)
    (fun c hc => by
      refine Ev.step (fun k => ?_) (h c (by omega))
      simp only [impl_LeastSum.l3]
      rw [if_neg (by omega), w64s hi (by omega)])
    (fun p hp ih c hc => by
      have hskip : ((p : Int) - r > e ∨ (p : Int) + r < e) → Ev (fun k => impl_LeastSum.j6 k l (mtOf (inP s a r (x + 2 ^ i) e sum p T) c) best (x : Int) (e : Int) sum (i : Int) (p : Int) N (x : Int) ((s + 1 : Nat) : Int) (e : Int) l (l.length : Int) (i : Int) (s : Int) (p : Int) true (s : Int) false a r) R := fun hh => by
        have h2 := ih c (by omega)
        have e2 : inP s a r (x + 2 ^ i) e sum (p + 1) T = inP s a r (x + 2 ^ i) e sum p T := by simp only [inP]; rw [if_pos hh]
        rw [e2] at h2
        refine Ev.step (fun k => ?_) h2
        simp only [impl_LeastSum.j6]
        rw [if_pos True.intro, w64s hp (by omega)]
      by_cases c1 : (p : Int) - r > e
      · refine Ev.step (fun k => ?_) (hskip (.inl c1))
        simp only [impl_LeastSum.l3]
        rw [if_pos (by omega), if_pos (by omega), bit_read (by omega) (by omega), hb, if_neg (by decide), w64 (x := (p : Int) - r) (by omega) (by omega), if_pos c1]
      · by_cases c2 : (p : Int) + r < e
        · refine Ev.step (fun k => ?_) (hskip (.inr c2))
          simp only [impl_LeastSum.l3]
          rw [if_pos (by omega), if_pos (by omega), bit_read (by omega) (by omega), hb, if_neg (by decide), w64 (x := (p : Int) - r) (by omega) (by omega), if_neg c1, w64 (x := (p : Int) + r) (by omega) (by omega), decide_eq_true c2]
        · refine Ev.step (f := fun k => impl_LeastSum.j6 k l (mtOf (inP s a r (x + 2 ^ i) e sum p T) c) best (x : Int) (e : Int) sum (i : Int) (p : Int) N (x : Int) ((s + 1 : Nat) : Int) (e : Int) l (l.length : Int) (i : Int) (s : Int) (p : Int) false (s : Int) false a r) (fun k => ?_) ?_
          · simp only [impl_LeastSum.l3]
            rw [if_pos (by omega), if_pos (by omega), bit_read (by omega) (by omega), hb, if_neg (by decide), w64 (x := (p : Int) - r) (by omega) (by omega), if_neg c1, w64 (x := (p : Int) + r) (by omega) (by omega), decide_eq_false c2]
          · obtain ⟨q, hq, hqs, hqn⟩ := mn_nat s ((p : Int) + r + 1) (by omega)
            have hg0 := gpP_nn a p
            have hg1 := gpP_le (p := p) ha hp hs
            have hgap := gap_eq (s : Int) a (p : Int) (by omega) (by omega)
            have e2 : inP s a r (x + 2 ^ i) e sum (p + 1) T = lowT (inP s a r (x + 2 ^ i) e sum p T) (x + 2 ^ i) q (sum + gpP a p) := by
              simp only [inP]
              rw [if_neg (by omega), hqn]
            have e3 : mx (a - p) ((p : Int) - a) = gpP a p := rfl
            obtain ⟨T', hT'⟩ : ∃ T', inP s a r (x + 2 ^ i) e sum p T = T' := ⟨_, rfl⟩
            rw [e2, hT'] at ih
            rw [hT']
            have hget := get_eq T' c (x := x + 2 ^ i) (e := q) (by omega) (by omega)
            have hput := put_eq T' (c := c) (x := x + 2 ^ i) (e := q) (v := sum + gpP a p) (by omega) (by omega) (by omega) (by omega)
            by_cases d0 : T' (x + 2 ^ i) q < 0
            · have hlow : lowT T' (x + 2 ^ i) q (sum + gpP a p) = putT T' (x + 2 ^ i) q (sum + gpP a p) := by unfold lowT; rw [if_pos (.inl d0)]
              rw [hlow] at ih
              refine Ev.step (fun k => ?_) (ih (c + 1) (by omega))
              simp only [impl_LeastSum.j6, hgap, e3, Option.bind_some, bit_on (show i < 6 by omega) hx hb]
              rw [if_neg (by decide), if_pos (by omega), w64 (x := (p : Int) + r) (by omega) (by omega), w64 (x := (p : Int) + r + 1) (by omega) (by omega), hq, w64 (x := sum + gpP a p) (by omega) (by omega), hget, hput]
              simp only [Option.bind_some]
              rw [if_neg (by rw [decide_eq_false (by omega)]; decide), w64s hp (by omega)]
            · by_cases d1 : sum + gpP a p < T' (x + 2 ^ i) q
              · have hlow : lowT T' (x + 2 ^ i) q (sum + gpP a p) = putT T' (x + 2 ^ i) q (sum + gpP a p) := by unfold lowT; rw [if_pos (.inr d1)]
                rw [hlow] at ih
                refine Ev.step (fun k => ?_) (ih (c + 1) (by omega))
                simp only [impl_LeastSum.j6, hgap, e3, Option.bind_some, bit_on (show i < 6 by omega) hx hb]
                rw [if_neg (by decide), if_pos (by omega), w64 (x := (p : Int) + r) (by omega) (by omega), w64 (x := (p : Int) + r + 1) (by omega) (by omega), hq, w64 (x := sum + gpP a p) (by omega) (by omega), hget, hput]
                simp only [Option.bind_some]
                rw [if_pos (decide_eq_true (by omega)), if_neg d0, if_pos d1, w64s hp (by omega)]
              · have hlow : lowT T' (x + 2 ^ i) q (sum + gpP a p) = T' := by unfold lowT; rw [if_neg (by omega)]
                rw [hlow] at ih
                refine Ev.step (fun k => ?_) (ih c (by omega))
                simp only [impl_LeastSum.j6, hgap, e3, Option.bind_some, bit_on (show i < 6 by omega) hx hb]
                rw [if_neg (by decide), if_pos (by omega), w64 (x := (p : Int) + r) (by omega) (by omega), w64 (x := (p : Int) + r + 1) (by omega) (by omega), hq, w64 (x := sum + gpP a p) (by omega) (by omega), hget]
                simp only [Option.bind_some]
                rw [if_pos (decide_eq_true (by omega)), if_neg d0, if_neg d1, w64s hp (by omega)])
  have k0 := key 0 (by omega)
  exact k0
set_option maxHeartbeats 2000000 in
/-- All sensors at one set and number of places. -/
theorem l2_all (hs : s ≤ 24) (hv : sensV (s : Int) false l = true) {x e : Nat} (hx : x < 2 ^ l.length) (he : e ≤ s) (best sum N : Int) (hsum : 0 ≤ sum ∧ sum ≤ 1600) (T : Tb) (c0 : Nat) (hc0 : c0 ≤ 300000)
    (h : ∀ c, c ≤ c0 + 144 → Ev (fun k => impl_LeastSum.l1 k l (mtOf (inI s l x e sum l.length T) c) best (x : Int) N (x : Int) ((s + 1 : Nat) : Int) ((e + 1 : Nat) : Int) (s : Int) false) R) :
    ∀ c, c ≤ c0 → Ev (fun k => impl_LeastSum.l2 k l (mtOf T c) best (x : Int) (e : Int) sum N (x : Int) ((s + 1 : Nat) : Int) (e : Int) l (l.length : Int) 0 (s : Int) false) R := by
  have hv' := sens_of hv
  have hl := hv'.2.1
  have h64 : 2 ^ l.length ≤ 64 := Nat.le_trans (Nat.pow_le_pow_right (by decide) hl) (by decide)
  have key := down (P := fun i => ∀ c, c ≤ c0 + 24 * i → Ev (fun k => impl_LeastSum.l2 k l (mtOf (inI s l x e sum i T) c) best (x : Int) (e : Int) sum N (x : Int) ((s + 1 : Nat) : Int) (e : Int) l (l.length : Int) (i : Int) (s : Int) false) R) (n := l.length)
    (fun c hc => by
      refine Ev.step (fun k => ?_) (h c (by omega))
      simp only [impl_LeastSum.l2]
      rw [if_neg (by omega), w64s (n := 1000) (by omega) (by omega)])
    (fun i hi ih c hc => by
      have hsc := hv'.2.2 i hi
      unfold sC at hsc
      have hgi : rd_T58 l (i : Int) = ⟨(l.getD i z58).f0, (l.getD i z58).f1⟩ := rfl
      have hstep : Ev (fun k => impl_LeastSum.l3 k l (mtOf (inI s l x e sum i T) c) best (x : Int) (e : Int) sum (i : Int) N (x : Int) ((s + 1 : Nat) : Int) (e : Int) l (l.length : Int) (i : Int) (s : Int) 0 (s : Int) false (l.getD i z58).f0 (l.getD i z58).f1) R := by
        rcases bit_cases x i with hb | hb
        · have e1 : inI s l x e sum (i + 1) T = inP s (l.getD i z58).f0 (l.getD i z58).f1 (x + 2 ^ i) e sum s (inI s l x e sum i T) := by
            simp only [inI]
            rw [if_neg (by omega)]
          rw [e1] at ih
          have hon := (bitA_on (show i < 6 by omega) (show x < 64 by omega) hb).1
          exact l3_off hs hl (by omega) hi hb hon he _ _ hsc.1 hsc.2 hgi (inI s l x e sum i T) best sum N hsum (c0 + 24 * i) (by omega) (fun c' hc' => ih c' (by omega)) c hc
        · have e1 : inI s l x e sum (i + 1) T = inI s l x e sum i T := by
            simp only [inI]
            rw [if_pos hb]
          rw [e1] at ih
          exact l3_on hs hl (by omega) hi hb _ best sum N (ih c (by omega))
      refine Ev.step (fun k => ?_) hstep
      simp only [impl_LeastSum.l2]
      rw [if_pos (by omega), if_pos (by omega), if_pos (by omega)]
      rfl)
  exact key 0 (by omega)
set_option maxHeartbeats 2000000 in
/-- All numbers of places of a set. -/
theorem l1_all (hs : 2 ≤ s ∧ s ≤ 24) (hv : sensV (s : Int) false l = true) {x : Nat} (hx : x < 2 ^ l.length) (N : Int) (st : Tb × Int) (hT : bdT st.1) (hb : -1 ≤ st.2 ∧ st.2 ≤ 1536) (c0 : Nat) (hc0 : c0 ≤ 280000)
    (h : ∀ c, c ≤ c0 + 3600 → Ev (fun k => impl_LeastSum.l0 k l (mtOf (inE true s l x (s + 1) st).1 c) (inE true s l x (s + 1) st).2 N ((x + 1 : Nat) : Int) (s : Int) false) R) :
    ∀ c, c ≤ c0 → Ev (fun k => impl_LeastSum.l1 k l (mtOf st.1 c) st.2 (x : Int) N (x : Int) ((s + 1 : Nat) : Int) 0 (s : Int) false) R := by
  have hv' := sens_of hv
  have hl := hv'.2.1
  have h64 : 2 ^ l.length ≤ 64 := Nat.le_trans (Nat.pow_le_pow_right (by decide) hl) (by decide)
  have key := down (P := fun e => ∀ c, c ≤ c0 + 144 * e → Ev (fun k => impl_LeastSum.l1 k l (mtOf (inE true s l x e st).1 c) (inE true s l x e st).2 (x : Int) N (x : Int) ((s + 1 : Nat) : Int) (e : Int) (s : Int) false) R) (n := s + 1)
    (fun c hc => by
      refine Ev.step (fun k => ?_) (h c (by omega))
      simp only [impl_LeastSum.l1]
      rw [if_neg (by omega), w64s (n := 1000) (by omega) (by omega)])
    (fun e he ih c hc => by
      have hbd := inE_bd (all := true) (x := x) (fun j hj => (hv'.2.2 j hj).1) hs.2 hT hb (by omega) e
      obtain ⟨S, hS⟩ : ∃ S, inE true s l x e st = S := ⟨_, rfl⟩
      have hbx := hbd.1 x e
      rw [hS] at hbd hbx
      by_cases c1 : S.1 x e < 0
      · have e1 : inE true s l x (e + 1) st = S := by rw [inE_neg (by rw [hS]; exact c1), hS]
        rw [e1] at ih
        rw [hS]
        refine Ev.step (fun k => ?_) (ih c (by omega))
        simp only [impl_LeastSum.l1, get_eq S.1 c (show x ≤ 100 by omega) (show e ≤ 100 by omega), Option.bind_some]
        rw [if_pos (by omega), if_neg (by rw [decide_eq_false (by omega)]; decide), w64s (n := 1000) (by omega) (by omega)]
      · have e1 : inE true s l x (e + 1) st = (inI s l x e (S.1 x e) l.length S.1, bestT s e (S.1 x e) S.2) := by
          rw [inE_pos (by rw [hS]; exact c1) (.inr rfl), hS]
        rw [e1] at ih
        rw [hS]
        have h2 := l2_all hs.2 hv hx (show e ≤ s by omega) (bestT s e (S.1 x e) S.2) (S.1 x e) N (by omega) S.1 (c0 + 144 * e) (by omega) (fun c' hc' => ih c' (by omega)) c hc
        have h3 : Ev (fun k => impl_LeastSum.j3 k l (mtOf S.1 c) (bestT s e (S.1 x e) S.2) (x : Int) (e : Int) (S.1 x e) N (x : Int) ((s + 1 : Nat) : Int) (e : Int) (s : Int) false) R := Ev.step (fun k => by simp only [impl_LeastSum.j3]) h2
        have h4 : ∀ q : Bool, (if q = true then S.1 x e else S.2) = bestT s e (S.1 x e) S.2 → Ev (fun k => impl_LeastSum.j2 k l (mtOf S.1 c) S.2 (x : Int) (e : Int) (S.1 x e) N (x : Int) ((s + 1 : Nat) : Int) (e : Int) q (s : Int) false) R := fun q hq => by
          refine Ev.step (fun k => ?_) h3
          simp only [impl_LeastSum.j2]
          rw [← hq]
          cases q <;> simp
        have hg : (if S.1 x e < 0 then 0 else S.1 x e) = S.1 x e := if_neg c1
        by_cases c2 : e = s
        · by_cases c3 : S.2 < 0
          · refine Ev.step (fun k => ?_) (h4 true (by unfold bestT; rw [if_pos rfl, if_pos ⟨c2, .inl c3⟩]))
            simp only [impl_LeastSum.l1, get_eq S.1 c (show x ≤ 100 by omega) (show e ≤ 100 by omega), Option.bind_some, hg]
            rw [if_pos (by omega), if_pos (decide_eq_true (by omega)), if_pos (by omega), if_pos c3]
          · refine Ev.step (fun k => ?_) (h4 (decide (S.1 x e < S.2)) (by
              unfold bestT
              by_cases c4 : S.1 x e < S.2
              · rw [if_pos (decide_eq_true c4), if_pos ⟨c2, .inr c4⟩]
              · rw [if_neg (by rw [decide_eq_false c4]; decide), if_neg (by omega)]))
            simp only [impl_LeastSum.l1, get_eq S.1 c (show x ≤ 100 by omega) (show e ≤ 100 by omega), Option.bind_some, hg]
            rw [if_pos (by omega), if_pos (decide_eq_true (by omega)), if_pos (by omega), if_neg c3]
        · refine Ev.step (fun k => ?_) (h4 false (by rw [bestT_ne _ _ c2]; rfl))
          simp only [impl_LeastSum.l1, get_eq S.1 c (show x ≤ 100 by omega) (show e ≤ 100 by omega), Option.bind_some, hg]
          rw [if_pos (by omega), if_pos (decide_eq_true (by omega)), if_neg (by omega)])
  exact key 0 (by omega)
end
def foundR (v : Int) : Int × Bool := (mx 0 v, decide (v ≥ 0))
set_option maxHeartbeats 2000000 in
set_option maxRecDepth 100000 in
theorem implSum_all {s : Nat} {l : List S58} (hv : sensV (s : Int) false l = true) : Ev (fun k => impl_LeastSum.l0 k l mt0 (-1) (shl .i64 1 (l.length : Int)) 0 (s : Int) false) (foundR (lsum true s l)) := by
  have hv' := sens_of hv
  have hl := hv'.2.1
  have hs := hv'.1.1
  have h64 : 2 ^ l.length ≤ 64 := Nat.le_trans (Nat.pow_le_pow_right (by decide) hl) (by decide)
  obtain ⟨M, hM⟩ : ∃ M, 2 ^ l.length = M := ⟨_, rfl⟩
  have key := down (P := fun x => ∀ c, c ≤ 1 + 3600 * x → Ev (fun k => impl_LeastSum.l0 k l (mtOf (inX true s l x (T0, -1)).1 c) (inX true s l x (T0, -1)).2 (M : Int) (x : Int) (s : Int) false) (foundR (inX true s l M (T0, -1)).2)) (n := M)
    (fun c hc => by
      refine ev_now (fun k => ?_)
      simp only [impl_LeastSum.l0, impl_found.f, Option.bind_some]
      rw [if_neg (by omega)]
      rfl)
    (fun x hx ih c hc => by
      have hbd := inX_bd (all := true) (s := s) (fun j hj => (hv'.2.2 j hj).1) (by omega) x (by omega)
      have eX : inX true s l (x + 1) (T0, -1) = inE true s l x (s + 1) (inX true s l x (T0, -1)) := rfl
      rw [eX] at ih
      obtain ⟨S, hS⟩ : ∃ S, inX true s l x (T0, -1) = S := ⟨_, rfl⟩
      rw [hS] at ih hbd ⊢
      have hx64 : x < 64 := by omega
      have hxM : x < 2 ^ l.length := by omega
      have hsb : 2 ≤ s ∧ s ≤ 24 := by omega
      clear hM hS eX
      obtain ⟨c0, hc0⟩ : ∃ c0, c0 = 1 + 3600 * x := ⟨_, rfl⟩
      have hle : c0 ≤ 280000 := by omega
      have h2 := l1_all hsb hv hxM (M : Int) S hbd.1 hbd.2 c0 hle (fun c' hc' => ih c' (by omega)) c (by omega)
      refine Ev.step (fun k => ?_) h2
      simp only [impl_LeastSum.l0]
      rw [if_pos (by omega), w64s (n := 1000) (by omega) (by omega)])
  unfold lsum
  rw [shl_one (by omega), mtOf_0, hM]
  exact key 0 (by omega) 1 (by omega)

theorem l1Least_eq (a b : Int) : spec_l1Least.f a b = some (mn a b) := by
  unfold spec_l1Least.f mn
  by_cases h : a < b
  · rw [if_pos h, if_neg (by omega)]
  · rw [if_neg h]
    by_cases h2 : b < a
    · rw [if_pos h2]
    · rw [if_neg h2]; congr 1; omega

/-! the reference's table -/
def L2 (T : Tb) (N s : Nat) : List (List Int) := tg N (fun x => tab (s + 1) (fun e => T x e))
theorem L2_len (T : Tb) (N s : Nat) : (L2 T N s).length = N := tg_len _ _
theorem L2_row {T : Tb} {N s x : Nat} (hx : x < N) : rd_L3 (L2 T N s) (x : Int) = tab (s + 1) (fun e => T x e) := by
  unfold rd_L3 L2
  rw [Int.toNat_natCast, tg_get hx]
theorem L2_at {T : Tb} {N s x e : Nat} (hx : x < N) (he : e ≤ s) : rd (rd_L3 (L2 T N s) (x : Int)) (e : Int) = T x e := by
  rw [L2_row hx, tab_rd (by omega)]
theorem L2_rowlen {T : Tb} {N s x : Nat} (hx : x < N) : (rd_L3 (L2 T N s) (x : Int)).length = s + 1 := by
  rw [L2_row hx, tab_len]
theorem L2_set {T : Tb} {N s x e : Nat} {v : Int} (hx : x < N) (he : e ≤ s) : (L2 T N s).set x ((rd_L3 (L2 T N s) (x : Int)).set e v) = L2 (putT T x e v) N s := by
  rw [L2_row hx]
  unfold L2
  rw [tg_set]
  refine tg_congr (fun q _ => ?_)
  by_cases h : q = x
  · subst h
    rw [if_pos rfl, tab_set]
    refine tab_congr (fun f _ => ?_)
    by_cases h2 : f = e
    · subst h2; rw [if_pos rfl, putT_same]
    · rw [if_neg h2, putT_other _ _ (by omega)]
  · rw [if_neg h]
    refine tab_congr (fun f _ => ?_)
    rw [putT_other _ _ (by omega)]
theorem inP_skip {s : Nat} {a r : Int} {x e : Nat} {sum : Int} {T : Tb} (p : Nat) : ∀ q, (∀ j, p ≤ j → j < p + q → ((j : Int) - r > e ∨ (j : Int) + r < e)) → inP s a r x e sum (p + q) T = inP s a r x e sum p T := by
  intro q
  induction q with
  | zero => intro _; rfl
  | succ q ih =>
    intro h
    have e1 : inP s a r x e sum (p + q + 1) T = inP s a r x e sum (p + q) T := by
      simp only [inP]
      rw [if_pos (h (p + q) (by omega) (by omega))]
    rw [show p + (q + 1) = p + q + 1 by omega, e1]
    exact ih (fun j h1 h2 => h j h1 (by omega))
section
variable {s : Nat} {l : List S58} {R : Int}
set_option maxHeartbeats 2000000 in
theorem l5_all (hs : 2 ≤ s ∧ s ≤ 24) (hl : l.length ≤ 6) {x e i N : Nat} (hx : x < 64) (hN : N ≤ 64) (hi : i < l.length) (hb : bitA x i = 0) (hx2 : x + 2 ^ i < N) (he : e < s) (ha : 0 ≤ (l.getD i z58).f0 ∧ (l.getD i z58).f0 ≤ s - 1) (hr : 0 ≤ (l.getD i z58).f1 ∧ (l.getD i z58).f1 ≤ 12)
    (T : Tb) (best sum : Int) (hsum : 0 ≤ sum ∧ sum ≤ 1600)
    (h : Ev (fun k => spec_l9Sum.l4 k l (L2 (inP s (l.getD i z58).f0 (l.getD i z58).f1 (x + 2 ^ i) e sum s T) N s) best (x : Int) (e : Int) sum ((i + 1 : Nat) : Int) (s : Int) false) R) :
    Ev (fun k => spec_l9Sum.l5 k l (L2 T N s) best (x : Int) (e : Int) sum (i : Int) (mx 0 ((e : Int) - (l.getD i z58).f1)) (s : Int) false) R := by
  obtain ⟨a, hga⟩ : ∃ a, (l.getD i z58).f0 = a := ⟨_, rfl⟩
  obtain ⟨r, hgr⟩ : ∃ r, (l.getD i z58).f1 = r := ⟨_, rfl⟩
  rw [hga] at ha
  rw [hgr] at hr
  rw [hga, hgr] at h
  have hra : (rd_T58 l (i : Int)).f0 = a := hga
  have hrr : (rd_T58 l (i : Int)).f1 = r := hgr
  rw [hgr]
  have hlo := mx_ge 0 ((e : Int) - r)
  have hhi := mn_le ((s : Int) - 1) ((e : Int) + r)
  obtain ⟨lo, hlo'⟩ : ∃ lo : Nat, mx 0 ((e : Int) - r) = lo := ⟨(mx 0 ((e : Int) - r)).toNat, by omega⟩
  obtain ⟨hi', hhi'⟩ : ∃ q : Nat, mn ((s : Int) - 1) ((e : Int) + r) = q := ⟨(mn ((s : Int) - 1) ((e : Int) + r)).toNat, by omega⟩
  rw [hlo'] at hlo
  rw [hhi'] at hhi
  rw [hlo']
  have hpow := Nat.two_pow_pos i
  have eEnd : inP s a r (x + 2 ^ i) e sum s T = inP s a r (x + 2 ^ i) e sum (hi' + 1) T := by
    have := inP_skip (s := s) (a := a) (r := r) (x := x + 2 ^ i) (e := e) (sum := sum) (T := T) (hi' + 1) (s - (hi' + 1)) (fun j h1 h2 => by omega)
    rw [show hi' + 1 + (s - (hi' + 1)) = s by omega] at this
    exact this
  have eBeg : inP s a r (x + 2 ^ i) e sum lo T = T := by
    have := inP_skip (s := s) (a := a) (r := r) (x := x + 2 ^ i) (e := e) (sum := sum) (T := T) 0 lo (fun j h1 h2 => by omega)
    rw [Nat.zero_add] at this
    exact this
  have key := down (P := fun p => lo ≤ p → Ev (fun k => spec_l9Sum.l5 k l (L2 (inP s a r (x + 2 ^ i) e sum p T) N s) best (x : Int) (e : Int) sum (i : Int) (p : Int) (s : Int) false) R) (n := hi' + 1)
    (fun _ => by
      rw [eEnd] at h
      refine Ev.step (fun k => ?_) h
      simp only [spec_l9Sum.l5, hrr]
      rw [if_pos (by omega), if_pos (by omega), w64 (x := (s : Int) - 1) (by omega) (by omega), w64 (x := (e : Int) + r) (by omega) (by omega), l1Least_eq, hhi']
      simp only [Option.bind_some]
      rw [if_neg (by omega), w64s hi (by omega)])
    (fun p hp ih hlp => by
      have ih := ih (by omega)
      obtain ⟨q, hq, hqs, hqn⟩ := mn_nat s ((p : Int) + r + 1) (by omega)
      have hg0 := gpP_nn a p
      have hg1 := gpP_le (s := s) (p := p) ha (by omega) hs.2
      have hgap := l2Gap_eq (s : Int) a (p : Int) (by omega) (by omega)
      have e2 : inP s a r (x + 2 ^ i) e sum (p + 1) T = lowT (inP s a r (x + 2 ^ i) e sum p T) (x + 2 ^ i) q (sum + gpP a p) := by
        simp only [inP]
        rw [if_neg (by omega), hqn]
      have e3 : mx (a - p) ((p : Int) - a) = gpP a p := rfl
      obtain ⟨T', hT'⟩ : ∃ T', inP s a r (x + 2 ^ i) e sum p T = T' := ⟨_, rfl⟩
      rw [e2, hT'] at ih
      rw [hT']
      obtain ⟨X, hX⟩ : ∃ X, x + 2 ^ i = X := ⟨_, rfl⟩
      rw [hX] at ih hx2
      have hshl : wrap64 ((x : Int) + shl .i64 1 (i : Int)) = (X : Int) := by rw [shl_one (by omega), w64 (by omega) (by omega)]; omega
      have hput : ∀ v, (L2 T' N s).set (X : Int).toNat ((rd_L3 (L2 T' N s) (X : Int)).set (q : Int).toNat v) = L2 (putT T' X q v) N s := fun v => by
        rw [Int.toNat_natCast, Int.toNat_natCast]
        exact L2_set hx2 hqs
      have hrow := L2_rowlen (T := T') (s := s) hx2
      have hat := L2_at (T := T') hx2 hqs
      have hlen := L2_len T' N s
      by_cases d0 : T' X q < 0
      · have hlow : lowT T' X q (sum + gpP a p) = putT T' X q (sum + gpP a p) := by unfold lowT; rw [if_pos (.inl d0)]
        rw [hlow] at ih
        clear hX
        refine Ev.step (fun k => ?_) ih
        simp only [spec_l9Sum.l5, hrr, hra, hgap, e3, hshl]
        rw [if_pos (by omega), if_pos (by omega), w64 (x := (s : Int) - 1) (by omega) (by omega), w64 (x := (e : Int) + r) (by omega) (by omega), l1Least_eq, hhi']
        simp only [Option.bind_some]
        rw [if_pos (by omega), w64 (x := (p : Int) + r) (by omega) (by omega), w64 (x := (p : Int) + r + 1) (by omega) (by omega), l1Least_eq, hq]
        simp only [Option.bind_some, hput, hat, hrow, hlen]
        rw [if_pos (by omega), if_pos (by omega), if_pos (by omega), if_pos (by omega), if_pos d0, w64 (x := sum + gpP a p) (by omega) (by omega), w64s (n := 1000) (by omega) (by omega)]
      · by_cases d1 : sum + gpP a p < T' X q
        · have hlow : lowT T' X q (sum + gpP a p) = putT T' X q (sum + gpP a p) := by unfold lowT; rw [if_pos (.inr d1)]
          rw [hlow] at ih
          clear hX
          refine Ev.step (fun k => ?_) ih
          simp only [spec_l9Sum.l5, hrr, hra, hgap, e3, hshl]
          rw [if_pos (by omega), if_pos (by omega), w64 (x := (s : Int) - 1) (by omega) (by omega), w64 (x := (e : Int) + r) (by omega) (by omega), l1Least_eq, hhi']
          simp only [Option.bind_some]
          rw [if_pos (by omega), w64 (x := (p : Int) + r) (by omega) (by omega), w64 (x := (p : Int) + r + 1) (by omega) (by omega), l1Least_eq, hq]
          simp only [Option.bind_some, hput, hat, hrow, hlen]
          rw [if_pos (by omega), if_pos (by omega), if_pos (by omega), if_pos (by omega), if_neg d0, w64 (x := sum + gpP a p) (by omega) (by omega), if_pos d1, w64s (n := 1000) (by omega) (by omega)]
        · have hlow : lowT T' X q (sum + gpP a p) = T' := by unfold lowT; rw [if_neg (by omega)]
          rw [hlow] at ih
          clear hX
          refine Ev.step (fun k => ?_) ih
          simp only [spec_l9Sum.l5, hrr, hra, hgap, e3, hshl]
          rw [if_pos (by omega), if_pos (by omega), w64 (x := (s : Int) - 1) (by omega) (by omega), w64 (x := (e : Int) + r) (by omega) (by omega), l1Least_eq, hhi']
          simp only [Option.bind_some]
          rw [if_pos (by omega), w64 (x := (p : Int) + r) (by omega) (by omega), w64 (x := (p : Int) + r + 1) (by omega) (by omega), l1Least_eq, hq]
          simp only [Option.bind_some, hput, hat, hrow, hlen]
          rw [if_pos (by omega), if_pos (by omega), if_pos (by omega), if_pos (by omega), if_neg d0, w64 (x := sum + gpP a p) (by omega) (by omega), if_neg d1, w64s (n := 1000) (by omega) (by omega)])
  have k0 := key lo (by omega) (Nat.le_refl _)
  rw [eBeg] at k0
  exact k0
set_option maxHeartbeats 2000000 in
theorem l4_all (hv : sensV (s : Int) false l = true) {x e N : Nat} (hN : N = 2 ^ l.length) (hx : x < N) (he : e < s) (best sum : Int) (hsum : 0 ≤ sum ∧ sum ≤ 1600) (T : Tb)
    (h : Ev (fun k => spec_l9Sum.l3 k l (L2 (inI s l x e sum l.length T) N s) best (x : Int) ((e + 1 : Nat) : Int) (s : Int) false) R) :
    Ev (fun k => spec_l9Sum.l4 k l (L2 T N s) best (x : Int) (e : Int) sum 0 (s : Int) false) R := by
  have hv' := sens_of hv
  have hl := hv'.2.1
  have h64 : 2 ^ l.length ≤ 64 := Nat.le_trans (Nat.pow_le_pow_right (by decide) hl) (by decide)
  have key := down (P := fun i => Ev (fun k => spec_l9Sum.l4 k l (L2 (inI s l x e sum i T) N s) best (x : Int) (e : Int) sum (i : Int) (s : Int) false) R) (n := l.length)
    (by
      refine Ev.step (f := fun k => spec_l9Sum.j7 k l (L2 (inI s l x e sum l.length T) N s) best (x : Int) (e : Int) sum (l.length : Int) false (s : Int) false) (fun k => ?_) (Ev.step (fun k => ?_) h)
      · simp only [spec_l9Sum.l4]
        rw [if_neg (by omega)]
      · simp only [spec_l9Sum.j7]
        rw [if_neg (by decide), w64s (n := 1000) (by omega) (by omega)])
    (fun i hi ih => by
      have hsc := hv'.2.2 i hi
      unfold sC at hsc
      refine Ev.step (f := fun k => spec_l9Sum.j7 k l (L2 (inI s l x e sum i T) N s) best (x : Int) (e : Int) sum (i : Int) true (s : Int) false) (fun k => ?_) ?_
      · simp only [spec_l9Sum.l4]
        rw [if_pos (by omega), decide_eq_true (by omega)]
      · rcases bit_cases x i with hb | hb
        · have e1 : inI s l x e sum (i + 1) T = inP s (l.getD i z58).f0 (l.getD i z58).f1 (x + 2 ^ i) e sum s (inI s l x e sum i T) := by
            simp only [inI]
            rw [if_neg (by omega)]
          rw [e1] at ih
          have hlt : x + 2 ^ i < N := by
            have h1 : 2 ^ i * 2 ≤ 2 ^ l.length := by rw [← Nat.pow_succ]; exact Nat.pow_le_pow_right (by decide) (by omega)
            rw [hN] at hx ⊢
            obtain ⟨M, hM⟩ : ∃ M, 2 ^ l.length = M * 2 ^ (i + 1) := ⟨2 ^ (l.length - (i + 1)), by rw [← Nat.pow_add]; congr 1; omega⟩
            unfold bitA at hb
            have hp := Nat.two_pow_pos i
            have hps : 2 ^ (i + 1) = 2 ^ i * 2 := Nat.pow_succ 2 i
            obtain ⟨q, hq⟩ : ∃ q, x / 2 ^ i = q := ⟨_, rfl⟩
            have hdm := Nat.div_add_mod x (2 ^ i)
            have hml := Nat.mod_lt x hp
            rw [hq] at hdm hb
            rw [hM, hps] at hx ⊢
            obtain ⟨P, hP⟩ : ∃ P, 2 ^ i = P := ⟨_, rfl⟩
            rw [hP] at hdm hml hx ⊢ hp
            obtain ⟨m, hm⟩ : ∃ m, q = 2 * m := ⟨q / 2, by omega⟩
            subst hm
            have hmM : m < M := by
              rcases Nat.lt_or_ge m M with h | h
              · exact h
              · exfalso
                have : M * (P * 2) ≤ m * (P * 2) := Nat.mul_le_mul_right _ h
                have e5 : P * (2 * m) = m * (P * 2) := by rw [Nat.mul_comm 2 m, ← Nat.mul_assoc, Nat.mul_comm P m, Nat.mul_assoc]
                omega
            have h7 : (m + 1) * (P * 2) ≤ M * (P * 2) := Nat.mul_le_mul_right _ hmM
            have e6 : (m + 1) * (P * 2) = m * (P * 2) + P * 2 := Nat.succ_mul _ _
            have e5 : P * (2 * m) = m * (P * 2) := by rw [Nat.mul_comm 2 m, ← Nat.mul_assoc, Nat.mul_comm P m, Nat.mul_assoc]
            omega
          have h5 := l5_all (s := s) (by omega) hl (by omega) (by omega) hi hb hlt he hsc.1 hsc.2 (inI s l x e sum i T) best sum hsum ih
          refine Ev.step (fun k => ?_) h5
          have hrr : (rd_T58 l (i : Int)).f1 = (l.getD i z58).f1 := rfl
          simp only [spec_l9Sum.j7, hrr]
          rw [if_pos True.intro, if_pos (by omega), bit_read (by omega) (by omega), hb, if_neg (by decide), if_pos (by omega), w64 (x := (e : Int) - (l.getD i z58).f1) (by omega) (by omega), l1Most_eq]
          rfl
        · have e1 : inI s l x e sum (i + 1) T = inI s l x e sum i T := by
            simp only [inI]
            rw [if_pos hb]
          rw [e1] at ih
          refine Ev.step (fun k => ?_) ih
          simp only [spec_l9Sum.j7]
          rw [if_pos True.intro, if_pos (by omega), bit_read (by omega) (by omega), hb, if_pos (by decide), w64s hi (by omega)])
  exact key 0 (by omega)
/-- At the whole line nothing is tried on. -/
theorem l4_end {x N : Nat} (hl : l.length ≤ 6) (hs : s ≤ 24) (best sum : Int) (T : List (List Int)) (h : Ev (fun k => spec_l9Sum.l3 k l T best (x : Int) ((s + 1 : Nat) : Int) (s : Int) false) R) :
    Ev (fun k => spec_l9Sum.l4 k l T best (x : Int) (s : Int) sum 0 (s : Int) false) R := by
  refine Ev.step (f := fun k => spec_l9Sum.j7 k l T best (x : Int) (s : Int) sum 0 false (s : Int) false) (fun k => ?_) (Ev.step (fun k => ?_) h)
  · simp only [spec_l9Sum.l4]
    by_cases c : (0 : Int) < (l.length : Int)
    · rw [if_pos c, decide_eq_false (by omega)]
    · rw [if_neg c]
  · simp only [spec_l9Sum.j7]
    rw [if_neg (by decide), w64s (n := 1000) (by omega) (by omega)]
set_option maxHeartbeats 2000000 in
theorem l3_all (hv : sensV (s : Int) false l = true) {x N : Nat} (hN : N = 2 ^ l.length) (hx : x < N) (st : Tb × Int) (hT : bdT st.1) (hb : -1 ≤ st.2 ∧ st.2 ≤ 1536)
    (h : Ev (fun k => spec_l9Sum.l2 k l (L2 (inE false s l x (s + 1) st).1 N s) (inE false s l x (s + 1) st).2 ((x + 1 : Nat) : Int) (s : Int) false) R) :
    Ev (fun k => spec_l9Sum.l3 k l (L2 st.1 N s) st.2 (x : Int) 0 (s : Int) false) R := by
  have hv' := sens_of hv
  have hl := hv'.2.1
  have hs := hv'.1.1
  have h64 : 2 ^ l.length ≤ 64 := Nat.le_trans (Nat.pow_le_pow_right (by decide) hl) (by decide)
  have key := down (P := fun e => Ev (fun k => spec_l9Sum.l3 k l (L2 (inE false s l x e st).1 N s) (inE false s l x e st).2 (x : Int) (e : Int) (s : Int) false) R) (n := s + 1)
    (by
      refine Ev.step (fun k => ?_) h
      simp only [spec_l9Sum.l3]
      rw [if_neg (by omega), w64s (n := 1000) (by omega) (by omega)])
    (fun e he ih => by
      have hbd := inE_bd (all := false) (x := x) (fun j hj => (hv'.2.2 j hj).1) (show s ≤ 24 by omega) hT hb (by omega) e
      obtain ⟨S, hS⟩ : ∃ S, inE false s l x e st = S := ⟨_, rfl⟩
      have hbx := hbd.1 x e
      rw [hS] at hbd hbx
      have hlen := L2_len S.1 N s
      have hrow := L2_rowlen (T := S.1) (s := s) hx
      have hat := L2_at (T := S.1) (s := s) (e := e) hx (by omega)
      by_cases c1 : S.1 x e < 0
      · have e1 : inE false s l x (e + 1) st = S := by rw [inE_neg (by rw [hS]; exact c1), hS]
        rw [e1] at ih
        rw [hS]
        refine Ev.step (fun k => ?_) ih
        simp only [spec_l9Sum.l3, hlen, hrow, hat]
        rw [if_pos (by omega), if_pos (by omega), if_pos (by omega), if_pos (by omega), if_pos (by omega), if_pos c1, w64s (n := 1000) (by omega) (by omega)]
      · have h3 : Ev (fun k => spec_l9Sum.j5 k l (L2 S.1 N s) (bestT s e (S.1 x e) S.2) (x : Int) (e : Int) (S.1 x e) (s : Int) false) R := by
          by_cases hes : e < s
          · have e1 : inE false s l x (e + 1) st = (inI s l x e (S.1 x e) l.length S.1, bestT s e (S.1 x e) S.2) := by
              rw [inE_pos (by rw [hS]; exact c1) (.inl hes), hS]
            rw [e1] at ih
            exact Ev.step (fun k => by simp only [spec_l9Sum.j5]) (l4_all hv hN hx hes (bestT s e (S.1 x e) S.2) (S.1 x e) (by omega) S.1 ih)
          · have hes' : e = s := by omega
            have e1 : inE false s l x (e + 1) st = (S.1, bestT s e (S.1 x e) S.2) := by
              rw [inE_end (by rw [hS]; exact c1) hes, hS]
            rw [e1] at ih
            rw [hes'] at ih ⊢
            exact Ev.step (fun k => by simp only [spec_l9Sum.j5]) (l4_end (N := N) hl (by omega) _ (S.1 x s) _ ih)
        have h4 : ∀ q : Bool, (if q = true then S.1 x e else S.2) = bestT s e (S.1 x e) S.2 → Ev (fun k => spec_l9Sum.j4 k l (L2 S.1 N s) S.2 (x : Int) (e : Int) (S.1 x e) q (s : Int) false) R := fun q hq => by
          refine Ev.step (fun k => ?_) h3
          simp only [spec_l9Sum.j4]
          rw [← hq]
          cases q <;> simp
        rw [hS]
        by_cases c2 : e = s
        · by_cases c3 : S.2 < 0
          · refine Ev.step (fun k => ?_) (h4 true (by unfold bestT; rw [if_pos rfl, if_pos ⟨c2, .inl c3⟩]))
            simp only [spec_l9Sum.l3, hlen, hrow, hat]
            rw [if_pos (by omega), if_pos (by omega), if_pos (by omega), if_pos (by omega), if_pos (by omega), if_neg c1, if_pos (by omega), if_pos c3]
          · refine Ev.step (fun k => ?_) (h4 (decide (S.1 x e < S.2)) (by
              unfold bestT
              by_cases c4 : S.1 x e < S.2
              · rw [if_pos (decide_eq_true c4), if_pos ⟨c2, .inr c4⟩]
              · rw [if_neg (by rw [decide_eq_false c4]; decide), if_neg (by omega)]))
            simp only [spec_l9Sum.l3, hlen, hrow, hat]
            rw [if_pos (by omega), if_pos (by omega), if_pos (by omega), if_pos (by omega), if_pos (by omega), if_neg c1, if_pos (by omega), if_neg c3]
        · refine Ev.step (fun k => ?_) (h4 false (by rw [bestT_ne _ _ c2]; rfl))
          simp only [spec_l9Sum.l3, hlen, hrow, hat]
          rw [if_pos (by omega), if_pos (by omega), if_pos (by omega), if_pos (by omega), if_pos (by omega), if_neg c1, if_neg (by omega)])
  exact key 0 (by omega)
end
def Tm : Tb := fun _ _ => -1
theorem Tm_0 : putT Tm 0 0 0 = T0 := rfl
set_option maxHeartbeats 2000000 in
theorem l9Sum_ev {s : Nat} {l : List S58} (hv : sensV (s : Int) false l = true) : Ev (fun k => spec_l9Sum.f k (s : Int) false l) (lsum false s l) := by
  have hv' := sens_of hv
  have hl := hv'.2.1
  have hs := hv'.1.1
  have h64 : 2 ^ l.length ≤ 64 := Nat.le_trans (Nat.pow_le_pow_right (by decide) hl) (by decide)
  obtain ⟨N, hN⟩ : ∃ N, N = 2 ^ l.length := ⟨_, rfl⟩
  have hN0 : 0 < N := by rw [hN]; exact Nat.two_pow_pos _
  have hN64 : N ≤ 64 := by omega
  have h2 := down (P := fun x => Ev (fun k => spec_l9Sum.l2 k l (L2 (inX false s l x (T0, -1)).1 N s) (inX false s l x (T0, -1)).2 (x : Int) (s : Int) false) (inX false s l N (T0, -1)).2) (n := N)
    (ev_now (fun k => by simp only [spec_l9Sum.l2, L2_len]; rw [if_neg (by omega)]))
    (fun x hx ih => by
      have hbd := inX_bd (all := false) (s := s) (fun j hj => (hv'.2.2 j hj).1) (by omega) x (by omega)
      have eX : inX false s l (x + 1) (T0, -1) = inE false s l x (s + 1) (inX false s l x (T0, -1)) := rfl
      rw [eX] at ih
      have h3 := l3_all hv hN hx (inX false s l x (T0, -1)) hbd.1 hbd.2 ih
      refine Ev.step (fun k => ?_) h3
      simp only [spec_l9Sum.l2, L2_len]
      rw [if_pos (by omega)])
  have h20 := h2 0 (by omega)
  have eX0 : inX false s l 0 (T0, -1) = (T0, -1) := rfl
  rw [eX0] at h20
  have hset : (L2 Tm N s).set (0 : Int).toNat ((rd_L3 (L2 Tm N s) 0).set (0 : Int).toNat 0) = L2 T0 N s := by
    have := L2_set (T := Tm) (N := N) (s := s) (x := 0) (e := 0) (v := 0) hN0 (by omega)
    exact this
  have hrow0 : (rd_L3 (L2 Tm N s) 0).length = s + 1 := L2_rowlen (T := Tm) (N := N) (s := s) (x := 0) hN0
  have h0 := down (P := fun x => Ev (fun k => spec_l9Sum.l0 k l (L2 Tm x s) (x : Int) (s : Int) false) (inX false s l N (T0, -1)).2) (n := N)
    (by
      refine Ev.step (fun k => ?_) h20
      simp only [spec_l9Sum.l0, hset, hrow0, L2_len]
      rw [shl_one (by omega), ← hN, if_neg (by omega), if_pos (by omega), if_pos (by omega)]
      rfl)
    (fun x hx ih => by
      have h1 := down (P := fun e => Ev (fun k => spec_l9Sum.l1 k l (L2 Tm x s) (x : Int) (tab (s + 1) (fun q => if q < e then -1 else 0)) (e : Int) (s : Int) false) (inX false s l N (T0, -1)).2) (n := s + 1)
        (by
          refine Ev.step (fun k => ?_) ih
          simp only [spec_l9Sum.l1, L2_len]
          rw [if_neg (by omega), if_pos (by omega), w64s hx (by omega)]
          congr 1
          have : tab (s + 1) (fun q => if q < s + 1 then (-1 : Int) else 0) = tab (s + 1) (fun e => Tm x e) := tab_congr (fun q hq => by rw [if_pos hq]; rfl)
          rw [this]
          exact tg_snoc x (fun x => tab (s + 1) (fun e => Tm x e)))
        (fun e he ih1 => by
          refine Ev.step (fun k => ?_) ih1
          simp only [spec_l9Sum.l1, tab_len]
          rw [if_pos (by omega), if_pos (by omega), if_pos (by omega), w64s (n := 1000) (by omega) (by omega), Int.toNat_natCast, tab_set]
          congr 1
          refine tab_congr (fun q _ => ?_)
          by_cases c : q = e
          · rw [if_pos c, if_pos (by omega)]
          · rw [if_neg c]
            by_cases c2 : q < e
            · rw [if_pos c2, if_pos (by omega)]
            · rw [if_neg c2, if_neg (by omega)])
      have h10 := h1 0 (by omega)
      have e0 : tab (s + 1) (fun q => if q < 0 then (-1 : Int) else 0) = List.replicate (s + 1) 0 := by
        rw [tab_rep]
        exact tab_congr (fun q _ => by rw [if_neg (by omega)])
      rw [e0] at h10
      refine Ev.step (fun k => ?_) h10
      simp only [spec_l9Sum.l0]
      rw [shl_one (by omega), ← hN, if_pos (by omega), w64s (i := s) (n := 1000) (by omega) (by omega), if_pos (by omega), Int.toNat_natCast, if_pos (by omega)]
      rfl)
  unfold spec_l9Sum.f lsum
  rw [← hN]
  exact h0 0 (by omega)
def sumR (s : Int) (r : Bool) (l : List S58) : Int × Bool := if sensV s r l = true then foundR (lsum false s.toNat l) else (0, false)
theorem told_eq (v : Int) : spec_l7Told.f v = some (foundR v) := by
  unfold spec_l7Told.f foundR
  rw [l1Most_eq]
  simp only [Option.bind_some]
  congr 2
  unfold mx
  (repeat' split) <;> omega
theorem specSum_ev (s : Int) (r : Bool) (l : List S58) (hl : l.length ≤ 1048576) : Ev (fun k => spec_LeastSum.f k s r l) (sumR s r l) := by
  unfold spec_LeastSum.f sumR
  refine Ev.bind (l9Sensors_ev s r l hl) ?_
  cases hv : sensV s r l with
  | true =>
    have h := sens_of hv
    obtain ⟨n, rfl⟩ : ∃ n : Nat, s = n := ⟨s.toNat, by omega⟩
    have hr := h.1.2
    subst hr
    refine ev_pos rfl (Ev.bind (l9Sum_ev hv) ?_)
    refine ev_bind0 (told_eq _) ?_
    exact Ev.now _
  | false => exact ev_neg (by simp) (Ev.now _)
theorem implSum_ev (s : Int) (r : Bool) (l : List S58) (hl : l.length ≤ 1048576) : Ev (fun k => impl_LeastSum.f k s r l) (sumR s r l) := by
  unfold impl_LeastSum.f sumR
  refine Ev.bind (isGuarded_ev s r l hl) ?_
  cases hv : sensV s r l with
  | true =>
    have h := sens_of hv
    obtain ⟨n, rfl⟩ : ∃ n : Nat, s = n := ⟨s.toNat, by omega⟩
    have hr := h.1.2
    subst hr
    have hrad : radOk l := fun j hj => (h.2.2 j hj).2.1
    rw [if_pos (by rfl), Int.toNat_natCast, ← lsum_both hrad]
    exact ev_pos rfl (implSum_all hv)
  | false => exact ev_neg (by simp) (Ev.now _)

theorem FnExactLeastSum : FnExactLeastSumLeft := by
  intro s r l0 _ hm _
  refine Ev.rounds (g := fun k => laws_FnExactLeastSum.f k s r l0) ?_
  unfold laws_FnExactLeastSum.f
  refine ev_bind0 (szSensorS_eq l0 hm) ?_
  by_cases h : 1048576 - (l0.length : Int) < 0
  · rw [if_pos h]; exact ev_pos (by omega) (Ev.now _)
  rw [if_neg h]
  refine ev_neg h ?_
  have hl0 : l0.length ≤ 1048576 := by omega
  have hl : (cvS l0).length ≤ 1048576 := by rw [cvS_len]; exact hl0
  repeat (first
    | exact Ev.now _
    | (with_reducible refine Ev.bind (toSensorS_ev _ hl0) ?_; try dsimp only)
    | (with_reducible refine Ev.bind (specSum_ev _ _ _ hl) ?_; try dsimp only)
    | (with_reducible refine Ev.bind (implSum_ev _ _ _ hl) ?_; try dsimp only)
    | (with_reducible refine Ev.bind (eqSensorS_self _ (by omega)) ?_; try dsimp only)
    | (refine ev_bind0 (toRoad_eq _ _) ?_; try dsimp only)
    | (refine ev_pos (by first | exact True.intro | rfl | assumption | omega) ?_; try dsimp only)
    | (refine ev_neg (by first | (simp; done) | omega) ?_; try dsimp only)
    | (refine Ev.step (fun k => by simp only [laws_FnExactLeastSum.j0]; rfl) ?_))

end Go.Proofs.Ytanfamfgdgcjpaa.Pure
