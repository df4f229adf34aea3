/- FnExactLeastMove: the left statement: for every road, list of sensors (and number) the law answers true. No condition. -/
import Derived.Test.YtanfamfgdgcjpaaQFnExactLeastMovex5
import Derived.Test.YtanfamfgdgcjpaaBase
import Derived.Test.YtanfamfgdgcjpaaBits
namespace Go.Proofs.Ytanfamfgdgcjpaa.Pure
open Go.RowKit Go.Proofs.Ytanfamfgdgcjpaa.QFnExactLeastMove Go.Proofs.YtanfamfgdgcjpaaW.PrintWords Go.Proofs.YtanfamfgdgcjpaaW.PrintLast Go.Proofs.Ytanfamfgdgcjpaa.Base
set_option linter.unusedVariables false
set_option linter.unusedSimpArgs false

def FnExactLeastMoveLeft : Prop := ∀ (a0_0 : Int) (a0_1 : Bool) (l1 : List S66), (Lit.int .i64 a0_0).wf = true → l1.length ≤ maxLen → (∀ x ∈ l1, (Lit.int .i64 x.f0).wf = true ∧ (Lit.int .i64 x.f1).wf = true) → ∃ k, laws_FnExactLeastMove.f k a0_0 a0_1 l1 = some true

def cvS (l : List S66) : List S58 := tg l.length (fun q => ⟨(l.getD q z66).f0, (l.getD q z66).f1⟩)
theorem cvS_len (l : List S66) : (cvS l).length = l.length := tg_len _ _
theorem toSensorS_ev (l : List S66) (hl : l.length ≤ 1048576) : Ev (fun k => laws_toSensorS.f k l) (cvS l) := by
  have key := down (P := fun i => Ev (fun k => laws_toSensorS.l0 k l (tg l.length (fun q => if q < i then ⟨(l.getD q z66).f0, (l.getD q z66).f1⟩ else z58)) (i : Int)) (cvS l)) (n := l.length)
    (ev_now (fun k => by
      simp only [laws_toSensorS.l0]
      rw [if_neg (by omega)]
      congr 1
      exact tg_congr (fun q hq => by rw [if_pos hq])))
    (fun i hi ih => by
      refine Ev.step (fun k => ?_) ih
      simp only [laws_toSensorS.l0, laws_toSensor.f, Option.bind_some]
      rw [if_pos (by omega), if_pos (by omega), if_pos (by rw [tg_len]; omega), w64s hi (by omega), Int.toNat_natCast, tg_set]
      congr 1
      refine tg_congr (fun q _ => ?_)
      by_cases e : q = i
      · subst e; rw [if_pos rfl, if_pos (by omega)]; rfl
      · rw [if_neg e]
        by_cases e2 : q < i
        · rw [if_pos e2, if_pos (by omega)]
        · rw [if_neg e2, if_neg (by omega)])
  unfold laws_toSensorS.f
  refine ev_pos (by omega) (ev_pos (by omega) ?_)
  rw [Int.toNat_natCast, tg_rep]
  have k0 := key 0 (by omega)
  simpa using k0
theorem szSensorS_eq (l : List S66) (hl : l.length ≤ maxLen) : laws_szSensorS.f l 1048576 = some (if 1048576 - (l.length : Int) < 0 then -1 else 1048576 - (l.length : Int)) := by
  have hm : l.length ≤ 9223372036854775807 := by simpa [maxLen] using hl
  unfold laws_szSensorS.f
  rw [w64 (by omega) (by omega)]
  split <;> rfl
theorem toRoad_eq (s : Int) (r : Bool) : laws_toRoad.f s r = some (s, r) := rfl

theorem eqSensorS_self (l : List S58) (hl : l.length ≤ 1048576) : Ev (fun k => laws_eqSensorS.f k l l) true := by
  have key := down (P := fun i => Ev (fun k => laws_eqSensorS.l0 k l l (i : Int)) true) (n := l.length)
    (ev_now (fun k => by simp only [laws_eqSensorS.l0]; rw [if_neg (by omega)]))
    (fun i hi ih => by
      refine Ev.step (fun k => ?_) ih
      simp only [laws_eqSensorS.l0, laws_eqSensor.f, if_true, Option.bind_some]
      rw [if_pos (by omega), if_pos (by omega), if_pos (by omega), w64s hi (by omega)])
  unfold laws_eqSensorS.f
  exact ev_pos rfl (key 0 (by omega))

theorem l1In_eq (a b c : Int) : spec_l1In.f a b c = some (inR b c a) := by
  unfold spec_l1In.f inR
  by_cases h : a ≥ b
  · have h' : b ≤ a := h
    rw [if_pos h]; simp [h']
  · have h' : ¬ b ≤ a := h
    rw [if_neg h]; simp [h']

theorem within_eq (a b c : Int) : impl_within.f a b c = some (inR b c a) := by
  unfold impl_within.f inR
  by_cases h : a ≥ b
  · have h' : b ≤ a := h
    rw [if_pos h]; simp [h']
  · have h' : ¬ b ≤ a := h
    rw [if_neg h]; simp [h']

def lineV (s : Int) (r : Bool) : Bool := inR 2 24 s && !r
theorem line_of {s : Int} {r : Bool} (h : lineV s r = true) : (2 ≤ s ∧ s ≤ 24) ∧ r = false := by
  unfold lineV at h
  rw [Bool.and_eq_true, inR_iff] at h
  exact ⟨h.1, by simpa using h.2⟩
theorem l2Road_eq (s : Int) (r : Bool) : spec_l2Road.f s r = some (inR 2 24 s && (!r || decide (s > 2))) := by
  unfold spec_l2Road.f
  simp only [l1In_eq, Option.bind_some]
  cases inR 2 24 s <;> cases r <;> simp
theorem isRoad_eq (s : Int) (r : Bool) : impl_IsRoad.f s r = some (inR 2 24 s && (!r || decide (s > 2))) := by
  unfold impl_IsRoad.f
  simp only [within_eq, Option.bind_some]
  cases h : inR 2 24 s <;> cases r <;> simp <;> omega
theorem isLine_eq (s : Int) (r : Bool) : impl_isLine.f s r = some (lineV s r) := by
  unfold impl_isLine.f lineV
  simp only [isRoad_eq, Option.bind_some]
  cases inR 2 24 s <;> cases r <;> simp

theorem l3Line_eq (s : Int) (r : Bool) (a : Int) : spec_l3Line.f s r a = some (lineV s r && inR 0 (s - 1) a) := by
  unfold spec_l3Line.f lineV
  simp only [l2Road_eq, l1In_eq, Option.bind_some]
  cases h : inR 2 24 s with
  | false => simp
  | true =>
    have hs := inR_iff.1 h
    rw [w64 (by omega) (by omega)]
    cases r <;> simp

theorem allWithin_ev (l : List Int) (a b : Int) (hl : l.length ≤ 1152921504606846976) : Ev (fun k => impl_allWithin.f k l a b) (inAll a b l) := by
  have key := down (P := fun i => Ev (fun k => impl_allWithin.l0 k a b l (l.length : Int) (i : Int)) (inAll a b (l.drop i))) (n := l.length)
    (ev_now (fun k => by
      simp only [impl_allWithin.l0]
      rw [if_neg (by omega)]
      simp [inAll_nil]))
    (fun i hi ih => by
      rw [drop_cons hi, inAll_cons]
      cases hc : inR a b (rd l (i : Int)) with
      | true =>
        rw [Bool.true_and]
        refine Ev.step (fun k => ?_) ih
        simp only [impl_allWithin.l0, within_eq, Option.bind_some, hc, if_true]
        rw [if_pos (by omega), if_pos (by omega), if_pos (by omega), w64s hi hl]
      | false =>
        refine ev_now (fun k => ?_)
        simp only [impl_allWithin.l0, within_eq, Option.bind_some, hc, Bool.false_eq_true, if_false]
        rw [if_pos (by omega), if_pos (by omega), if_pos (by omega)]
        simp)
  exact key 0 (by omega)

def sC (s : Int) (l : List S58) (j : Nat) : Prop := (0 ≤ (l.getD j z58).f0 ∧ (l.getD j z58).f0 ≤ s - 1) ∧ 0 ≤ (l.getD j z58).f1 ∧ (l.getD j z58).f1 ≤ 12
instance (s : Int) (l : List S58) : DecidablePred (sC s l) := fun j => by unfold sC; infer_instance
def sensV (s : Int) (r : Bool) (l : List S58) : Bool := (lineV s r && decide ((l.length : Int) ≤ 6)) && allF l.length (sC s l) 0
theorem sens_of {s : Int} {r : Bool} {l : List S58} (h : sensV s r l = true) : ((2 ≤ s ∧ s ≤ 24) ∧ r = false) ∧ l.length ≤ 6 ∧ ∀ j, j < l.length → sC s l j := by
  unfold sensV at h
  rw [Bool.and_eq_true, Bool.and_eq_true] at h
  have := of_decide_eq_true h.1.2
  exact ⟨line_of h.1.1, by omega, allF_of h.2⟩
theorem rdT_nat (l : List S58) (j : Nat) : rd_T58 l (j : Int) = l.getD j z58 := rfl
theorem l9Sensors_ev (s : Int) (r : Bool) (l : List S58) (hl : l.length ≤ 1048576) : Ev (fun k => spec_l9Sensors.f k s r l) (sensV s r l) := by
  have key := down (P := fun i => Ev (fun k => spec_l9Sensors.l0 k l (i : Int) s r) ((lineV s r && decide ((l.length : Int) ≤ 6)) && allF l.length (sC s l) i)) (n := l.length)
    (ev_now (fun k => by
      simp only [spec_l9Sensors.l0, l2Road_eq, Option.bind_some]
      rw [if_neg (by omega), allF_end]
      unfold lineV
      cases inR 2 24 s <;> cases r <;> simp))
    (fun i hi ih => by
      rw [allF_step hi]
      have e3 : ∀ k, spec_l9Sensors.l0 (k + 1) l (i : Int) s r = if (lineV s r && inR 0 (s - 1) (l.getD i z58).f0) = true then (if inR 0 12 (l.getD i z58).f1 = true then spec_l9Sensors.l0 k l ((i + 1 : Nat) : Int) s r else some false) else some false := by
        intro k
        simp only [spec_l9Sensors.l0, l3Line_eq, l1In_eq, Option.bind_some, rdT_nat]
        rw [if_pos (by omega), if_pos (by omega), w64s hi (by omega)]
      cases hL : lineV s r with
      | false =>
        refine ev_now (fun k => ?_)
        rw [e3, hL]; simp
      | true =>
        rw [hL] at ih
        by_cases hc : sC s l i
        · rw [decide_eq_true hc, Bool.true_and]
          refine Ev.step (fun k => ?_) ih
          rw [e3, hL, Bool.true_and, if_pos (inR_iff.2 hc.1), if_pos (inR_iff.2 hc.2)]
        · rw [decide_eq_false hc, Bool.false_and, Bool.and_false]
          refine ev_now (fun k => ?_)
          rw [e3, hL, Bool.true_and]
          by_cases h1 : inR 0 (s - 1) (l.getD i z58).f0 = true
          · rw [if_pos h1, if_neg (fun h2 => hc ⟨inR_iff.1 h1, inR_iff.1 h2⟩)]
          · rw [if_neg h1])
  exact key 0 (by omega)
theorem areSensors_ev (s : Int) (r : Bool) (l : List S58) (hl : l.length ≤ 1048576) (hs : 2 ≤ s ∧ s ≤ 24) : Ev (fun k => impl_Road_areSensors.f k s r l) (decide ((l.length : Int) ≤ 6) && allF l.length (sC s l) 0) := by
  have key := down (P := fun i => Ev (fun k => impl_Road_areSensors.l0 k l l (l.length : Int) (i : Int) s r) (decide ((l.length : Int) ≤ 6) && allF l.length (sC s l) i)) (n := l.length)
    (ev_now (fun k => by
      simp only [impl_Road_areSensors.l0]
      rw [if_neg (by omega), allF_end, Bool.and_true]))
    (fun i hi ih => by
      rw [allF_step hi]
      have hh : Ev (fun k => impl_Road_has.f k s r [(l.getD i z58).f0]) (inR 0 (s - 1) (l.getD i z58).f0) := by
        unfold impl_Road_has.f
        rw [w64 (by omega) (by omega)]
        have := allWithin_ev [(l.getD i z58).f0] 0 (s - 1) (by simp)
        have e : inAll 0 (s - 1) [(l.getD i z58).f0] = inR 0 (s - 1) (l.getD i z58).f0 := by simp [inAll]
        rw [e] at this
        exact Ev.bind this (Ev.now _)
      refine Ev.step (f := fun k => (impl_Road_has.f k s r [(l.getD i z58).f0]).bind fun t => if t = true then (if inR 0 12 (l.getD i z58).f1 = true then impl_Road_areSensors.l0 k l l (l.length : Int) ((i + 1 : Nat) : Int) s r else some false) else some false) (fun k => ?_) (Ev.bind hh ?_)
      · simp only [impl_Road_areSensors.l0, within_eq, Option.bind_some, rdT_nat]
        rw [if_pos (by omega), if_pos (by omega), if_pos (by omega), w64s hi (by omega)]
      · by_cases hc : sC s l i
        · rw [decide_eq_true hc, Bool.true_and]
          exact ev_pos (inR_iff.2 hc.1) (ev_pos (inR_iff.2 hc.2) ih)
        · rw [decide_eq_false hc, Bool.false_and, Bool.and_false]
          by_cases h1 : inR 0 (s - 1) (l.getD i z58).f0 = true
          · exact ev_pos h1 (ev_neg (fun h2 => hc ⟨inR_iff.1 h1, inR_iff.1 h2⟩) (Ev.now _))
          · exact ev_neg h1 (Ev.now _))
  exact key 0 (by omega)

theorem isGuarded_ev (s : Int) (r : Bool) (l : List S58) (hl : l.length ≤ 1048576) : Ev (fun k => impl_isGuarded.f k s r l) (sensV s r l) := by
  unfold impl_isGuarded.f sensV
  simp only [isLine_eq, Option.bind_some]
  cases hL : lineV s r with
  | true =>
    refine ev_pos rfl ?_
    rw [Bool.true_and]
    exact Ev.bind (areSensors_ev s r l hl (line_of hL).1) (Ev.now _)
  | false => exact ev_neg (by simp) (Ev.now _)

theorem l1Most_eq (a b : Int) : spec_l1Most.f a b = some (mx a b) := by
  unfold spec_l1Most.f mx
  by_cases h : a > b
  · rw [if_pos h, if_neg (by omega)]
  · rw [if_neg h]
    by_cases h2 : a < b
    · rw [if_pos h2]
    · rw [if_neg h2]; congr 1; omega

theorem caLeast_eq (a b : Int) : spec_l1Least.f a b = some (mn a b) := by
  unfold spec_l1Least.f mn
  by_cases h : a < b
  · rw [if_pos h, if_neg (by omega)]
  · rw [if_neg h]
    by_cases h2 : b < a
    · rw [if_pos h2]
    · rw [if_neg h2]; congr 1; omega
/-- The greatest place from which a sensor sees on. -/
def plc (s d a r f : Int) : Int := mn (mn (a + d) (f + r)) (s - 1)
def plcOk (s d a r f : Int) : Prop := a - d ≤ plc s d a r f ∧ f - r ≤ plc s d a r f
instance (s d a r f : Int) : Decidable (plcOk s d a r f) := by unfold plcOk; infer_instance
/-- What the reference makes of the best so far. -/
def upS (s d a r f best : Int) : Int := if f < s then (if plcOk s d a r f then mx (mx best f) (plc s d a r f + r + 1) else mx best f) else mx best f
def upI (s d a r f best : Int) : Int := if plcOk s d a r f then mx best (mx f (plc s d a r f + r + 1)) else mx best f
def rowF (up : Int → Int → Int → Int → Int) (l : List S58) (T : List Int) (c : Nat) : Nat → Int
  | 0 => 0
  | i + 1 => if bitA c i = 1 then up (l.getD i z58).f0 (l.getD i z58).f1 (rd T ((c - 2 ^ i : Nat) : Int)) (rowF up l T c i) else rowF up l T c i
theorem rowF_succ (up : Int → Int → Int → Int → Int) (l : List S58) (T : List Int) (c i : Nat) : rowF up l T c (i + 1) = if bitA c i = 1 then up (l.getD i z58).f0 (l.getD i z58).f1 (rd T ((c - 2 ^ i : Nat) : Int)) (rowF up l T c i) else rowF up l T c i := rfl
theorem upS_eq (s d a r f best : Int) : upS s d a r f best = if f < s then (if plcOk s d a r f then mx (mx best f) (plc s d a r f + r + 1) else mx best f) else mx best f := rfl
theorem upI_eq (s d a r f best : Int) : upI s d a r f best = if plcOk s d a r f then mx best (mx f (plc s d a r f + r + 1)) else mx best f := rfl
def tabF (up : Int → Int → Int → Int → Int) (l : List S58) : Nat → List Int
  | 0 => []
  | c + 1 => tabF up l c ++ [rowF up l (tabF up l c) c l.length]
theorem tabF_len (up : Int → Int → Int → Int → Int) (l : List S58) (c : Nat) : (tabF up l c).length = c := by
  induction c with
  | zero => rfl
  | succ c ih => simp [tabF, ih]
theorem tabF_rd (up : Int → Int → Int → Int → Int) (l : List S58) {c q : Nat} (h : q < c) : rd (tabF up l c) (q : Int) = rowF up l (tabF up l q) q l.length := by
  induction c with
  | zero => omega
  | succ c ih =>
    by_cases e : q = c
    · subst e
      have := rd_snoc (tabF up l q) (rowF up l (tabF up l q) q l.length)
      rw [tabF_len] at this
      exact this
    · show rd (tabF up l c ++ _) (q : Int) = _
      rw [rd_app_l (by rw [tabF_len]; omega)]
      exact ih (by omega)
def okF (up : Int → Int → Int → Int → Int) (l : List S58) : Prop := ∀ i, i < l.length → ∀ f b, 0 ≤ f ∧ f ≤ 36 → 0 ≤ b ∧ b ≤ 36 → 0 ≤ up (l.getD i z58).f0 (l.getD i z58).f1 f b ∧ up (l.getD i z58).f0 (l.getD i z58).f1 f b ≤ 36
theorem rowF_bd {up : Int → Int → Int → Int → Int} {l : List S58} (ho : okF up l) (T : List Int) (c : Nat) (hT : ∀ q, q < c → 0 ≤ rd T (q : Int) ∧ rd T (q : Int) ≤ 36) (i : Nat) (hi : i ≤ l.length) : 0 ≤ rowF up l T c i ∧ rowF up l T c i ≤ 36 := by
  induction i with
  | zero => exact ⟨Int.le_refl _, by simp [rowF]⟩
  | succ i ih =>
    unfold rowF
    split
    · rename_i hb
      have := bit_le hb
      have hp := Nat.two_pow_pos i
      exact ho i (by omega) _ _ (hT _ (by omega)) (ih (by omega))
    · exact ih (by omega)
theorem tabF_bd {up : Int → Int → Int → Int → Int} {l : List S58} (ho : okF up l) (c : Nat) : ∀ q, q < c → 0 ≤ rd (tabF up l c) (q : Int) ∧ rd (tabF up l c) (q : Int) ≤ 36 := by
  induction c with
  | zero => intro q hq; omega
  | succ c ih =>
    intro q hq
    rw [tabF_rd up l hq]
    by_cases e : q = c
    · subst e
      exact rowF_bd ho _ q ih l.length (Nat.le_refl _)
    · have := ih q (by omega)
      rw [tabF_rd up l (show q < c by omega)] at this
      exact this
theorem okS {s d : Int} {l : List S58} (hs : 2 ≤ s ∧ s ≤ 24) (hd : 0 ≤ d ∧ d ≤ 24) (h : ∀ j, j < l.length → sC s l j) : okF (upS s d) l := by
  intro i hi f b hf hb
  have hc := h i hi
  unfold sC at hc
  have h1 := mx_ge b f
  have h2 := mn_le ((l.getD i z58).f0 + d) (f + (l.getD i z58).f1)
  have h3 := mn_le (mn ((l.getD i z58).f0 + d) (f + (l.getD i z58).f1)) (s - 1)
  have h4 := mx_ge (mx b f) (plc s d (l.getD i z58).f0 (l.getD i z58).f1 f + (l.getD i z58).f1 + 1)
  have h5 : plc s d (l.getD i z58).f0 (l.getD i z58).f1 f = mn (mn ((l.getD i z58).f0 + d) (f + (l.getD i z58).f1)) (s - 1) := rfl
  unfold upS
  split
  · split
    · omega
    · omega
  · omega
theorem okI {s d : Int} {l : List S58} (hs : 2 ≤ s ∧ s ≤ 24) (hd : 0 ≤ d ∧ d ≤ 24) (h : ∀ j, j < l.length → sC s l j) : okF (upI s d) l := by
  intro i hi f b hf hb
  have hc := h i hi
  unfold sC at hc
  have h1 := mx_ge b f
  have h2 := mn_le ((l.getD i z58).f0 + d) (f + (l.getD i z58).f1)
  have h3 := mn_le (mn ((l.getD i z58).f0 + d) (f + (l.getD i z58).f1)) (s - 1)
  have h5 : plc s d (l.getD i z58).f0 (l.getD i z58).f1 f = mn (mn ((l.getD i z58).f0 + d) (f + (l.getD i z58).f1)) (s - 1) := rfl
  have h4 := mx_ge f (plc s d (l.getD i z58).f0 (l.getD i z58).f1 f + (l.getD i z58).f1 + 1)
  have h6 := mx_ge b (mx f (plc s d (l.getD i z58).f0 (l.getD i z58).f1 f + (l.getD i z58).f1 + 1))
  unfold upI
  split
  · omega
  · omega
/-- Alike as far as the line's size goes. -/
def like (s x y : Int) : Prop := x = y ∨ (s ≤ x ∧ s ≤ y)
theorem like_mx {s x y u v : Int} (h : like s x y) (k : like s u v) : like s (mx x u) (mx y v) := by
  have a := mx_ge x u
  have b := mx_ge y v
  rcases h with h | h
  · rcases k with k | k
    · subst h; subst k; exact .inl rfl
    · exact .inr ⟨by omega, by omega⟩
  · exact .inr ⟨by omega, by omega⟩
theorem like_up {s d a r f g b c : Int} (h : like s f g) (k : like s b c) : like s (upS s d a r f b) (upI s d a r g c) := by
  rcases h with h | h
  · subst h
    unfold upS upI
    by_cases hf : f < s
    · rw [if_pos hf]
      by_cases ho : plcOk s d a r f
      · rw [if_pos ho, if_pos ho]
        have e : mx (mx b f) (plc s d a r f + r + 1) = mx b (mx f (plc s d a r f + r + 1)) := by unfold mx; (repeat' split) <;> omega
        rw [e]
        exact like_mx k (.inl rfl)
      · rw [if_neg ho, if_neg ho]
        exact like_mx k (.inl rfl)
    · rw [if_neg hf]
      have a1 := mx_ge b f
      split
      · have a2 := mx_ge f (plc s d a r f + r + 1)
        have a3 := mx_ge c (mx f (plc s d a r f + r + 1))
        exact .inr ⟨by omega, by omega⟩
      · have a3 := mx_ge c f
        exact .inr ⟨by omega, by omega⟩
  · have a1 := mx_ge b f
    have e1 : s ≤ upS s d a r f b := by
      unfold upS
      rw [if_neg (by omega)]; omega
    have e2 : s ≤ upI s d a r g c := by
      unfold upI
      split
      · have a2 := mx_ge g (plc s d a r g + r + 1)
        have a3 := mx_ge c (mx g (plc s d a r g + r + 1))
        omega
      · have a3 := mx_ge c g
        omega
    exact .inr ⟨e1, e2⟩
theorem like_row {s d : Int} {l : List S58} {T U : List Int} {c : Nat} (h : ∀ q, q < c → like s (rd T (q : Int)) (rd U (q : Int))) (i : Nat) : like s (rowF (upS s d) l T c i) (rowF (upI s d) l U c i) := by
  induction i with
  | zero => exact .inl rfl
  | succ i ih =>
    unfold rowF
    split
    · rename_i hb
      have := bit_le hb
      have hp := Nat.two_pow_pos i
      exact like_up (h _ (by omega)) ih
    · exact ih
theorem like_tab (s d : Int) (l : List S58) (c : Nat) : ∀ q, q < c → like s (rd (tabF (upS s d) l c) (q : Int)) (rd (tabF (upI s d) l c) (q : Int)) := by
  induction c with
  | zero => intro q hq; omega
  | succ c ih =>
    intro q hq
    rw [tabF_rd _ l hq, tabF_rd _ l hq]
    by_cases e : q = c
    · subst e
      exact like_row ih l.length
    · have := ih q (by omega)
      rw [tabF_rd _ l (show q < c by omega), tabF_rd _ l (show q < c by omega)] at this
      exact this
def canB (s d : Int) (l : List S58) : Bool := decide (s ≤ rd (tabF (upS s d) l (2 ^ l.length)) ((2 ^ l.length - 1 : Nat) : Int))
theorem canB_impl (s d : Int) (l : List S58) : canB s d l = decide (s ≤ rd (tabF (upI s d) l (2 ^ l.length)) ((2 ^ l.length - 1 : Nat) : Int)) := by
  have hp := Nat.two_pow_pos l.length
  have := like_tab s d l (2 ^ l.length) (2 ^ l.length - 1) (by omega)
  unfold canB
  rw [Bool.eq_iff_iff, decide_eq_true_iff, decide_eq_true_iff]
  rcases this with h | h <;> omega
theorem pow_le64 {n : Nat} (h : n ≤ 6) : 2 ^ n ≤ 64 := Nat.le_trans (Nat.pow_le_pow_right (by decide) h) (by decide)
theorem l9Place_eq {s d a r f : Int} (hs : 2 ≤ s ∧ s ≤ 24) (hd : 0 ≤ d ∧ d ≤ 24) (ha : 0 ≤ a ∧ a ≤ s - 1) (hr : 0 ≤ r ∧ r ≤ 12) (hf : 0 ≤ f ∧ f ≤ 36) : spec_l9Place.f s false a r f d = some (if plcOk s d a r f then plc s d a r f else -1) := by
  unfold spec_l9Place.f
  rw [w64 (x := a + d) (by omega) (by omega), w64 (x := f + r) (by omega) (by omega), w64 (x := s - 1) (by omega) (by omega), w64 (x := a - d) (by omega) (by omega), w64 (x := f - r) (by omega) (by omega)]
  simp only [caLeast_eq, Option.bind_some]
  have e : mn (mn (a + d) (f + r)) (s - 1) = plc s d a r f := rfl
  rw [e]
  by_cases h1 : plc s d a r f < a - d
  · rw [if_pos h1, if_neg (fun h : plcOk s d a r f => by have := h.1; omega)]
  · rw [if_neg h1]
    by_cases h2 : plc s d a r f < f - r
    · rw [if_pos h2, if_neg (fun h : plcOk s d a r f => by have := h.2; omega)]
    · rw [if_neg h2, if_pos (show plcOk s d a r f from ⟨by omega, by omega⟩)]
theorem plc_nn {s d a r f : Int} (hs : 2 ≤ s ∧ s ≤ 24) (hd : 0 ≤ d ∧ d ≤ 24) (ha : 0 ≤ a ∧ a ≤ s - 1) (hr : 0 ≤ r ∧ r ≤ 12) (hf : 0 ≤ f ∧ f ≤ 36) : 0 ≤ plc s d a r f ∧ plc s d a r f ≤ 23 := by
  have h2 := mn_le (a + d) (f + r)
  have h3 := mn_le (mn (a + d) (f + r)) (s - 1)
  unfold plc
  omega
theorem l9Can_ev (s d : Int) (l : List S58) (hv : sensV s false l = true) (hd : 0 ≤ d ∧ d ≤ 24) : Ev (fun k => spec_l9Can.f k s false l d) (canB s d l) := by
  have h := sens_of hv
  have hs := h.1.1
  have hN := pow_le64 h.2.1
  have hp := Nat.two_pow_pos l.length
  have ho := okS hs hd h.2.2
  have key := down (P := fun c => Ev (fun k => spec_l9Can.l0 k l d (tabF (upS s d) l c) (c : Int) s false) (canB s d l)) (n := 2 ^ l.length)
    (ev_now (fun k => by
      simp only [spec_l9Can.l0]
      rw [shl_one (by omega), if_neg (by omega), tabF_len, w64 (by omega) (by omega), show ((2 ^ l.length : Nat) : Int) - 1 = ((2 ^ l.length - 1 : Nat) : Int) by omega, if_pos (by omega), if_pos (by omega)]
      rfl))
    (fun c hc ih => by
      have hb := tabF_bd ho c
      refine Ev.step (f := fun k => spec_l9Can.l1 k l d (tabF (upS s d) l c) (c : Int) (rowF (upS s d) l (tabF (upS s d) l c) c 0) ((0 : Nat) : Int) s false) (fun k => by simp only [spec_l9Can.l0]; rw [shl_one (by omega), if_pos (by omega)]; rfl) ?_
      have inner := down (P := fun i => Ev (fun k => spec_l9Can.l1 k l d (tabF (upS s d) l c) (c : Int) (rowF (upS s d) l (tabF (upS s d) l c) c i) (i : Int) s false) (canB s d l)) (n := l.length)
        (by
          refine Ev.step (fun k => ?_) ih
          simp only [spec_l9Can.l1]
          rw [if_neg (by omega), if_pos (by rw [tabF_len]; omega), w64s hc (by omega)]
          rfl)
        (fun i hi ihi => by
          have hcs := h.2.2 i hi
          unfold sC at hcs
          have hrow := rowF_bd ho (tabF (upS s d) l c) c hb i (by omega)
          refine Ev.step (fun k => ?_) ihi
          simp only [spec_l9Can.l1, rdT_nat]
          rw [if_pos (by omega), if_pos (by omega), bit_read (by omega) (by omega), w64s hi (by omega)]
          rcases bit_cases c i with b | b
          · rw [b, if_neg (by decide), rowF_succ, if_neg (by omega)]
          · have hle := bit_le b
            have hpi := Nat.two_pow_pos i
            have hf := hb (c - 2 ^ i) (by omega)
            have hpl := plc_nn hs hd hcs.1 hcs.2 hf
            rw [b, if_pos (by decide), shl_one (by omega), w64 (x := (c : Int) - ((2 ^ i : Nat) : Int)) (by omega) (by omega), show (c : Int) - ((2 ^ i : Nat) : Int) = ((c - 2 ^ i : Nat) : Int) by omega, if_pos (by omega), if_pos (by rw [tabF_len]; omega), l9Place_eq hs hd hcs.1 hcs.2 hf]
            simp only [l1Most_eq, Option.bind_some]
            rw [rowF_succ, if_pos b, upS_eq]
            by_cases h1 : rd (tabF (upS s d) l c) ((c - 2 ^ i : Nat) : Int) < s
            · rw [if_pos h1, if_pos h1]
              by_cases h2 : plcOk s d (l.getD i z58).f0 (l.getD i z58).f1 (rd (tabF (upS s d) l c) ((c - 2 ^ i : Nat) : Int))
              · simp only [if_pos h2]
                rw [if_pos hpl.1, w64 (x := plc s d (l.getD i z58).f0 (l.getD i z58).f1 (rd (tabF (upS s d) l c) ((c - 2 ^ i : Nat) : Int)) + (l.getD i z58).f1) (by omega) (by omega), w64 (by omega) (by omega)]
              · simp only [if_neg h2]
                rw [if_neg (by decide)]
            · rw [if_neg h1, if_neg h1])
      exact inner 0 (by omega))
  exact key 0 (by omega)
/-- The program's table behind c rows and, in row c, the value v. -/
def cells (N : Nat) (T : List Int) (c : Nat) (v : Int) : List Int := tab N (fun q => if q < c then rd T (q : Int) else if q = c then v else 0)
theorem canGuard_ev (s d : Int) (l : List S58) (hv : sensV s false l = true) (hd : 0 ≤ d ∧ d ≤ 24) : Ev (fun k => impl_Road_canGuard.f k s false l d) (canB s d l) := by
  have h := sens_of hv
  have hs := h.1.1
  have hN := pow_le64 h.2.1
  have hp := Nat.two_pow_pos l.length
  have ho := okI hs hd h.2.2
  rw [canB_impl]
  have clen : ∀ T c v, (cells (2 ^ l.length) T c v).length = 2 ^ l.length := fun T c v => tab_len _ _
  have key := down (P := fun c => Ev (fun k => impl_Road_canGuard.l0 k l d (cells (2 ^ l.length) (tabF (upI s d) l c) c 0) ((2 ^ l.length : Nat) : Int) (c : Int) s false) (decide (s ≤ rd (tabF (upI s d) l (2 ^ l.length)) ((2 ^ l.length - 1 : Nat) : Int)))) (n := 2 ^ l.length)
    (ev_now (fun k => by
      simp only [impl_Road_canGuard.l0]
      rw [if_neg (by omega), clen, w64 (by omega) (by omega), show ((2 ^ l.length : Nat) : Int) - 1 = ((2 ^ l.length - 1 : Nat) : Int) by omega, if_pos (by omega), if_pos (by omega)]
      unfold cells
      rw [tab_rd (by omega), if_pos (by omega)]))
    (fun c hc ih => by
      have hb := tabF_bd ho c
      refine Ev.step (f := fun k => impl_Road_canGuard.l1 k l d (cells (2 ^ l.length) (tabF (upI s d) l c) c (rowF (upI s d) l (tabF (upI s d) l c) c 0)) (c : Int) ((2 ^ l.length : Nat) : Int) (c : Int) l (l.length : Int) ((0 : Nat) : Int) s false) (fun k => by simp only [impl_Road_canGuard.l0]; rw [if_pos (by omega)]; rfl) ?_
      have inner := down (P := fun i => Ev (fun k => impl_Road_canGuard.l1 k l d (cells (2 ^ l.length) (tabF (upI s d) l c) c (rowF (upI s d) l (tabF (upI s d) l c) c i)) (c : Int) ((2 ^ l.length : Nat) : Int) (c : Int) l (l.length : Int) (i : Int) s false) (decide (s ≤ rd (tabF (upI s d) l (2 ^ l.length)) ((2 ^ l.length - 1 : Nat) : Int)))) (n := l.length)
        (by
          refine Ev.step (fun k => ?_) ih
          simp only [impl_Road_canGuard.l1]
          rw [if_neg (by omega), w64s hc (by omega)]
          congr 1
          refine tab_congr (fun q hq => ?_)
          by_cases h1 : q < c
          · rw [if_pos h1, if_pos (by omega), tabF_rd _ l h1, tabF_rd _ l (show q < c + 1 by omega)]
          · rw [if_neg h1]
            by_cases h2 : q = c
            · subst h2
              rw [if_pos rfl, if_pos (by omega), tabF_rd _ l (show q < q + 1 by omega)]
            · rw [if_neg h2, if_neg (by omega)]
              split <;> rfl)
        (fun i hi ihi => by
          have hcs := h.2.2 i hi
          unfold sC at hcs
          have hrow := rowF_bd ho (tabF (upI s d) l c) c hb i (by omega)
          refine Ev.step (fun k => ?_) ihi
          simp only [impl_Road_canGuard.l1, rdT_nat]
          rw [if_pos (by omega), if_pos (by omega), if_pos (by omega), bit_read (by omega) (by omega), w64s hi (by omega)]
          rcases bit_cases c i with b | b
          · rw [b, if_pos (by decide), rowF_succ, if_neg (by omega)]
          · have hle := bit_le b
            have hpi := Nat.two_pow_pos i
            have hf := hb (c - 2 ^ i) (by omega)
            have hpl := plc_nn hs hd hcs.1 hcs.2 hf
            have hrd : rd (cells (2 ^ l.length) (tabF (upI s d) l c) c (rowF (upI s d) l (tabF (upI s d) l c) c i)) ((c - 2 ^ i : Nat) : Int) = rd (tabF (upI s d) l c) ((c - 2 ^ i : Nat) : Int) := by
              unfold cells; rw [tab_rd (by omega), if_pos (by omega)]
            have hrc : rd (cells (2 ^ l.length) (tabF (upI s d) l c) c (rowF (upI s d) l (tabF (upI s d) l c) c i)) (c : Int) = rowF (upI s d) l (tabF (upI s d) l c) c i := by
              unfold cells; rw [tab_rd hc, if_neg (by omega), if_pos rfl]
            have hset : ∀ v, (cells (2 ^ l.length) (tabF (upI s d) l c) c (rowF (upI s d) l (tabF (upI s d) l c) c i)).set c v = cells (2 ^ l.length) (tabF (upI s d) l c) c v := by
              intro v
              unfold cells
              rw [tab_set]
              refine tab_congr (fun q hq => ?_)
              by_cases h1 : q = c
              · rw [if_pos h1, if_neg (by omega), if_pos h1]
              · rw [if_neg h1]
                by_cases h2 : q < c
                · rw [if_pos h2, if_pos h2]
                · rw [if_neg h2, if_neg h2, if_neg h1, if_neg h1]
            have hplc : mn (mn ((l.getD i z58).f0 + d) (rd (tabF (upI s d) l c) ((c - 2 ^ i : Nat) : Int) + (l.getD i z58).f1)) (s - 1) = plc s d (l.getD i z58).f0 (l.getD i z58).f1 (rd (tabF (upI s d) l c) ((c - 2 ^ i : Nat) : Int)) := rfl
            have w1 : wrap64 ((l.getD i z58).f0 + d) = (l.getD i z58).f0 + d := w64 (by omega) (by omega)
            have w2 : wrap64 (rd (tabF (upI s d) l c) ((c - 2 ^ i : Nat) : Int) + (l.getD i z58).f1) = rd (tabF (upI s d) l c) ((c - 2 ^ i : Nat) : Int) + (l.getD i z58).f1 := w64 (by omega) (by omega)
            have w3 : wrap64 (s - 1) = s - 1 := w64 (by omega) (by omega)
            have w4 : wrap64 ((l.getD i z58).f0 - d) = (l.getD i z58).f0 - d := w64 (by omega) (by omega)
            have w5 : wrap64 (plc s d (l.getD i z58).f0 (l.getD i z58).f1 (rd (tabF (upI s d) l c) ((c - 2 ^ i : Nat) : Int)) + (l.getD i z58).f1) = plc s d (l.getD i z58).f0 (l.getD i z58).f1 (rd (tabF (upI s d) l c) ((c - 2 ^ i : Nat) : Int)) + (l.getD i z58).f1 := w64 (by omega) (by omega)
            have w6 : wrap64 (plc s d (l.getD i z58).f0 (l.getD i z58).f1 (rd (tabF (upI s d) l c) ((c - 2 ^ i : Nat) : Int)) + (l.getD i z58).f1 + 1) = plc s d (l.getD i z58).f0 (l.getD i z58).f1 (rd (tabF (upI s d) l c) ((c - 2 ^ i : Nat) : Int)) + (l.getD i z58).f1 + 1 := w64 (by omega) (by omega)
            rw [b, if_neg (by decide), bit_off (by omega) (by omega) b, if_pos (by omega), if_pos (by rw [clen]; omega)]
            simp only [hrd, hrc, w1, w2, w3, w4, hplc, w5, w6, clen, Int.toNat_natCast, hset]
            rw [rowF_succ, if_pos b, upI_eq]
            by_cases h1 : plc s d (l.getD i z58).f0 (l.getD i z58).f1 (rd (tabF (upI s d) l c) ((c - 2 ^ i : Nat) : Int)) ≥ (l.getD i z58).f0 - d
            · rw [if_pos h1]
              by_cases h2 : plc s d (l.getD i z58).f0 (l.getD i z58).f1 (rd (tabF (upI s d) l c) ((c - 2 ^ i : Nat) : Int)) + (l.getD i z58).f1 ≥ rd (tabF (upI s d) l c) ((c - 2 ^ i : Nat) : Int)
              · rw [if_pos h2, if_pos (by omega), if_pos (by omega), if_pos (show plcOk _ _ _ _ _ from ⟨by omega, by omega⟩)]
              · rw [if_neg h2, if_pos (by omega), if_pos (by omega), if_neg (fun h : plcOk _ _ _ _ _ => by have := h.2; omega)]
            · rw [if_neg h1, if_pos (by omega), if_pos (by omega), if_neg (fun h : plcOk _ _ _ _ _ => by have := h.1; omega)])
      exact inner 0 (by omega))
  unfold impl_Road_canGuard.f
  rw [shl_one (by omega)]
  refine ev_pos (by omega) (ev_pos (by omega) ?_)
  simp only [Option.bind_some, Int.toNat_natCast, List.length_replicate]
  have k0 := key 0 (by omega)
  have e : cells (2 ^ l.length) (tabF (upI s d) l 0) 0 0 = List.replicate (2 ^ l.length) 0 := by
    rw [tab_rep]
    refine tab_congr (fun q _ => ?_)
    rw [if_neg (by omega)]
    split <;> rfl
  rw [e] at k0
  exact k0

/-- The first number from i on (k of them) of which f holds. -/
def firstFrom (f : Nat → Bool) : Nat → Nat → Int × Bool
  | _, 0 => (0, false)
  | i, k + 1 => if f i = true then ((i : Int), true) else firstFrom f (i + 1) k
def leastR (s : Int) (r : Bool) (l : List S58) : Int × Bool := if sensV s r l = true then firstFrom (fun d => canB s (d : Int) l) 0 s.toNat else (0, false)
theorem specLeast_ev (s : Int) (r : Bool) (l : List S58) (hl : l.length ≤ 1048576) : Ev (fun k => spec_LeastMove.f k s r l) (leastR s r l) := by
  unfold spec_LeastMove.f leastR
  refine Ev.bind (l9Sensors_ev s r l hl) ?_
  cases hv : sensV s r l with
  | true =>
    have h := sens_of hv
    have hr := h.1.2
    subst hr
    refine ev_pos rfl ?_
    obtain ⟨n, hn⟩ : ∃ n : Nat, s = n := ⟨s.toNat, by omega⟩
    subst hn
    have key := down (P := fun i => Ev (fun k => spec_LeastMove.l0 k l (i : Int) (n : Int) false) (firstFrom (fun d => canB (n : Int) (d : Int) l) i (n - i))) (n := n)
      (ev_now (fun k => by simp only [spec_LeastMove.l0]; rw [if_neg (by omega), Nat.sub_self]; rfl))
      (fun i hi ih => by
        rw [show n - i = (n - (i + 1)) + 1 by omega]
        unfold firstFrom
        refine Ev.step (f := fun k => (spec_l9Can.f k (n : Int) false l (i : Int)).bind fun t => if t = true then some ((i : Int), true) else spec_LeastMove.l0 k l ((i + 1 : Nat) : Int) (n : Int) false) (fun k => by simp only [spec_LeastMove.l0]; rw [if_pos (by omega), w64s hi (by omega)]) (Ev.bind (l9Can_ev (n : Int) (i : Int) l hv (by omega)) ?_)
        cases hc : canB (n : Int) (i : Int) l with
        | true => exact ev_pos rfl (by simp only [if_true]; exact Ev.now _)
        | false => exact ev_neg (by simp) (by simpa using ih))
    simpa using key 0 (by omega)
  | false => exact ev_neg (by simp) (Ev.now _)
theorem implLeast_ev (s : Int) (r : Bool) (l : List S58) (hl : l.length ≤ 1048576) : Ev (fun k => impl_LeastMove.f k s r l) (leastR s r l) := by
  unfold impl_LeastMove.f leastR
  refine Ev.bind (isGuarded_ev s r l hl) ?_
  cases hv : sensV s r l with
  | true =>
    have h := sens_of hv
    have hr := h.1.2
    subst hr
    refine ev_pos rfl ?_
    obtain ⟨n, hn⟩ : ∃ n : Nat, s = n := ⟨s.toNat, by omega⟩
    subst hn
    have key := down (P := fun i => Ev (fun k => impl_LeastMove.l0 k l (n : Int) (i : Int) (n : Int) false) (firstFrom (fun d => canB (n : Int) (d : Int) l) i (n - i))) (n := n)
      (ev_now (fun k => by simp only [impl_LeastMove.l0]; rw [if_neg (by omega), Nat.sub_self]; rfl))
      (fun i hi ih => by
        rw [show n - i = (n - (i + 1)) + 1 by omega]
        unfold firstFrom
        refine Ev.step (f := fun k => (impl_Road_canGuard.f k (n : Int) false l (i : Int)).bind fun t => if t = true then some ((i : Int), true) else impl_LeastMove.l0 k l (n : Int) ((i + 1 : Nat) : Int) (n : Int) false) (fun k => by simp only [impl_LeastMove.l0]; rw [if_pos (by omega), w64s hi (by omega)]) (Ev.bind (canGuard_ev (n : Int) (i : Int) l hv (by omega)) ?_)
        cases hc : canB (n : Int) (i : Int) l with
        | true => exact ev_pos rfl (by simp only [if_true]; exact Ev.now _)
        | false => exact ev_neg (by simp) (by simpa using ih))
    simpa using key 0 (by omega)
  | false => exact ev_neg (by simp) (Ev.now _)

theorem FnExactLeastMove : FnExactLeastMoveLeft := by
  intro s r l0 _ hm _
  refine Ev.rounds (g := fun k => laws_FnExactLeastMove.f k s r l0) ?_
  unfold laws_FnExactLeastMove.f
  refine ev_bind0 (szSensorS_eq l0 hm) ?_
  by_cases h : 1048576 - (l0.length : Int) < 0
  · rw [if_pos h]; exact ev_pos (by omega) (Ev.now _)
  rw [if_neg h]
  refine ev_neg h ?_
  have hl0 : l0.length ≤ 1048576 := by omega
  have hl : (cvS l0).length ≤ 1048576 := by rw [cvS_len]; exact hl0
  repeat (first
    | exact Ev.now _
    | (with_reducible refine Ev.bind (toSensorS_ev _ hl0) ?_; try dsimp only)
    | (with_reducible refine Ev.bind (specLeast_ev _ _ _ hl) ?_; try dsimp only)
    | (with_reducible refine Ev.bind (implLeast_ev _ _ _ hl) ?_; try dsimp only)
    | (with_reducible refine Ev.bind (eqSensorS_self _ (by omega)) ?_; try dsimp only)
    | (refine ev_bind0 (toRoad_eq _ _) ?_; try dsimp only)
    | (refine ev_pos (by first | exact True.intro | rfl | assumption | omega) ?_; try dsimp only)
    | (refine ev_neg (by first | (simp; done) | omega) ?_; try dsimp only)
    | (refine Ev.step (fun k => by simp only [laws_FnExactLeastMove.j0]; rfl) ?_))

end Go.Proofs.Ytanfamfgdgcjpaa.Pure
