/- FnExactCanInOrder: the left statement: for every road, list of sensors (and number) the law answers true. No condition. -/
import Derived.Test.YtanfamfgdgcjpaaQFnExactCanInOrderx9
import Derived.Test.YtanfamfgdgcjpaaBase
namespace Go.Proofs.Ytanfamfgdgcjpaa.Pure
open Go.RowKit Go.Proofs.Ytanfamfgdgcjpaa.QFnExactCanInOrder Go.Proofs.YtanfamfgdgcjpaaW.PrintWords Go.Proofs.YtanfamfgdgcjpaaW.PrintLast Go.Proofs.Ytanfamfgdgcjpaa.Base
set_option linter.unusedVariables false
set_option linter.unusedSimpArgs false

def FnExactCanInOrderLeft : Prop := ∀ (a0_0 : Int) (a0_1 : Bool) (l1 : List S66) (a2 : Int), (Lit.int .i64 a0_0).wf = true → l1.length ≤ maxLen → (∀ x ∈ l1, (Lit.int .i64 x.f0).wf = true ∧ (Lit.int .i64 x.f1).wf = true) → (Lit.int .i64 a2).wf = true → ∃ k, laws_FnExactCanInOrder.f k a0_0 a0_1 l1 a2 = some true

def cvS (l : List S66) : List S58 := tg l.length (fun q => ⟨(l.getD q z66).f0, (l.getD q z66).f1⟩)
theorem cvS_len (l : List S66) : (cvS l).length = l.length := tg_len _ _
theorem toSensorS_ev (l : List S66) (hl : l.length ≤ 1048576) : Ev (fun k => laws_toSensorS.f k l) (cvS l) := by
  have key := down (P := fun i => Ev (fun k => laws_toSensorS.l0 k l (tg l.length (fun q => if q < i then ⟨(l.getD q z66).f0, (l.getD q z66).f1⟩ else z58)) (i : Int)) (cvS l)) (n := l.length)
    (ev_now (fun k => by
      simp only [laws_toSensorS.l0]
      rw [if_neg (by omega)]
      congr 1
      exact tg_congr (fun q hq => by rw [if_pos hq])))
    (fun i hi ih => by
      refine Ev.step (fun k => ?_) ih
      simp only [laws_toSensorS.l0, laws_toSensor.f, Option.bind_some]
      rw [if_pos (by omega), if_pos (by omega), if_pos (by rw [tg_len]; omega), w64s hi (by omega), Int.toNat_natCast, tg_set]
      congr 1
      refine tg_congr (fun q _ => ?_)
      by_cases e : q = i
      · subst e; rw [if_pos rfl, if_pos (by omega)]; rfl
      · rw [if_neg e]
        by_cases e2 : q < i
        · rw [if_pos e2, if_pos (by omega)]
        · rw [if_neg e2, if_neg (by omega)])
  unfold laws_toSensorS.f
  refine ev_pos (by omega) (ev_pos (by omega) ?_)
  rw [Int.toNat_natCast, tg_rep]
  have k0 := key 0 (by omega)
  simpa using k0
theorem szSensorS_eq (l : List S66) (hl : l.length ≤ maxLen) : laws_szSensorS.f l 1048576 = some (if 1048576 - (l.length : Int) < 0 then -1 else 1048576 - (l.length : Int)) := by
  have hm : l.length ≤ 9223372036854775807 := by simpa [maxLen] using hl
  unfold laws_szSensorS.f
  rw [w64 (by omega) (by omega)]
  split <;> rfl
theorem toRoad_eq (s : Int) (r : Bool) : laws_toRoad.f s r = some (s, r) := rfl

theorem eqSensorS_self (l : List S58) (hl : l.length ≤ 1048576) : Ev (fun k => laws_eqSensorS.f k l l) true := by
  have key := down (P := fun i => Ev (fun k => laws_eqSensorS.l0 k l l (i : Int)) true) (n := l.length)
    (ev_now (fun k => by simp only [laws_eqSensorS.l0]; rw [if_neg (by omega)]))
    (fun i hi ih => by
      refine Ev.step (fun k => ?_) ih
      simp only [laws_eqSensorS.l0, laws_eqSensor.f, if_true, Option.bind_some]
      rw [if_pos (by omega), if_pos (by omega), if_pos (by omega), w64s hi (by omega)])
  unfold laws_eqSensorS.f
  exact ev_pos rfl (key 0 (by omega))

theorem l1In_eq (a b c : Int) : spec_l1In.f a b c = some (inR b c a) := by
  unfold spec_l1In.f inR
  by_cases h : a ≥ b
  · have h' : b ≤ a := h
    rw [if_pos h]; simp [h']
  · have h' : ¬ b ≤ a := h
    rw [if_neg h]; simp [h']

theorem within_eq (a b c : Int) : impl_within.f a b c = some (inR b c a) := by
  unfold impl_within.f inR
  by_cases h : a ≥ b
  · have h' : b ≤ a := h
    rw [if_pos h]; simp [h']
  · have h' : ¬ b ≤ a := h
    rw [if_neg h]; simp [h']

def lineV (s : Int) (r : Bool) : Bool := inR 2 24 s && !r
theorem line_of {s : Int} {r : Bool} (h : lineV s r = true) : (2 ≤ s ∧ s ≤ 24) ∧ r = false := by
  unfold lineV at h
  rw [Bool.and_eq_true, inR_iff] at h
  exact ⟨h.1, by simpa using h.2⟩
theorem l2Road_eq (s : Int) (r : Bool) : spec_l2Road.f s r = some (inR 2 24 s && (!r || decide (s > 2))) := by
  unfold spec_l2Road.f
  simp only [l1In_eq, Option.bind_some]
  cases inR 2 24 s <;> cases r <;> simp
theorem isRoad_eq (s : Int) (r : Bool) : impl_IsRoad.f s r = some (inR 2 24 s && (!r || decide (s > 2))) := by
  unfold impl_IsRoad.f
  simp only [within_eq, Option.bind_some]
  cases h : inR 2 24 s <;> cases r <;> simp <;> omega
theorem isLine_eq (s : Int) (r : Bool) : impl_isLine.f s r = some (lineV s r) := by
  unfold impl_isLine.f lineV
  simp only [isRoad_eq, Option.bind_some]
  cases inR 2 24 s <;> cases r <;> simp

theorem l3Line_eq (s : Int) (r : Bool) (a : Int) : spec_l3Line.f s r a = some (lineV s r && inR 0 (s - 1) a) := by
  unfold spec_l3Line.f lineV
  simp only [l2Road_eq, l1In_eq, Option.bind_some]
  cases h : inR 2 24 s with
  | false => simp
  | true =>
    have hs := inR_iff.1 h
    rw [w64 (by omega) (by omega)]
    cases r <;> simp

theorem allWithin_ev (l : List Int) (a b : Int) (hl : l.length ≤ 1152921504606846976) : Ev (fun k => impl_allWithin.f k l a b) (inAll a b l) := by
  have key := down (P := fun i => Ev (fun k => impl_allWithin.l0 k a b l (l.length : Int) (i : Int)) (inAll a b (l.drop i))) (n := l.length)
    (ev_now (fun k => by
      simp only [impl_allWithin.l0]
      rw [if_neg (by omega)]
      simp [inAll_nil]))
    (fun i hi ih => by
      rw [drop_cons hi, inAll_cons]
      cases hc : inR a b (rd l (i : Int)) with
      | true =>
        rw [Bool.true_and]
        refine Ev.step (fun k => ?_) ih
        simp only [impl_allWithin.l0, within_eq, Option.bind_some, hc, if_true]
        rw [if_pos (by omega), if_pos (by omega), if_pos (by omega), w64s hi hl]
      | false =>
        refine ev_now (fun k => ?_)
        simp only [impl_allWithin.l0, within_eq, Option.bind_some, hc, Bool.false_eq_true, if_false]
        rw [if_pos (by omega), if_pos (by omega), if_pos (by omega)]
        simp)
  exact key 0 (by omega)

def sC (s : Int) (l : List S58) (j : Nat) : Prop := (0 ≤ (l.getD j z58).f0 ∧ (l.getD j z58).f0 ≤ s - 1) ∧ 0 ≤ (l.getD j z58).f1 ∧ (l.getD j z58).f1 ≤ 12
instance (s : Int) (l : List S58) : DecidablePred (sC s l) := fun j => by unfold sC; infer_instance
def sensV (s : Int) (r : Bool) (l : List S58) : Bool := (lineV s r && decide ((l.length : Int) ≤ 6)) && allF l.length (sC s l) 0
theorem sens_of {s : Int} {r : Bool} {l : List S58} (h : sensV s r l = true) : ((2 ≤ s ∧ s ≤ 24) ∧ r = false) ∧ l.length ≤ 6 ∧ ∀ j, j < l.length → sC s l j := by
  unfold sensV at h
  rw [Bool.and_eq_true, Bool.and_eq_true] at h
  have := of_decide_eq_true h.1.2
  exact ⟨line_of h.1.1, by omega, allF_of h.2⟩
theorem rdT_nat (l : List S58) (j : Nat) : rd_T58 l (j : Int) = l.getD j z58 := rfl
theorem l9Sensors_ev (s : Int) (r : Bool) (l : List S58) (hl : l.length ≤ 1048576) : Ev (fun k => spec_l9Sensors.f k s r l) (sensV s r l) := by
  have key := down (P := fun i => Ev (fun k => spec_l9Sensors.l0 k l (i : Int) s r) ((lineV s r && decide ((l.length : Int) ≤ 6)) && allF l.length (sC s l) i)) (n := l.length)
    (ev_now (fun k => by
      simp only [spec_l9Sensors.l0, l2Road_eq, Option.bind_some]
      rw [if_neg (by omega), allF_end]
      unfold lineV
      cases inR 2 24 s <;> cases r <;> simp))
    (fun i hi ih => by
      rw [allF_step hi]
      have e3 : ∀ k, spec_l9Sensors.l0 (k + 1) l (i : Int) s r = if (lineV s r && inR 0 (s - 1) (l.getD i z58).f0) = true then (if inR 0 12 (l.getD i z58).f1 = true then spec_l9Sensors.l0 k l ((i + 1 : Nat) : Int) s r else some false) else some false := by
        intro k
        simp only [spec_l9Sensors.l0, l3Line_eq, l1In_eq, Option.bind_some, rdT_nat]
        rw [if_pos (by omega), if_pos (by omega), w64s hi (by omega)]
      cases hL : lineV s r with
      | false =>
        refine ev_now (fun k => ?_)
        rw [e3, hL]; simp
      | true =>
        rw [hL] at ih
        by_cases hc : sC s l i
        · rw [decide_eq_true hc, Bool.true_and]
          refine Ev.step (fun k => ?_) ih
          rw [e3, hL, Bool.true_and, if_pos (inR_iff.2 hc.1), if_pos (inR_iff.2 hc.2)]
        · rw [decide_eq_false hc, Bool.false_and, Bool.and_false]
          refine ev_now (fun k => ?_)
          rw [e3, hL, Bool.true_and]
          by_cases h1 : inR 0 (s - 1) (l.getD i z58).f0 = true
          · rw [if_pos h1, if_neg (fun h2 => hc ⟨inR_iff.1 h1, inR_iff.1 h2⟩)]
          · rw [if_neg h1])
  exact key 0 (by omega)
theorem areSensors_ev (s : Int) (r : Bool) (l : List S58) (hl : l.length ≤ 1048576) (hs : 2 ≤ s ∧ s ≤ 24) : Ev (fun k => impl_Road_areSensors.f k s r l) (decide ((l.length : Int) ≤ 6) && allF l.length (sC s l) 0) := by
  have key := down (P := fun i => Ev (fun k => impl_Road_areSensors.l0 k l l (l.length : Int) (i : Int) s r) (decide ((l.length : Int) ≤ 6) && allF l.length (sC s l) i)) (n := l.length)
    (ev_now (fun k => by
      simp only [impl_Road_areSensors.l0]
      rw [if_neg (by omega), allF_end, Bool.and_true]))
    (fun i hi ih => by
      rw [allF_step hi]
      have hh : Ev (fun k => impl_Road_has.f k s r [(l.getD i z58).f0]) (inR 0 (s - 1) (l.getD i z58).f0) := by
        unfold impl_Road_has.f
        rw [w64 (by omega) (by omega)]
        have := allWithin_ev [(l.getD i z58).f0] 0 (s - 1) (by simp)
        have e : inAll 0 (s - 1) [(l.getD i z58).f0] = inR 0 (s - 1) (l.getD i z58).f0 := by simp [inAll]
        rw [e] at this
        exact Ev.bind this (Ev.now _)
      refine Ev.step (f := fun k => (impl_Road_has.f k s r [(l.getD i z58).f0]).bind fun t => if t = true then (if inR 0 12 (l.getD i z58).f1 = true then impl_Road_areSensors.l0 k l l (l.length : Int) ((i + 1 : Nat) : Int) s r else some false) else some false) (fun k => ?_) (Ev.bind hh ?_)
      · simp only [impl_Road_areSensors.l0, within_eq, Option.bind_some, rdT_nat]
        rw [if_pos (by omega), if_pos (by omega), if_pos (by omega), w64s hi (by omega)]
      · by_cases hc : sC s l i
        · rw [decide_eq_true hc, Bool.true_and]
          exact ev_pos (inR_iff.2 hc.1) (ev_pos (inR_iff.2 hc.2) ih)
        · rw [decide_eq_false hc, Bool.false_and, Bool.and_false]
          by_cases h1 : inR 0 (s - 1) (l.getD i z58).f0 = true
          · exact ev_pos h1 (ev_neg (fun h2 => hc ⟨inR_iff.1 h1, inR_iff.1 h2⟩) (Ev.now _))
          · exact ev_neg h1 (Ev.now _))
  exact key 0 (by omega)

theorem isGuarded_ev (s : Int) (r : Bool) (l : List S58) (hl : l.length ≤ 1048576) : Ev (fun k => impl_isGuarded.f k s r l) (sensV s r l) := by
  unfold impl_isGuarded.f sensV
  simp only [isLine_eq, Option.bind_some]
  cases hL : lineV s r with
  | true =>
    refine ev_pos rfl ?_
    rw [Bool.true_and]
    exact Ev.bind (areSensors_ev s r l hl (line_of hL).1) (Ev.now _)
  | false => exact ev_neg (by simp) (Ev.now _)

theorem l1Most_eq (a b : Int) : spec_l1Most.f a b = some (mx a b) := by
  unfold spec_l1Most.f mx
  by_cases h : a > b
  · rw [if_pos h, if_neg (by omega)]
  · rw [if_neg h]
    by_cases h2 : a < b
    · rw [if_pos h2]
    · rw [if_neg h2]; congr 1; omega

theorem caLeast_eq (a b : Int) : spec_l1Least.f a b = some (mn a b) := by
  unfold spec_l1Least.f mn
  by_cases h : a < b
  · rw [if_pos h, if_neg (by omega)]
  · rw [if_neg h]
    by_cases h2 : b < a
    · rw [if_pos h2]
    · rw [if_neg h2]; congr 1; omega
/-- The greatest place from which a sensor sees on. -/
def plc (s d a r f : Int) : Int := mn (mn (a + d) (f + r)) (s - 1)
def plcOk (s d a r f : Int) : Prop := a - d ≤ plc s d a r f ∧ f - r ≤ plc s d a r f
instance (s d a r f : Int) : Decidable (plcOk s d a r f) := by unfold plcOk; infer_instance
theorem l9Place_eq {s d a r f : Int} (hs : 2 ≤ s ∧ s ≤ 24) (hd : 0 ≤ d ∧ d ≤ 24) (ha : 0 ≤ a ∧ a ≤ s - 1) (hr : 0 ≤ r ∧ r ≤ 12) (hf : 0 ≤ f ∧ f ≤ 36) : spec_l9Place.f s false a r f d = some (if plcOk s d a r f then plc s d a r f else -1) := by
  unfold spec_l9Place.f
  rw [w64 (x := a + d) (by omega) (by omega), w64 (x := f + r) (by omega) (by omega), w64 (x := s - 1) (by omega) (by omega), w64 (x := a - d) (by omega) (by omega), w64 (x := f - r) (by omega) (by omega)]
  simp only [caLeast_eq, Option.bind_some]
  have e : mn (mn (a + d) (f + r)) (s - 1) = plc s d a r f := rfl
  rw [e]
  by_cases h1 : plc s d a r f < a - d
  · rw [if_pos h1, if_neg (fun h : plcOk s d a r f => by have := h.1; omega)]
  · rw [if_neg h1]
    by_cases h2 : plc s d a r f < f - r
    · rw [if_pos h2, if_neg (fun h : plcOk s d a r f => by have := h.2; omega)]
    · rw [if_neg h2, if_pos (show plcOk s d a r f from ⟨by omega, by omega⟩)]
theorem plc_nn {s d a r f : Int} (hs : 2 ≤ s ∧ s ≤ 24) (hd : 0 ≤ d ∧ d ≤ 24) (ha : 0 ≤ a ∧ a ≤ s - 1) (hr : 0 ≤ r ∧ r ≤ 12) (hf : 0 ≤ f ∧ f ≤ 36) : 0 ≤ plc s d a r f ∧ plc s d a r f ≤ 23 := by
  have h2 := mn_le (a + d) (f + r)
  have h3 := mn_le (mn (a + d) (f + r)) (s - 1)
  unfold plc
  omega

theorem slicesMax_ev (l : List Int) (h0 : 0 < l.length) (hl : l.length ≤ 1048576) : Ev (fun k => slices_Max_int_int.f k l) (rmax (rd l 0) (fun j => rd l ((j + 1 : Nat) : Int)) (l.length - 1)) := by
  have key := down (P := fun i => Ev (fun k => slices_Max_int_int.l0 k l (rmax (rd l 0) (fun j => rd l ((j + 1 : Nat) : Int)) i) ((i + 1 : Nat) : Int)) (rmax (rd l 0) (fun j => rd l ((j + 1 : Nat) : Int)) (l.length - 1))) (n := l.length - 1)
    (ev_now (fun k => by simp only [slices_Max_int_int.l0]; rw [if_neg (by omega)]))
    (fun i hi ih => by
      refine Ev.step (fun k => ?_) ih
      simp only [slices_Max_int_int.l0]
      rw [if_pos (by omega), if_pos (by omega), w64s (n := l.length) (by omega) (by omega)]
      rfl)
  unfold slices_Max_int_int.f
  exact ev_neg (by omega) (ev_pos (by omega) (key 0 (by omega)))

/-- Insertion of a sensor behind all that stand at its place or before it, from the k-th on down. -/
def insK (x : S58) (l : List S58) : Nat → List S58
  | 0 => x :: l
  | k + 1 => if x.f0 < (l.getD k z58).f0 then insK x l k else l.take (k + 1) ++ x :: l.drop (k + 1)
theorem insK_len (x : S58) (l : List S58) : ∀ k, k ≤ l.length → (insK x l k).length = l.length + 1 := by
  intro k
  induction k with
  | zero => intro _; rfl
  | succ k ih =>
    intro h
    unfold insK
    split
    · exact ih (by omega)
    · rw [List.length_append, List.length_cons, List.length_take, List.length_drop]; omega
theorem insK_mem (x : S58) (l : List S58) : ∀ k y, y ∈ insK x l k → y = x ∨ y ∈ l := by
  intro k
  induction k with
  | zero => intro y h; exact List.mem_cons.1 h
  | succ k ih =>
    intro y h
    unfold insK at h
    split at h
    · exact ih y h
    · rcases List.mem_append.1 h with h | h
      · exact .inr (List.mem_of_mem_take h)
      · rcases List.mem_cons.1 h with h | h
        · exact .inl h
        · exact .inr (List.mem_of_mem_drop h)
/-- In the order of the places. -/
def byPlace (l : List S58) : Prop := l.Pairwise (fun x y => x.f0 ≤ y.f0)
theorem insK_pw (x : S58) (l : List S58) (hl : byPlace l) : ∀ k, k ≤ l.length → (∀ y ∈ l.drop k, x.f0 < y.f0) → byPlace (insK x l k) := by
  intro k
  induction k with
  | zero =>
    intro _ h
    exact List.pairwise_cons.2 ⟨fun y hy => by have := h y hy; omega, hl⟩
  | succ k ih =>
    intro hk h
    have hkl : k < l.length := by omega
    have hg : l.getD k z58 = l[k] := by simp [List.getD, hkl]
    unfold insK
    split
    · rename_i hlt
      refine ih (by omega) (fun y hy => ?_)
      rw [List.drop_eq_getElem_cons hkl] at hy
      rcases List.mem_cons.1 hy with rfl | hy
      · rw [hg] at hlt; exact hlt
      · exact h y hy
    · rename_i hlt
      rw [hg] at hlt
      have hs : (l.take (k + 1) ++ l.drop (k + 1)).Pairwise (fun x y => x.f0 ≤ y.f0) := by rw [List.take_append_drop]; exact hl
      rw [List.pairwise_append] at hs
      have htk : l.take (k + 1) = l.take k ++ [l[k]] := List.take_succ_eq_append_getElem hkl
      have hle : ∀ y ∈ l.take (k + 1), y.f0 ≤ l[k].f0 := by
        intro y hy
        have h1 := hs.1
        rw [htk, List.pairwise_append] at h1
        rw [htk] at hy
        rcases List.mem_append.1 hy with hy | hy
        · exact h1.2.2 y hy _ List.mem_cons_self
        · rw [List.mem_singleton.1 hy]; exact Int.le_refl _
      refine List.pairwise_append.2 ⟨hs.1, List.pairwise_cons.2 ⟨fun y hy => by have := h y hy; omega, hs.2.1⟩, fun y hy z hz => ?_⟩
      rcases List.mem_cons.1 hz with rfl | hz
      · have := hle y hy; omega
      · exact hs.2.2 y hy z hz
/-- The first i sensors, sorted. -/
def srtN (l : List S58) : Nat → List S58
  | 0 => []
  | i + 1 => insK (l.getD i z58) (srtN l i) i
theorem srtN_len (l : List S58) (i : Nat) : (srtN l i).length = i := by
  induction i with
  | zero => rfl
  | succ i ih => unfold srtN; rw [insK_len _ _ _ (by omega), ih]
theorem srtN_pw (l : List S58) (i : Nat) : byPlace (srtN l i) := by
  induction i with
  | zero => exact List.Pairwise.nil
  | succ i ih =>
    refine insK_pw _ _ ih i (by rw [srtN_len]; exact Nat.le_refl _) (fun y hy => ?_)
    rw [List.drop_of_length_le (by rw [srtN_len]; exact Nat.le_refl _)] at hy
    exact absurd hy List.not_mem_nil
theorem srtN_mem {l : List S58} {P : S58 → Prop} (h : ∀ j, j < l.length → P (l.getD j z58)) : ∀ i, i ≤ l.length → ∀ y ∈ srtN l i, P y := by
  intro i
  induction i with
  | zero => intro _ y hy; exact absurd hy List.not_mem_nil
  | succ i ih =>
    intro hi y hy
    rcases insK_mem _ _ _ y hy with rfl | hy
    · exact h i (by omega)
    · exact ih (by omega) y hy
/-- The greatest of the first numbers, or -1. -/
def pm (E : List Int) : Nat → Int
  | 0 => -1
  | p + 1 => mx (pm E p) (rd E (p : Int))
theorem pm_ge (E : List Int) (p q : Nat) (h : q < p) : rd E (q : Int) ≤ pm E p := by
  induction p with
  | zero => omega
  | succ p ih =>
    have := mx_ge (pm E p) (rd E (p : Int))
    unfold pm
    by_cases e : q = p
    · subst e; omega
    · have := ih (by omega); omega
theorem pm_le {E : List Int} {B : Int} (hB : -1 ≤ B) (p : Nat) (h : ∀ q, q < p → rd E (q : Int) ≤ B) : pm E p ≤ B := by
  induction p with
  | zero => exact hB
  | succ p ih =>
    have h1 := mx_ge (pm E p) (rd E (p : Int))
    have h2 := ih (fun q hq => h q (by omega))
    have h3 := h p (by omega)
    unfold pm; omega
theorem pm_lo (E : List Int) (p : Nat) : -1 ≤ pm E p := by
  induction p with
  | zero => exact Int.le_refl _
  | succ p ih => have := mx_ge (pm E p) (rd E (p : Int)); unfold pm; omega
/-- What the program makes of the place p. -/
def nxt (d a r : Int) (E : List Int) (p : Nat) : Int := if pm E (p + 1) < 0 then -1 else if d < mx (a - p) ((p : Int) - a) then -1 else if (p : Int) - r ≤ pm E (p + 1) then mx (pm E (p + 1)) ((p : Int) + r + 1) else pm E (p + 1)
def dpS (n : Nat) (d : Int) : List Int → List S58 → List Int
  | E, [] => E
  | E, x :: t => dpS n d (tab n (nxt d x.f0 x.f1 E)) t
def plv (s d a r f : Int) : Int := if plcOk s d a r f then plc s d a r f else -1
/-- The reference: the first place that is not seen, and the least place for the next sensor. -/
def grd (s d : Int) : Int → Int → List S58 → Int
  | f, _, [] => f
  | f, l, x :: t => if f < s ∧ mx l (x.f0 - d) ≤ plv s d x.f0 x.f1 f then grd s d (plv s d x.f0 x.f1 f + x.f1 + 1) (plv s d x.f0 x.f1 f) t else grd s d f (mx l (x.f0 - d)) t
structure InO (n : Nat) (d : Int) (E : List Int) (f : Int) (l : Nat) (am : Int) : Prop where
  len : E.length = n
  bd : ∀ p, p < n → -1 ≤ rd E (p : Int) ∧ rd E (p : Int) ≤ 36
  f0 : 0 ≤ f
  f1 : f ≤ 36
  ln : l < n
  la : (l : Int) ≤ am + d
  lb : (l : Int) ≤ f ∨ (l : Int) ≤ am - d
  lo : f ≤ rd E (l : Int)
  hi : (n : Int) ≤ f ∨ ∀ p, p < n → rd E (p : Int) ≤ f
theorem nxt_bd {n : Nat} {d a r : Int} {E : List Int} (hn : n ≤ 24) (hr : 0 ≤ r ∧ r ≤ 12) (h : ∀ p, p < n → -1 ≤ rd E (p : Int) ∧ rd E (p : Int) ≤ 36) (p : Nat) (hp : p < n) : -1 ≤ nxt d a r E p ∧ nxt d a r E p ≤ 36 := by
  have h1 := pm_lo E (p + 1)
  have h2 := pm_le (E := E) (B := 36) (by omega) (p + 1) (fun q hq => (h q (by omega)).2)
  have h3 := mx_ge (pm E (p + 1)) ((p : Int) + r + 1)
  unfold nxt
  (repeat' split) <;> omega
theorem plc_le (s d a r f : Int) : plc s d a r f ≤ a + d ∧ plc s d a r f ≤ f + r ∧ plc s d a r f ≤ s - 1 ∧ (plc s d a r f = a + d ∨ plc s d a r f = f + r ∨ plc s d a r f = s - 1) := by
  have h2 := mn_le (a + d) (f + r)
  have h3 := mn_le (mn (a + d) (f + r)) (s - 1)
  unfold plc
  omega
theorem InO_step {n : Nat} {d : Int} {E : List Int} {f : Int} {l : Nat} {am a r : Int} (hn : 2 ≤ n ∧ n ≤ 24) (hd : 0 ≤ d ∧ d ≤ 24) (ha : 0 ≤ a ∧ a ≤ n - 1) (hr : 0 ≤ r ∧ r ≤ 12) (hm : am ≤ a) (h : InO n d E f l am) :
    ∃ l' : Nat, (if f < n ∧ mx l (a - d) ≤ plv n d a r f then plv n d a r f else mx l (a - d)) = (l' : Int) ∧ InO n d (tab n (nxt d a r E)) (if f < n ∧ mx l (a - d) ≤ plv n d a r f then plv n d a r f + r + 1 else f) l' a := by
  have hlo := h.lo; have hln := h.ln; have hla := h.la; have hf0 := h.f0; have hf1 := h.f1; have hlb := h.lb
  have hp := plc_le n d a r f
  have hmx := mx_ge l (a - d)
  have hnb := fun p hp => nxt_bd (d := d) (a := a) hn.2 hr h.bd p hp
  by_cases hc : f < n ∧ mx l (a - d) ≤ plv n d a r f
  · rw [if_pos hc, if_pos hc]
    have hok : plcOk n d a r f := by
      by_cases ho : plcOk n d a r f
      · exact ho
      · have h2 := hc.2
        unfold plv at h2
        rw [if_neg ho] at h2
        omega
    have hv : plv n d a r f = plc n d a r f := by unfold plv; rw [if_pos hok]
    rw [hv] at hc ⊢
    have ho1 := hok.1
    have ho2 := hok.2
    obtain ⟨q, hq⟩ : ∃ q : Nat, plc n d a r f = q := ⟨(plc n d a r f).toNat, by omega⟩
    rw [hq] at hc hp ho1 ho2 ⊢
    refine ⟨q, rfl, tab_len _ _, fun p hp => by rw [tab_rd hp]; exact hnb p hp, by omega, by omega, by omega, by omega, by omega, ?_, ?_⟩
    · rw [tab_rd (by omega)]
      have hb := pm_ge E (q + 1) l (by omega)
      have hg := mx_ge (a - q) ((q : Int) - a)
      have hx := mx_ge (pm E (q + 1)) ((q : Int) + r + 1)
      unfold nxt
      rw [if_neg (by omega), if_neg (by omega), if_pos (by omega)]
      omega
    · rcases h.hi with hh | hh
      · exact absurd hh (by omega)
      · refine .inr (fun p hp' => ?_)
        rw [tab_rd hp']
        have hb := pm_le (E := E) (B := f) (by omega) (p + 1) (fun q hq => hh q (by omega))
        have hg := mx_ge (a - p) ((p : Int) - a)
        have hx := mx_ge (pm E (p + 1)) ((p : Int) + r + 1)
        unfold nxt
        (repeat' split) <;> omega
  · rw [if_neg hc, if_neg hc]
    obtain ⟨q, hq⟩ : ∃ q : Nat, mx l (a - d) = q := ⟨(mx l (a - d)).toNat, by omega⟩
    rw [hq] at hc hmx ⊢
    refine ⟨q, rfl, tab_len _ _, fun p hp => by rw [tab_rd hp]; exact hnb p hp, hf0, hf1, by omega, by omega, by omega, ?_, ?_⟩
    · rw [tab_rd (by omega)]
      have hb := pm_ge E (q + 1) l (by omega)
      have hg := mx_ge (a - q) ((q : Int) - a)
      have hx := mx_ge (pm E (q + 1)) ((q : Int) + r + 1)
      unfold nxt
      rw [if_neg (by omega), if_neg (by omega)]
      split <;> omega
    · rcases h.hi with hh | hh
      · exact .inl hh
      · by_cases hfn : (n : Int) ≤ f
        · exact .inl hfn
        refine .inr (fun p hp' => ?_)
        rw [tab_rd hp']
        have hb := pm_le (E := E) (B := f) (by omega) (p + 1) (fun q hq => hh q (by omega))
        have hg := mx_ge (a - p) ((p : Int) - a)
        have hx := mx_ge (pm E (p + 1)) ((p : Int) + r + 1)
        unfold nxt
        split
        · omega
        split
        · omega
        split
        · by_cases hle : (p : Int) + r + 1 ≤ f
          · omega
          · exfalso
            have hok : plcOk n d a r f := ⟨by omega, by omega⟩
            have hv : plv n d a r f = plc n d a r f := by unfold plv; rw [if_pos hok]
            rw [hv] at hc
            omega
        · omega
theorem dp_grd {n : Nat} {d : Int} (hn : 2 ≤ n ∧ n ≤ 24) (hd : 0 ≤ d ∧ d ≤ 24) : ∀ (t : List S58) (E : List Int) (f : Int) (l : Nat) (am : Int), byPlace t → (∀ x ∈ t, (0 ≤ x.f0 ∧ x.f0 ≤ n - 1) ∧ 0 ≤ x.f1 ∧ x.f1 ≤ 12) → (∀ x ∈ t, am ≤ x.f0) → InO n d E f l am →
    ∃ (l' : Nat) (am' : Int), InO n d (dpS n d E t) (grd n d f l t) l' am' := by
  intro t
  induction t with
  | nil => intro E f l am _ _ _ h; exact ⟨l, am, h⟩
  | cons x t ih =>
    intro E f l am hp hx hm h
    have hx0 := hx x List.mem_cons_self
    obtain ⟨l', hl', h'⟩ := InO_step hn hd hx0.1 hx0.2 (hm x List.mem_cons_self) h
    have hp2 := List.pairwise_cons.1 hp
    have := ih _ _ l' x.f0 hp2.2 (fun y hy => hx y (List.mem_cons_of_mem _ hy)) (fun y hy => hp2.1 y hy) h'
    unfold dpS grd
    by_cases hc : f < n ∧ mx l (x.f0 - d) ≤ plv n d x.f0 x.f1 f
    · rw [if_pos hc] at this hl' ⊢
      rw [hl'] at this ⊢; exact this
    · rw [if_neg hc] at this hl' ⊢
      rw [hl']; exact this
theorem dp_iff {n : Nat} {d : Int} (hn : 2 ≤ n ∧ n ≤ 24) (hd : 0 ≤ d ∧ d ≤ 24) (t : List S58) (hp : byPlace t) (hx : ∀ x ∈ t, (0 ≤ x.f0 ∧ x.f0 ≤ n - 1) ∧ 0 ≤ x.f1 ∧ x.f1 ≤ 12) :
    (dpS n d (tab n (fun q => if q = 0 then 0 else -1)) t).length = n ∧ ((∃ q, q < n ∧ (n : Int) ≤ rd (dpS n d (tab n (fun q => if q = 0 then 0 else -1)) t) (q : Int)) ↔ (n : Int) ≤ grd n d 0 0 t) := by
  have h0 : InO n d (tab n (fun q => if q = 0 then 0 else -1)) 0 0 0 := by
    refine ⟨tab_len _ _, fun p hp => ?_, by omega, by omega, by omega, by omega, by omega, ?_, .inr (fun p hp => ?_)⟩
    · rw [tab_rd hp]; split <;> omega
    · rw [tab_rd (by omega)]; simp
    · rw [tab_rd hp]; split <;> omega
  obtain ⟨l', am', h⟩ := dp_grd hn hd t _ 0 0 0 hp hx (fun x h => (hx x h).1.1) h0
  refine ⟨h.len, ?_⟩
  constructor
  · rintro ⟨q, hq, hle⟩
    rcases h.hi with hh | hh
    · exact hh
    · have := hh q hq
      exact Int.le_trans hle this
  · intro hle
    exact ⟨l', h.ln, Int.le_trans hle h.lo⟩

theorem gap_eq (s a p : Int) (h0 : 0 ≤ a ∧ a ≤ 1000000) (h1 : 0 ≤ p ∧ p ≤ 1000000) : impl_Road_gap.f s false a p = some (mx (a - p) (p - a)) := by
  unfold impl_Road_gap.f
  simp only [Bool.false_eq_true, if_false]
  rw [mx_abs (s := s) h0 h1]

theorem l1Own_eq (l : List Int) (h : l.length ≤ 1048576) : spec_l1Own.f l = some l := by
  unfold spec_l1Own.f
  simp only [Option.bind_some, List.length_nil, List.nil_append]
  rw [if_pos (by omega)]

/-- The numbers of the first i sensors, by their places. -/
def insI (l : List S58) (x : Nat) (o : List Int) : Nat → List Int
  | 0 => (x : Int) :: o
  | k + 1 => if (l.getD x z58).f0 < (rd_T58 l (rd o (k : Int))).f0 then insI l x o k else o.take (k + 1) ++ (x : Int) :: o.drop (k + 1)
def ordN (l : List S58) : Nat → List Int
  | 0 => []
  | i + 1 => insI l i (ordN l i) i
theorem insI_map (l : List S58) (x : Nat) (o : List Int) : ∀ k, k ≤ o.length → (insI l x o k).map (rd_T58 l) = insK (l.getD x z58) (o.map (rd_T58 l)) k ∧ (insI l x o k).length = o.length + 1 ∧ ∀ y ∈ insI l x o k, y = (x : Int) ∨ y ∈ o := by
  intro k
  induction k with
  | zero => intro _; exact ⟨rfl, rfl, fun y h => List.mem_cons.1 h⟩
  | succ k ih =>
    intro h
    have hk : k < o.length := by omega
    have e : (o.map (rd_T58 l)).getD k z58 = rd_T58 l (rd o (k : Int)) := by
      rw [List.getD_eq_getElem?_getD, List.getElem?_map, List.getElem?_eq_getElem hk]
      simp [rd, List.getD, hk]
    unfold insI insK
    rw [e]
    split
    · exact ih (by omega)
    · refine ⟨by rw [List.map_append, List.map_cons, List.map_take, List.map_drop]; rfl, by rw [List.length_append, List.length_cons, List.length_take, List.length_drop]; omega, fun y hy => ?_⟩
      rcases List.mem_append.1 hy with hy | hy
      · exact .inr (List.mem_of_mem_take hy)
      · rcases List.mem_cons.1 hy with hy | hy
        · exact .inl hy
        · exact .inr (List.mem_of_mem_drop hy)
theorem ordN_ok (l : List S58) (i : Nat) : (ordN l i).map (rd_T58 l) = srtN l i ∧ (ordN l i).length = i ∧ ∀ y ∈ ordN l i, 0 ≤ y ∧ y < (i : Int) := by
  induction i with
  | zero => exact ⟨rfl, rfl, fun y h => absurd h List.not_mem_nil⟩
  | succ i ih =>
    obtain ⟨h1, h2, h3⟩ := ih
    obtain ⟨g1, g2, g3⟩ := insI_map l i (ordN l i) i (by omega)
    unfold ordN srtN
    refine ⟨by rw [g1, h1], by rw [g2, h2], fun y hy => ?_⟩
    rcases g3 y hy with e | e
    · omega
    · have := h3 y e; omega
set_option maxHeartbeats 4000000 in
theorem l9Sorted_ev (l : List S58) (hl : l.length ≤ 1000) : Ev (fun k => spec_l9Sorted.f k l) (ordN l l.length) := by
  unfold spec_l9Sorted.f
  have key := down (P := fun i => Ev (fun k => spec_l9Sorted.l0 k l (ordN l i) (i : Int)) (ordN l l.length)) (n := l.length)
    (ev_now (fun k => by simp only [spec_l9Sorted.l0]; rw [if_neg (by omega)]))
    (fun i hi ih => by
      obtain ⟨h1, h2, h3⟩ := ordN_ok l i
      have inner : ∀ q, q ≤ i → insI l i (ordN l i) q = ordN l (i + 1) → Ev (fun k => spec_l9Sorted.l1 k l (ordN l i) (i : Int) (q : Int)) (ordN l l.length) := by
        intro q
        induction q with
        | zero =>
          intro _ he
          refine Ev.step (fun k => ?_) ih
          simp only [spec_l9Sorted.l1, Option.bind_some, List.nil_append, List.length_nil, Nat.zero_add]
          rw [if_neg (by omega), if_pos (by omega), if_pos (by omega)]
          simp only [l1Own_eq _ (show ((ordN l i).take ((0 : Nat) : Int).toNat).length ≤ 1048576 by rw [List.length_take]; omega), Option.bind_some]
          rw [if_pos (by simp), if_pos (by simp; omega), w64s hi (by omega), ← he]
          simp [insI]
        | succ q ihq =>
          intro hq he
          have hm : rd (ordN l i) (q : Int) ∈ ordN l i := mem_of_rd (by omega)
          have hb := h3 _ hm
          have e1 : wrap64 (((q + 1 : Nat) : Int) - 1) = (q : Int) := by rw [w64 (by omega) (by omega)]; omega
          have hgi : rd_T58 l (i : Int) = l.getD i z58 := rfl
          by_cases hlt : (l.getD i z58).f0 < (rd_T58 l (rd (ordN l i) (q : Int))).f0
          · have he' : insI l i (ordN l i) q = ordN l (i + 1) := by rw [← he]; exact (if_pos hlt).symm
            refine Ev.step (fun k => ?_) (ihq (by omega) he')
            simp only [spec_l9Sorted.l1, e1, hgi]
            rw [if_pos (by omega), if_pos (by omega), if_pos (by omega), if_pos (by omega), if_pos (by omega), if_pos (by omega), if_pos (by omega), if_pos hlt]
          · have he' : (ordN l i).take (q + 1) ++ (i : Int) :: (ordN l i).drop (q + 1) = ordN l (i + 1) := by rw [← he]; exact (if_neg hlt).symm
            refine Ev.step (fun k => ?_) ih
            simp only [spec_l9Sorted.l1, e1, hgi]
            rw [if_pos (by omega), if_pos (by omega), if_pos (by omega), if_pos (by omega), if_pos (by omega), if_pos (by omega), if_pos (by omega), if_neg hlt, if_pos (by omega), if_pos (by omega)]
            simp only [Int.toNat_natCast, l1Own_eq _ (show ((ordN l i).take (q + 1)).length ≤ 1048576 by rw [List.length_take]; omega), Option.bind_some]
            rw [if_pos (by simp; omega), if_pos (by simp; omega), w64s hi (by omega), ← he']
            simp
      refine Ev.step (fun k => ?_) (inner i (Nat.le_refl _) rfl)
      simp only [spec_l9Sorted.l0, h2]
      rw [if_pos (by omega)])
  exact key 0 (by omega)
theorem srtN_getD {l : List S58} {m i : Nat} (h : i < m) : (srtN l m).getD i z58 = rd_T58 l (rd (ordN l m) (i : Int)) := by
  obtain ⟨h1, h2, h3⟩ := ordN_ok l m
  rw [← h1, List.getD_eq_getElem?_getD, List.getElem?_map, List.getElem?_eq_getElem (by omega)]
  simp [rd, List.getD, h2, h]
def okS1 (n : Nat) (x : S58) : Prop := (0 ≤ x.f0 ∧ x.f0 ≤ n - 1) ∧ 0 ≤ x.f1 ∧ x.f1 ≤ 12
theorem srtN_ok {n : Nat} {l : List S58} (hv : sensV (n : Int) false l = true) : ∀ y ∈ srtN l l.length, okS1 n y :=
  srtN_mem (P := okS1 n) (sens_of hv).2.2 l.length (Nat.le_refl _)
theorem getD_mem' {l : List S58} {i : Nat} (h : i < l.length) : l.getD i z58 ∈ l := by
  rw [List.getD_eq_getElem?_getD, List.getElem?_eq_getElem h]
  exact List.getElem_mem _
set_option maxHeartbeats 4000000 in
theorem l9InOrder_ev {n : Nat} {d : Int} {l : List S58} (hv : sensV (n : Int) false l = true) (hd : 0 ≤ d ∧ d ≤ 24) : Ev (fun k => spec_l9InOrder.f k (n : Int) false l (ordN l l.length) d) (decide ((n : Int) ≤ grd n d 0 0 (srtN l l.length))) := by
  have h := sens_of hv
  have hs := h.1.1
  obtain ⟨h1, h2, h3⟩ := ordN_ok l l.length
  unfold spec_l9InOrder.f
  have hlen := srtN_len l l.length
  have key := down (P := fun i => ∀ f b : Int, 0 ≤ f → f ≤ 36 → 0 ≤ b → b ≤ n - 1 → Ev (fun k => spec_l9InOrder.l0 k l (ordN l l.length) d f b (i : Int) (n : Int) false) (decide ((n : Int) ≤ grd n d f b ((srtN l l.length).drop i)))) (n := l.length)
    (fun f b _ _ _ _ => ev_now (fun k => by
      simp only [spec_l9InOrder.l0]
      rw [if_neg (by omega), List.drop_of_length_le (by omega)]
      rfl))
    (fun i hi ih f b hf0 hf1 hb0 hb1 => by
      have hm : rd (ordN l l.length) (i : Int) ∈ ordN l l.length := mem_of_rd (by omega)
      have hb := h3 _ hm
      have hx : (srtN l l.length).getD i z58 = rd_T58 l (rd (ordN l l.length) (i : Int)) := srtN_getD hi
      have hsc := srtN_ok hv ((srtN l l.length).getD i z58) (getD_mem' (by omega))
      rw [drop_consG z58 (by omega)]
      obtain ⟨x, hg⟩ : ∃ x, rd_T58 l (rd (ordN l l.length) (i : Int)) = x := ⟨_, rfl⟩
      rw [hx, hg] at hsc ⊢
      unfold okS1 at hsc
      have hp := plc_le n d x.f0 x.f1 f
      have hmx := mx_ge b (x.f0 - d)
      have e1 : wrap64 (x.f0 - d) = x.f0 - d := w64 (by omega) (by omega)
      have e2 : spec_l9Place.f (n : Int) false x.f0 x.f1 f d = some (plv n d x.f0 x.f1 f) := l9Place_eq hs hd hsc.1 hsc.2 ⟨hf0, hf1⟩
      have hpv : plv n d x.f0 x.f1 f = plc n d x.f0 x.f1 f ∨ plv n d x.f0 x.f1 f = -1 := by unfold plv; split <;> simp
      have eg : grd n d f b (x :: (srtN l l.length).drop (i + 1)) = if f < n ∧ mx b (x.f0 - d) ≤ plv n d x.f0 x.f1 f then grd n d (plv n d x.f0 x.f1 f + x.f1 + 1) (plv n d x.f0 x.f1 f) ((srtN l l.length).drop (i + 1)) else grd n d f (mx b (x.f0 - d)) ((srtN l l.length).drop (i + 1)) := rfl
      rw [eg]
      by_cases hfn : f < n
      · by_cases hpl : mx b (x.f0 - d) ≤ plv n d x.f0 x.f1 f
        · rw [if_pos ⟨hfn, hpl⟩]
          refine Ev.step (fun k => ?_) (ih (plv n d x.f0 x.f1 f + x.f1 + 1) (plv n d x.f0 x.f1 f) (by omega) (by omega) (by omega) (by omega))
          simp only [spec_l9InOrder.l0, hg, l1Most_eq, e1, e2, Option.bind_some]
          rw [if_pos (by omega), if_pos (by omega), if_pos (by omega), if_pos (by omega), if_pos hfn, if_pos (by omega), w64s hi (by omega), w64 (x := plv n d x.f0 x.f1 f + x.f1) (by omega) (by omega), w64 (by omega) (by omega)]
        · rw [if_neg (fun c => hpl c.2)]
          refine Ev.step (fun k => ?_) (ih f (mx b (x.f0 - d)) hf0 hf1 (by omega) (by omega))
          simp only [spec_l9InOrder.l0, hg, l1Most_eq, e1, e2, Option.bind_some]
          rw [if_pos (by omega), if_pos (by omega), if_pos (by omega), if_pos (by omega), if_pos hfn, if_neg (by omega), w64s hi (by omega)]
      · rw [if_neg (fun c => hfn c.1)]
        refine Ev.step (fun k => ?_) (ih f (mx b (x.f0 - d)) hf0 hf1 (by omega) (by omega))
        simp only [spec_l9InOrder.l0, hg, l1Most_eq, e1, e2, Option.bind_some]
        rw [if_pos (by omega), if_pos (by omega), if_pos (by omega), if_pos (by omega), if_neg hfn, w64s hi (by omega)])
  have := key 0 (by omega) 0 0 (by omega) (by omega) (by omega) (by omega)
  simpa using this
/-! the program's sort -/
theorem at_mid (A : List S58) (x : S58) (B : List S58) : rd_T58 (A ++ x :: B) (A.length : Int) = x := by
  show (A ++ x :: B).getD (A.length : Int).toNat z58 = x
  simp [List.getD]
theorem set_midS (A : List S58) (x v : S58) (B : List S58) : (A ++ x :: B).set A.length v = A ++ v :: B := by
  rw [List.set_append_right _ _ (Nat.le_refl _)]; simp
theorem swap_midS (A : List S58) (x y : S58) (B : List S58) : ((A ++ y :: x :: B).set (A.length + 1) y).set A.length x = A ++ x :: y :: B := by
  have h : A ++ y :: x :: B = (A ++ [y]) ++ x :: B := by simp
  rw [h, show A.length + 1 = (A ++ [y]).length by simp, set_midS, List.append_assoc, List.singleton_append, set_midS]
set_option maxHeartbeats 4000000 in
theorem insertS_ev (n i : Int) (r : List S58) (x : S58) (O : List S58) (hx : 0 ≤ x.f0 ∧ x.f0 ≤ 1000) (hO : ∀ y ∈ O, 0 ≤ y.f0 ∧ y.f0 ≤ 1000) (C : List S58) (hb : O.length + C.length + 1 ≤ 1048576) (N : Nat) (hN : insK x O N ++ C = insK x O N ++ C)
    (h : Ev (fun k => impl_Sensor_87.l0 k (insK x O N ++ C) 0 n (wrap64 (i + 1))) r) : ∀ q, q ≤ O.length → insK x O q = insK x O N →
    Ev (fun k => impl_Sensor_87.l1 k (O.take q ++ x :: (O.drop q ++ C)) 0 n i (q : Int)) r := by
  intro q
  induction q with
  | zero =>
    intro _ he
    refine Ev.step (fun k => ?_) h
    simp only [impl_Sensor_87.l1]
    rw [if_neg (by omega), ← he]
    simp [insK]
  | succ q ih =>
    intro hq he
    have hqO : q < O.length := by omega
    have ht : O.take (q + 1) = O.take q ++ [O.getD q z58] := by
      rw [List.take_succ_eq_append_getElem hqO]; congr 1; simp [List.getD, hqO]
    have hdr : O.drop q = O.getD q z58 :: O.drop (q + 1) := drop_consG z58 hqO
    have hA : (O.take q).length = q := by rw [List.length_take]; omega
    have hD : (O.drop (q + 1)).length = O.length - (q + 1) := List.length_drop
    have hy := hO _ (getD_mem' hqO)
    have e0 : O.take (q + 1) ++ x :: (O.drop (q + 1) ++ C) = O.take q ++ O.getD q z58 :: x :: (O.drop (q + 1) ++ C) := by rw [ht]; simp
    have e1 : rd_T58 (O.take q ++ O.getD q z58 :: x :: (O.drop (q + 1) ++ C)) ((q + 1 : Nat) : Int) = x := by
      have := at_mid (O.take q ++ [O.getD q z58]) x (O.drop (q + 1) ++ C)
      rw [List.length_append, List.length_singleton, hA, List.append_assoc] at this
      exact this
    have e2 : rd_T58 (O.take q ++ O.getD q z58 :: x :: (O.drop (q + 1) ++ C)) (q : Int) = O.getD q z58 := by
      have := at_mid (O.take q) (O.getD q z58) (x :: (O.drop (q + 1) ++ C))
      rw [hA] at this; exact this
    have e3 : wrap64 (((q + 1 : Nat) : Int) - 1) = (q : Int) := by rw [w64 (by omega) (by omega)]; omega
    have hlen : (O.take q ++ O.getD q z58 :: x :: (O.drop (q + 1) ++ C)).length = O.length + C.length + 1 := by simp [hA, hD]; omega
    have e4 : impl_placeCmp.f x.f0 x.f1 (O.getD q z58).f0 (O.getD q z58).f1 = some (x.f0 - (O.getD q z58).f0) := by unfold impl_placeCmp.f; rw [w64 (by omega) (by omega)]
    have es : (⟨x.f0, x.f1⟩ : S58) = x := rfl
    have ey : (⟨(O.getD q z58).f0, (O.getD q z58).f1⟩ : S58) = O.getD q z58 := rfl
    rw [e0]
    by_cases hlt : x.f0 < (O.getD q z58).f0
    · have he' : insK x O q = insK x O N := by rw [← he]; exact (if_pos hlt).symm
      have h2 := ih (by omega) he'
      rw [hdr] at h2
      refine Ev.step (fun k => ?_) h2
      simp only [impl_Sensor_87.l1, e1, e2, e3, e4, es, ey, hlen, Option.bind_some, Int.toNat_natCast]
      rw [if_pos (by omega), if_pos (by omega), if_pos (by omega), if_pos (by omega), if_pos (by omega), if_pos (by omega)]
      have := swap_midS (O.take q) x (O.getD q z58) (O.drop (q + 1) ++ C)
      rw [hA] at this
      rw [this]; simp
    · have he' : O.take (q + 1) ++ x :: O.drop (q + 1) = insK x O N := by rw [← he]; exact (if_neg hlt).symm
      refine Ev.step (fun k => ?_) h
      simp only [impl_Sensor_87.l1, e1, e2, e3, e4, es, ey, hlen, Option.bind_some]
      rw [if_pos (by omega), if_pos (by omega), if_pos (by omega), if_pos (by omega), if_pos (by omega), if_neg (by omega), ← he', ← e0]
      simp
theorem insSort_ev (l : List S58) (hl : l.length ≤ 1000) (hb : ∀ j, j < l.length → 0 ≤ (l.getD j z58).f0 ∧ (l.getD j z58).f0 ≤ 1000) (a3 : Int) : Ev (fun k => impl_Sensor_87.f k l 0 (l.length : Int) a3) (srtN l l.length) := by
  have key := down (P := fun i => Ev (fun k => impl_Sensor_87.l0 k (srtN l i ++ l.drop i) 0 (l.length : Int) (i : Int)) (srtN l l.length)) (n := l.length)
    (ev_now (fun k => by simp only [impl_Sensor_87.l0]; rw [if_neg (by omega), List.drop_length, List.append_nil]))
    (fun i hi ih => by
      have hO := srtN_mem (P := fun y => 0 ≤ y.f0 ∧ y.f0 ≤ 1000) hb i (by omega)
      have hOl := srtN_len l i
      have hd : l.drop i = l.getD i z58 :: l.drop (i + 1) := drop_consG z58 hi
      have hdl : (l.drop (i + 1)).length = l.length - (i + 1) := List.length_drop
      have h2 := insertS_ev (l.length : Int) (i : Int) (srtN l l.length) (l.getD i z58) (srtN l i) (hb i hi) hO (l.drop (i + 1)) (by omega) i rfl (by rw [w64s hi (by omega)]; exact ih) i (by omega) rfl
      rw [List.take_of_length_le (by omega), List.drop_of_length_le (by omega), List.nil_append, ← hd] at h2
      refine Ev.step (fun k => ?_) h2
      simp only [impl_Sensor_87.l0]
      rw [if_pos (by omega)])
  unfold impl_Sensor_87.f
  rw [show wrap64 ((0 : Int) + 1) = ((1 : Nat) : Int) by rw [w64 (by omega) (by omega)]; rfl]
  rcases Nat.lt_or_ge l.length 1 with h0 | h0
  · obtain rfl := List.length_eq_zero_iff.1 (Nat.lt_one_iff.1 h0)
    refine ev_now (fun k => ?_)
    simp only [impl_Sensor_87.l0]
    rw [if_neg (by simp)]
    rfl
  · have k1 := key 1 h0
    have e : srtN l 1 ++ l.drop 1 = l := by
      obtain ⟨x, t, rfl⟩ := List.exists_cons_of_length_pos h0
      rfl
    rw [e] at k1
    exact k1
theorem sortS_ev (l : List S58) (hl : l.length ≤ 6) (hb : ∀ j, j < l.length → 0 ≤ (l.getD j z58).f0 ∧ (l.getD j z58).f0 ≤ 1000) (a : Int) : Ev (fun k => impl_Sensor_64.f k l a) (srtN l l.length) := by
  unfold impl_Sensor_64.f
  refine Ev.bind (f := fun _ t => some t) ?_ (Ev.now _)
  unfold impl_Sensor_83.f
  refine Ev.step (f := fun k => (impl_Sensor_87.f k l 0 (l.length : Int) a).bind fun t => impl_Sensor_83.l1 k t (l.length : Int) 20) (fun k => by simp only [impl_Sensor_83.l0]; rw [if_neg (by omega)]) (Ev.bind (insSort_ev l (by omega) hb a) ?_)
  exact ev_now (fun k => by simp only [impl_Sensor_83.l1]; rw [if_neg (by omega)])
theorem rep_eq (k : Nat) (v : Int) (n : Nat) (h : n ≤ 24) : slices_Repeat_int_int.f k [v] (n : Int) = some (List.replicate n v) := by
  show (if 0 ≤ (n : Int) ∧ (n : Int) ≤ 24 then some (List.replicate (n : Int).toNat v) else none) = _
  rw [if_pos (by omega), Int.toNat_natCast]
def resE (n : Nat) (E : List Int) : Bool := decide ((n : Int) ≤ rmax (rd E 0) (fun j => rd E ((j + 1 : Nat) : Int)) (n - 1))
set_option maxHeartbeats 4000000 in
theorem canLoop_ev {n : Nat} {d : Int} (hs : 2 ≤ n ∧ n ≤ 24) (hd : 0 ≤ d ∧ d ≤ 24) (S : List S58) (hS : ∀ x ∈ S, okS1 n x) (hm : S.length ≤ 1000) : ∀ i, i ≤ S.length → ∀ E : List Int, E.length = n → Ev (fun k => impl_CanInOrder.l0 k d E S (S.length : Int) (i : Int) (n : Int) false) (resE n (dpS n d E (S.drop i)), true) := by
  refine down (P := fun i => ∀ E : List Int, E.length = n → Ev (fun k => impl_CanInOrder.l0 k d E S (S.length : Int) (i : Int) (n : Int) false) (resE n (dpS n d E (S.drop i)), true)) (n := S.length) ?_ ?_
  · intro E hE
    refine Ev.step (f := fun k => (slices_Max_int_int.f k E).bind fun t => some (decide (t ≥ (n : Int)), true)) (fun k => by simp only [impl_CanInOrder.l0]; rw [if_neg (by omega)]) (Ev.bind (slicesMax_ev E (by omega) (by omega)) ?_)
    rw [List.drop_of_length_le (Nat.le_refl _), hE]
    exact Ev.now _
  · intro i hi ih E hE
    rw [drop_consG z58 hi]
    have hx := hS _ (getD_mem' hi)
    obtain ⟨x, hg⟩ : ∃ x, S.getD i z58 = x := ⟨_, rfl⟩
    have hg' : rd_T58 S (i : Int) = x := hg
    rw [hg] at hx ⊢
    unfold okS1 at hx
    have key := down (P := fun p => Ev (fun k => impl_CanInOrder.l1 k d E (tab n (fun q => if q < p then nxt d x.f0 x.f1 E q else -1)) (pm E p) S (S.length : Int) (i : Int) (n : Int) (p : Int) (n : Int) false x.f0 x.f1) (resE n (dpS n d E (x :: S.drop (i + 1))), true)) (n := n)
      (by
        have h2 := ih (tab n (nxt d x.f0 x.f1 E)) (tab_len _ _)
        refine Ev.step (fun k => ?_) h2
        simp only [impl_CanInOrder.l1]
        rw [if_neg (by omega), w64s hi (by omega)]
        congr 1
        exact tab_congr (fun q hq => by rw [if_pos hq]))
      (fun p hp ihp => by
        have hpm : mx (pm E p) (rd E (p : Int)) = pm E (p + 1) := rfl
        have hgp := gap_eq (n : Int) x.f0 (p : Int) (by omega) (by omega)
        have hl : (tab n (fun q => if q < p then nxt d x.f0 x.f1 E q else -1)).length = n := tab_len _ _
        have hsame : nxt d x.f0 x.f1 E p = -1 → tab n (fun q => if q < p then nxt d x.f0 x.f1 E q else -1) = tab n (fun q => if q < p + 1 then nxt d x.f0 x.f1 E q else -1) := fun hn => tab_congr (fun q _ => by
          by_cases c : q < p
          · rw [if_pos c, if_pos (by omega)]
          · rw [if_neg c]
            by_cases c2 : q = p
            · subst c2; rw [if_pos (by omega), hn]
            · rw [if_neg (by omega)])
        have hset : ∀ v, nxt d x.f0 x.f1 E p = v → (tab n (fun q => if q < p then nxt d x.f0 x.f1 E q else -1)).set p v = tab n (fun q => if q < p + 1 then nxt d x.f0 x.f1 E q else -1) := fun v hn => by
          rw [tab_set]
          refine tab_congr (fun q _ => ?_)
          by_cases c2 : q = p
          · subst c2; rw [if_pos rfl, if_pos (by omega), hn]
          · rw [if_neg c2]
            by_cases c : q < p
            · rw [if_pos c, if_pos (by omega)]
            · rw [if_neg c, if_neg (by omega)]
        by_cases c1 : pm E (p + 1) < 0
        · have hn : nxt d x.f0 x.f1 E p = -1 := by unfold nxt; rw [if_pos c1]
          rw [← hsame hn] at ihp
          refine Ev.step (f := fun k => impl_CanInOrder.j3 k d E (tab n (fun q => if q < p then nxt d x.f0 x.f1 E q else -1)) (pm E (p + 1)) (p : Int) S (S.length : Int) (i : Int) (n : Int) (p : Int) true (n : Int) false x.f0 x.f1) (fun k => ?_) (Ev.step (fun k => by simp only [impl_CanInOrder.j3]; rw [if_pos True.intro, w64s hp (by omega)]) ihp)
          simp only [impl_CanInOrder.l1, hpm]
          rw [if_pos (by omega), if_pos (by omega), if_pos (by omega), if_pos c1]
        · refine Ev.step (f := fun k => impl_CanInOrder.j3 k d E (tab n (fun q => if q < p then nxt d x.f0 x.f1 E q else -1)) (pm E (p + 1)) (p : Int) S (S.length : Int) (i : Int) (n : Int) (p : Int) (decide (mx (x.f0 - p) ((p : Int) - x.f0) > d)) (n : Int) false x.f0 x.f1) (fun k => ?_) ?_
          · simp only [impl_CanInOrder.l1, hpm, hgp, Option.bind_some]
            rw [if_pos (by omega), if_pos (by omega), if_pos (by omega), if_neg c1]
          · by_cases c2 : mx (x.f0 - p) ((p : Int) - x.f0) > d
            · have hn : nxt d x.f0 x.f1 E p = -1 := by unfold nxt; rw [if_neg c1, if_pos c2]
              rw [← hsame hn] at ihp
              exact Ev.step (fun k => by simp only [impl_CanInOrder.j3]; rw [if_pos (decide_eq_true c2), w64s hp (by omega)]) ihp
            · by_cases c3 : (p : Int) - x.f1 ≤ pm E (p + 1)
              · have hn : nxt d x.f0 x.f1 E p = mx (pm E (p + 1)) ((p : Int) + x.f1 + 1) := by unfold nxt; rw [if_neg c1, if_neg c2, if_pos c3]
                rw [← hset _ hn] at ihp
                refine Ev.step (fun k => ?_) ihp
                simp only [impl_CanInOrder.j3, Option.bind_some, Int.toNat_natCast, hl]
                rw [if_neg (by rw [decide_eq_false c2]; decide), if_pos (by omega), if_pos (by omega), w64 (x := (p : Int) - x.f1) (by omega) (by omega), if_pos c3, w64s hp (by omega), w64 (x := (p : Int) + x.f1) (by omega) (by omega), w64 (by omega) (by omega)]
                congr 1
                simp [List.set_set]
              · have hn : nxt d x.f0 x.f1 E p = pm E (p + 1) := by unfold nxt; rw [if_neg c1, if_neg c2, if_neg c3]
                rw [← hset _ hn] at ihp
                refine Ev.step (fun k => ?_) ihp
                simp only [impl_CanInOrder.j3, Option.bind_some, Int.toNat_natCast, hl]
                rw [if_neg (by rw [decide_eq_false c2]; decide), if_pos (by omega), if_pos (by omega), w64 (x := (p : Int) - x.f1) (by omega) (by omega), if_neg c3, w64s hp (by omega)])
    have k0 := key 0 (by omega)
    have e0 : tab n (fun q => if q < 0 then nxt d x.f0 x.f1 E q else -1) = List.replicate n (-1) := by
      rw [tab_rep]
      exact tab_congr (fun q _ => by rw [if_neg (by omega)])
    rw [e0] at k0
    refine Ev.step (fun k => ?_) k0
    simp only [impl_CanInOrder.l0, rep_eq _ _ n hs.2, Option.bind_some, hg']
    rw [if_pos (by omega), if_pos (by omega), if_pos (by omega)]
    rfl
def inOrdB (s d : Int) (l : List S58) : Bool := decide (s ≤ grd s d 0 0 (srtN l l.length))
theorem resE_eq {n : Nat} {d : Int} {l : List S58} (hv : sensV (n : Int) false l = true) (hd : 0 ≤ d ∧ d ≤ 24) : resE n (dpS n d (tab n (fun q => if q = 0 then 0 else -1)) (srtN l l.length)) = inOrdB (n : Int) d l := by
  have h := sens_of hv
  have hs := h.1.1
  obtain ⟨hl, hiff⟩ := dp_iff (n := n) (by omega) hd (srtN l l.length) (srtN_pw l l.length) (srtN_ok hv)
  unfold resE inOrdB
  rw [Bool.eq_iff_iff, decide_eq_true_iff, decide_eq_true_iff, ← hiff]
  generalize dpS n d (tab n (fun q => if q = 0 then 0 else -1)) (srtN l l.length) = E at *
  constructor
  · intro hle
    rcases rmax_mem (rd E 0) (fun j => rd E ((j + 1 : Nat) : Int)) (n - 1) with e | ⟨j, hj, e⟩
    · exact ⟨0, by omega, by rw [e] at hle; exact hle⟩
    · exact ⟨j + 1, by omega, by rw [e] at hle; exact hle⟩
  · rintro ⟨q, hq, hle⟩
    have := rmax_ge (rd E 0) (fun j => rd E ((j + 1 : Nat) : Int)) (n - 1)
    cases q with
    | zero => exact Int.le_trans hle this.1
    | succ q => exact Int.le_trans hle (this.2 q (by omega))
def askO (s : Int) (r : Bool) (l : List S58) (d : Int) : Bool := sensV s r l && inR 0 24 d
def inOrdR (s : Int) (r : Bool) (l : List S58) (d : Int) : Bool × Bool := if askO s r l d = true then (inOrdB s d l, true) else (false, false)
theorem specInOrd_ev (s : Int) (r : Bool) (l : List S58) (d : Int) (hl : l.length ≤ 1048576) : Ev (fun k => spec_CanInOrder.f k s r l d) (inOrdR s r l d) := by
  have ha : Ev (fun k => spec_l9Asks.f k s r l d) (askO s r l d) := by
    unfold spec_l9Asks.f askO
    refine Ev.bind (l9Sensors_ev s r l hl) ?_
    simp only [l1In_eq, Option.bind_some]
    cases sensV s r l with
    | true => exact ev_pos rfl (Ev.now _)
    | false => exact ev_neg (by simp) (Ev.now _)
  unfold spec_CanInOrder.f inOrdR
  refine Ev.bind ha ?_
  cases hv : askO s r l d with
  | true =>
    have h := hv
    unfold askO at h
    rw [Bool.and_eq_true, inR_iff] at h
    have h6 := sens_of h.1
    obtain ⟨n, rfl⟩ : ∃ n : Nat, s = n := ⟨s.toNat, by omega⟩
    have hr := h6.1.2
    subst hr
    exact ev_pos rfl (Ev.bind (l9Sorted_ev l (by omega)) (Ev.bind (l9InOrder_ev h.1 h.2) (Ev.now _)))
  | false => exact ev_neg (by simp) (Ev.now _)
theorem implInOrd_ev (s : Int) (r : Bool) (l : List S58) (d : Int) (hl : l.length ≤ 1048576) : Ev (fun k => impl_CanInOrder.f k s r l d) (inOrdR s r l d) := by
  unfold impl_CanInOrder.f inOrdR askO
  simp only [impl_isMove.f, within_eq, Option.bind_some]
  refine Ev.bind (isGuarded_ev s r l hl) ?_
  cases hv : sensV s r l with
  | true =>
    have h6 := sens_of hv
    obtain ⟨n, rfl⟩ : ∃ n : Nat, s = n := ⟨s.toNat, by omega⟩
    have hr := h6.1.2
    subst hr
    refine ev_pos rfl ?_
    cases hd : inR 0 24 d with
    | true =>
      have hd' := inR_iff.1 hd
      rw [if_pos (by rfl)]
      have hc : impl_Sensor_63.f l = some l := by
        unfold impl_Sensor_63.f
        simp only [Option.bind_some, List.length_nil, List.nil_append]
        rw [if_pos (by omega)]
      refine Ev.step (f := fun k => (impl_Sensor_64.f k l 0).bind fun t => impl_CanInOrder.l0 k d (tab n (fun q => if q = 0 then 0 else -1)) t (l.length : Int) 0 (n : Int) false) (fun k => ?_) (Ev.bind (sortS_ev l h6.2.1 (fun j hj => by have := (h6.2.2 j hj).1; omega) 0) ?_)
      · simp only [impl_CanInOrder.j0, hc, Option.bind_some, rep_eq _ _ n (by omega)]
        rw [if_neg (by decide)]
        congr 1
        funext t
        rw [if_pos (by simp; omega), tab_rep, tab_set]
        congr 1
      · have := canLoop_ev (n := n) (by omega) hd' (srtN l l.length) (srtN_ok hv) (by rw [srtN_len]; omega) 0 (by omega) (tab n (fun q => if q = 0 then 0 else -1)) (tab_len _ _)
        rw [srtN_len] at this
        rw [List.drop_zero, resE_eq hv hd'] at this
        exact this
    | false =>
      rw [if_neg (by simp)]
      exact ev_now (fun k => by simp only [impl_CanInOrder.j0]; rw [if_pos (by rfl)])
  | false =>
    refine ev_neg (by simp) ?_
    rw [if_neg (by simp)]
    exact ev_now (fun k => by simp only [impl_CanInOrder.j0]; rw [if_pos True.intro])

theorem FnExactCanInOrder : FnExactCanInOrderLeft := by
  intro s r l0 d _ hm _ _
  refine Ev.rounds (g := fun k => laws_FnExactCanInOrder.f k s r l0 d) ?_
  unfold laws_FnExactCanInOrder.f
  refine ev_bind0 (szSensorS_eq l0 hm) ?_
  by_cases h : 1048576 - (l0.length : Int) < 0
  · rw [if_pos h]; exact ev_pos (by omega) (Ev.now _)
  rw [if_neg h]
  refine ev_neg h ?_
  have hl0 : l0.length ≤ 1048576 := by omega
  have hl : (cvS l0).length ≤ 1048576 := by rw [cvS_len]; exact hl0
  repeat (first
    | exact Ev.now _
    | (with_reducible refine Ev.bind (toSensorS_ev _ hl0) ?_; try dsimp only)
    | (with_reducible refine Ev.bind (specInOrd_ev _ _ _ _ hl) ?_; try dsimp only)
    | (with_reducible refine Ev.bind (implInOrd_ev _ _ _ _ hl) ?_; try dsimp only)
    | (with_reducible refine Ev.bind (eqSensorS_self _ (by omega)) ?_; try dsimp only)
    | (refine ev_bind0 (toRoad_eq _ _) ?_; try dsimp only)
    | (refine ev_pos (by first | exact True.intro | rfl | assumption | omega) ?_; try dsimp only)
    | (refine ev_neg (by first | (simp; done) | omega) ?_; try dsimp only)
    | (refine Ev.step (fun k => by simp only [laws_FnExactCanInOrder.j0]; rfl) ?_))

end Go.Proofs.Ytanfamfgdgcjpaa.Pure
