/- FnExactExtraRange: the left statement: for every road, list of carriers and numbers the law answers true. No condition. -/
import Derived.Test.YthagkpoinjpmfaaQFnExactExtraRangex8
import Derived.Test.YthagkpoinjpmfaaBase
import Derived.Test.YthagkpoinjpmfaaBits
namespace Go.Proofs.Ythagkpoinjpmfaa.Pure
open Go.RowKit Go.Proofs.Ythagkpoinjpmfaa.QFnExactExtraRange Go.Proofs.YthagkpoinjpmfaaW.PrintWords Go.Proofs.YthagkpoinjpmfaaW.PrintLast Go.Proofs.Ythagkpoinjpmfaa.Base
set_option linter.unusedVariables false
set_option linter.unusedSimpArgs false

def FnExactExtraRangeLeft : Prop := ∀ (a0_0 : Int) (a0_1 : Bool) (l1 : List S75) (a2 : Int) (a3 : Int), (Lit.int .i64 a0_0).wf = true → l1.length ≤ maxLen → (∀ x ∈ l1, (Lit.int .i64 x.f0).wf = true ∧ (Lit.int .i64 x.f1).wf = true ∧ (Lit.int .i64 x.f2).wf = true) → (Lit.int .i64 a2).wf = true → (Lit.int .i64 a3).wf = true → ∃ k, laws_FnExactExtraRange.f k a0_0 a0_1 l1 a2 a3 = some true

def cvC (l : List S75) : List S63 := tg l.length (fun q => ⟨(l.getD q z75).f0, (l.getD q z75).f1, (l.getD q z75).f2⟩)
theorem cvC_len (l : List S75) : (cvC l).length = l.length := tg_len _ _
theorem toCarrierS_ev (l : List S75) (hl : l.length ≤ 1048576) : Ev (fun k => laws_toCarrierS.f k l) (cvC l) := by
  have key := down (P := fun i => Ev (fun k => laws_toCarrierS.l0 k l (tg l.length (fun q => if q < i then ⟨(l.getD q z75).f0, (l.getD q z75).f1, (l.getD q z75).f2⟩ else z63)) (i : Int)) (cvC l)) (n := l.length)
    (ev_now (fun k => by
      simp only [laws_toCarrierS.l0]
      rw [if_neg (by omega)]
      congr 1
      exact tg_congr (fun q hq => by rw [if_pos hq])))
    (fun i hi ih => by
      refine Ev.step (fun k => ?_) ih
      simp only [laws_toCarrierS.l0, laws_toCarrier.f, Option.bind_some]
      rw [if_pos (by omega), if_pos (by omega), if_pos (by rw [tg_len]; omega), w64s hi (by omega), Int.toNat_natCast, tg_set]
      congr 1
      refine tg_congr (fun q _ => ?_)
      by_cases e : q = i
      · subst e; rw [if_pos rfl, if_pos (by omega)]; rfl
      · rw [if_neg e]
        by_cases e2 : q < i
        · rw [if_pos e2, if_pos (by omega)]
        · rw [if_neg e2, if_neg (by omega)])
  unfold laws_toCarrierS.f
  refine ev_pos (by omega) (ev_pos (by omega) ?_)
  rw [Int.toNat_natCast, tg_rep]
  have k0 := key 0 (by omega)
  simpa using k0
theorem szCarrierS_eq (l : List S75) (hl : l.length ≤ maxLen) : laws_szCarrierS.f l 1048576 = some (if 1048576 - (l.length : Int) < 0 then -1 else 1048576 - (l.length : Int)) := by
  have hm : l.length ≤ 9223372036854775807 := by simpa [maxLen] using hl
  unfold laws_szCarrierS.f
  rw [w64 (by omega) (by omega)]
  split <;> rfl
theorem toRoad_eq (s : Int) (r : Bool) : laws_toRoad.f s r = some (s, r) := rfl

theorem eqCarrierS_self (l : List S63) (hl : l.length ≤ 1048576) : Ev (fun k => laws_eqCarrierS.f k l l) true := by
  have key := down (P := fun i => Ev (fun k => laws_eqCarrierS.l0 k l l (i : Int)) true) (n := l.length)
    (ev_now (fun k => by simp only [laws_eqCarrierS.l0]; rw [if_neg (by omega)]))
    (fun i hi ih => by
      refine Ev.step (fun k => ?_) ih
      simp only [laws_eqCarrierS.l0, laws_eqCarrier.f, if_true, Option.bind_some]
      rw [if_pos (by omega), if_pos (by omega), if_pos (by omega), w64s hi (by omega)])
  unfold laws_eqCarrierS.f
  exact ev_pos rfl (key 0 (by omega))

theorem l1In_eq (a b c : Int) : spec_l1In.f a b c = some (inR b c a) := by
  unfold spec_l1In.f inR
  by_cases h : a ≥ b
  · have h' : b ≤ a := h
    rw [if_pos h]; simp [h']
  · have h' : ¬ b ≤ a := h
    rw [if_neg h]; simp [h']

theorem within_eq (a b c : Int) : impl_within.f a b c = some (inR b c a) := by
  unfold impl_within.f inR
  by_cases h : a ≥ b
  · have h' : b ≤ a := h
    rw [if_pos h]; simp [h']
  · have h' : ¬ b ≤ a := h
    rw [if_neg h]; simp [h']

def lineV (s : Int) (r : Bool) : Bool := inR 2 24 s && !r
theorem line_of {s : Int} {r : Bool} (h : lineV s r = true) : (2 ≤ s ∧ s ≤ 24) ∧ r = false := by
  unfold lineV at h
  rw [Bool.and_eq_true, inR_iff] at h
  exact ⟨h.1, by simpa using h.2⟩
theorem l2Road_eq (s : Int) (r : Bool) : spec_l2Road.f s r = some (inR 2 24 s && (!r || decide (s > 2))) := by
  unfold spec_l2Road.f
  simp only [l1In_eq, Option.bind_some]
  cases inR 2 24 s <;> cases r <;> simp
theorem isRoad_eq (s : Int) (r : Bool) : impl_IsRoad.f s r = some (inR 2 24 s && (!r || decide (s > 2))) := by
  unfold impl_IsRoad.f
  simp only [within_eq, Option.bind_some]
  cases h : inR 2 24 s <;> cases r <;> simp <;> omega
theorem isLine_eq (s : Int) (r : Bool) : impl_isLine.f s r = some (lineV s r) := by
  unfold impl_isLine.f lineV
  simp only [isRoad_eq, Option.bind_some]
  cases inR 2 24 s <;> cases r <;> simp

theorem l3Line_eq (s : Int) (r : Bool) (a : Int) : spec_l3Line.f s r a = some (lineV s r && inR 0 (s - 1) a) := by
  unfold spec_l3Line.f lineV
  simp only [l2Road_eq, l1In_eq, Option.bind_some]
  cases h : inR 2 24 s with
  | false => simp
  | true =>
    have hs := inR_iff.1 h
    rw [w64 (by omega) (by omega)]
    cases r <;> simp

theorem allWithin_ev (l : List Int) (a b : Int) (hl : l.length ≤ 1152921504606846976) : Ev (fun k => impl_allWithin.f k l a b) (inAll a b l) := by
  have key := down (P := fun i => Ev (fun k => impl_allWithin.l0 k a b l (l.length : Int) (i : Int)) (inAll a b (l.drop i))) (n := l.length)
    (ev_now (fun k => by
      simp only [impl_allWithin.l0]
      rw [if_neg (by omega)]
      simp [inAll_nil]))
    (fun i hi ih => by
      rw [drop_cons hi, inAll_cons]
      cases hc : inR a b (rd l (i : Int)) with
      | true =>
        rw [Bool.true_and]
        refine Ev.step (fun k => ?_) ih
        simp only [impl_allWithin.l0, within_eq, Option.bind_some, hc, if_true]
        rw [if_pos (by omega), if_pos (by omega), if_pos (by omega), w64s hi hl]
      | false =>
        refine ev_now (fun k => ?_)
        simp only [impl_allWithin.l0, within_eq, Option.bind_some, hc, Bool.false_eq_true, if_false]
        rw [if_pos (by omega), if_pos (by omega), if_pos (by omega)]
        simp)
  exact key 0 (by omega)

def carC (s : Int) (l : List S63) (j : Nat) : Prop := (0 ≤ (l.getD j z63).f0 ∧ (l.getD j z63).f0 ≤ s - 1) ∧ (0 ≤ (l.getD j z63).f1 ∧ (l.getD j z63).f1 ≤ 48) ∧ 0 ≤ (l.getD j z63).f2 ∧ (l.getD j z63).f2 ≤ 20
instance (s : Int) (l : List S63) : DecidablePred (carC s l) := fun j => by unfold carC; infer_instance
def carV (s : Int) (r : Bool) (l : List S63) : Bool := (lineV s r && decide ((l.length : Int) ≤ 6)) && allF l.length (carC s l) 0
theorem carV_of {s : Int} {r : Bool} {l : List S63} (h : carV s r l = true) : ((2 ≤ s ∧ s ≤ 24) ∧ r = false) ∧ l.length ≤ 6 ∧ ∀ j, j < l.length → carC s l j := by
  unfold carV at h
  rw [Bool.and_eq_true, Bool.and_eq_true] at h
  have := of_decide_eq_true h.1.2
  exact ⟨line_of h.1.1, by omega, allF_of h.2⟩
theorem rdC_nat (l : List S63) (j : Nat) : rd_T63 l (j : Int) = l.getD j z63 := rfl
theorem l7Carriers_ev (s : Int) (r : Bool) (l : List S63) (hl : l.length ≤ 1048576) : Ev (fun k => spec_l7Carriers.f k s r l) (carV s r l) := by
  have key := down (P := fun i => Ev (fun k => spec_l7Carriers.l0 k l (i : Int) s r) ((lineV s r && decide ((l.length : Int) ≤ 6)) && allF l.length (carC s l) i)) (n := l.length)
    (ev_now (fun k => by
      simp only [spec_l7Carriers.l0, l2Road_eq, Option.bind_some]
      rw [if_neg (by omega), allF_end]
      unfold lineV
      cases inR 2 24 s <;> cases r <;> simp))
    (fun i hi ih => by
      rw [allF_step hi]
      have e3 : ∀ k, spec_l7Carriers.l0 (k + 1) l (i : Int) s r = if ((lineV s r && inR 0 (s - 1) (l.getD i z63).f0) && (inR 0 48 (l.getD i z63).f1 && inR 0 20 (l.getD i z63).f2)) = true then spec_l7Carriers.l0 k l ((i + 1 : Nat) : Int) s r else some false := by
        intro k
        simp only [spec_l7Carriers.l0, spec_l7Carrier.f, l3Line_eq, l1In_eq, Option.bind_some, rdC_nat]
        rw [if_pos (by omega), if_pos (by omega), w64s hi (by omega)]
        cases (lineV s r && inR 0 (s - 1) (l.getD i z63).f0) <;> cases inR 0 48 (l.getD i z63).f1 <;> cases inR 0 20 (l.getD i z63).f2 <;> rfl
      cases hL : lineV s r with
      | false =>
        refine ev_now (fun k => ?_)
        rw [e3, hL]; simp
      | true =>
        rw [hL] at ih
        by_cases hc : carC s l i
        · rw [decide_eq_true hc, Bool.true_and]
          refine Ev.step (fun k => ?_) ih
          rw [e3, hL, Bool.true_and, inR_iff.2 hc.1, inR_iff.2 hc.2.1, inR_iff.2 hc.2.2]
          rfl
        · rw [decide_eq_false hc, Bool.false_and, Bool.and_false]
          refine ev_now (fun k => ?_)
          rw [e3, hL, Bool.true_and, if_neg]
          intro h
          simp only [Bool.and_eq_true, inR_iff] at h
          exact hc ⟨h.1, h.2.1, h.2.2⟩)
  exact key 0 (by omega)
theorem areCarriers_ev (s : Int) (r : Bool) (l : List S63) (hl : l.length ≤ 1048576) (hs : 2 ≤ s ∧ s ≤ 24) : Ev (fun k => impl_Road_areCarriers.f k s r l) (decide ((l.length : Int) ≤ 6) && allF l.length (carC s l) 0) := by
  have key := down (P := fun i => Ev (fun k => impl_Road_areCarriers.l0 k l l (l.length : Int) (i : Int) s r) (decide ((l.length : Int) ≤ 6) && allF l.length (carC s l) i)) (n := l.length)
    (ev_now (fun k => by
      simp only [impl_Road_areCarriers.l0]
      rw [if_neg (by omega), allF_end, Bool.and_true]))
    (fun i hi ih => by
      rw [allF_step hi]
      have hh : Ev (fun k => impl_Road_has.f k s r [(l.getD i z63).f0]) (inR 0 (s - 1) (l.getD i z63).f0) := by
        unfold impl_Road_has.f
        rw [w64 (by omega) (by omega)]
        have := allWithin_ev [(l.getD i z63).f0] 0 (s - 1) (by simp)
        have e : inAll 0 (s - 1) [(l.getD i z63).f0] = inR 0 (s - 1) (l.getD i z63).f0 := by simp [inAll]
        rw [e] at this
        exact Ev.bind this (Ev.now _)
      refine Ev.step (f := fun k => (impl_Road_has.f k s r [(l.getD i z63).f0]).bind fun t => if t = true then (if (inR 0 48 (l.getD i z63).f1 && inR 0 20 (l.getD i z63).f2) = true then impl_Road_areCarriers.l0 k l l (l.length : Int) ((i + 1 : Nat) : Int) s r else some false) else some false) (fun k => ?_) (Ev.bind hh ?_)
      · simp only [impl_Road_areCarriers.l0, within_eq, Option.bind_some, rdC_nat]
        rw [if_pos (by omega), if_pos (by omega), if_pos (by omega), w64s hi (by omega)]
        cases inR 0 48 (l.getD i z63).f1 <;> cases inR 0 20 (l.getD i z63).f2 <;> rfl
      · by_cases hc : carC s l i
        · rw [decide_eq_true hc, Bool.true_and]
          exact ev_pos (inR_iff.2 hc.1) (ev_pos (by rw [inR_iff.2 hc.2.1, inR_iff.2 hc.2.2]; rfl) ih)
        · rw [decide_eq_false hc, Bool.false_and, Bool.and_false]
          by_cases h1 : inR 0 (s - 1) (l.getD i z63).f0 = true
          · exact ev_pos h1 (ev_neg (fun h2 => by
              simp only [Bool.and_eq_true, inR_iff] at h2
              exact hc ⟨inR_iff.1 h1, h2.1, h2.2⟩) (Ev.now _))
          · exact ev_neg h1 (Ev.now _))
  exact key 0 (by omega)
def asksV (s : Int) (r : Bool) (l : List S63) (a b : Int) : Bool := carV s r l && (inR 0 (s - 1) b && inR 0 b a)
theorem asks_of {s : Int} {r : Bool} {l : List S63} {a b : Int} (h : asksV s r l a b = true) : carV s r l = true ∧ (0 ≤ a ∧ a ≤ b ∧ b ≤ s - 1) := by
  unfold asksV at h
  simp only [Bool.and_eq_true, inR_iff] at h
  exact ⟨h.1, by omega⟩
theorem l7Asks_ev (s : Int) (r : Bool) (l : List S63) (a b : Int) (hl : l.length ≤ 1048576) : Ev (fun k => spec_l7Asks.f k s r l a b) (asksV s r l a b) := by
  unfold spec_l7Asks.f asksV
  refine Ev.bind (l7Carriers_ev s r l hl) ?_
  cases hv : carV s r l with
  | true =>
    obtain ⟨⟨hs, rfl⟩, _⟩ := carV_of hv
    simp only [if_true, spec_l2Place.f, l2Road_eq, l1In_eq, Option.bind_some]
    rw [inR_iff.2 hs, w64 (by omega) (by omega)]
    cases inR 0 (s - 1) b <;> simp <;> exact Ev.now _
  | false =>
    simp only [Bool.false_eq_true, if_false, Bool.false_and]
    exact Ev.now _
theorem isCarried_ev (s : Int) (r : Bool) (l : List S63) (a b : Int) (hl : l.length ≤ 1048576) : Ev (fun k => impl_isCarried.f k s r l [a, b]) (asksV s r l a b) := by
  unfold impl_isCarried.f asksV
  simp only [isLine_eq, Option.bind_some]
  cases hL : lineV s r with
  | false =>
    have : carV s r l = false := by unfold carV; rw [hL]; simp
    rw [this]
    simp only [Bool.false_eq_true, if_false, Bool.false_and]
    exact Ev.now _
  | true =>
    obtain ⟨hs, rfl⟩ := line_of hL
    have e : carV s false l = (decide ((l.length : Int) ≤ 6) && allF l.length (carC s l) 0) := by unfold carV; rw [hL]; rfl
    simp only [if_true]
    refine Ev.bind (areCarriers_ev s false l hl hs) ?_
    rw [← e]
    cases carV s false l with
    | false =>
      simp only [Bool.false_eq_true, if_false, Bool.false_and]
      exact Ev.now _
    | true =>
      simp only [if_true, Bool.true_and]
      have hh : Ev (fun k => impl_Road_has.f k s false [a, b]) (inAll 0 (s - 1) [a, b]) := by
        unfold impl_Road_has.f
        rw [w64 (by omega) (by omega)]
        exact Ev.bind (allWithin_ev [a, b] 0 (s - 1) (by simp)) (Ev.now _)
      refine Ev.bind hh ?_
      have es : Ev (fun k => slices_IsSorted_int_int.f k [a, b]) (decide (a ≤ b)) := by
        unfold slices_IsSorted_int_int.f
        have e1 : wrap64 ((([a, b] : List Int).length : Int) - 1) = 1 := by rw [w64 (by simp) (by simp)]; simp
        rw [e1]
        have e0 : wrap64 (1 - 1) = 0 := by rw [w64 (by omega) (by omega)]; rfl
        refine Ev.step (f := fun k => if b < a then some false else slices_IsSorted_int_int.l0 k [a, b] 0) (fun k => ?_) ?_
        · simp only [slices_IsSorted_int_int.l0, e0, cmp_Less_int.f, cmp_isNaN_int.f, Option.bind_some]
          have r0 : rd [a, b] 0 = a := rfl
          have r1 : rd [a, b] 1 = b := rfl
          rw [if_pos (by omega), if_pos (by omega), if_pos (by simp), if_pos (by omega), if_pos (by simp), r0, r1]
          by_cases h : b < a <;> simp [h]
        · by_cases h : b < a
          · refine ev_pos h ?_
            rw [decide_eq_false (by omega)]
            exact Ev.now _
          · refine ev_neg h (ev_now (fun k => ?_))
            simp only [slices_IsSorted_int_int.l0]
            rw [if_neg (by omega), decide_eq_true (by omega)]
      by_cases hA : inAll 0 (s - 1) [a, b] = true
      · refine ev_pos hA (Ev.bind es ?_)
        have hA' : (0 ≤ a ∧ a ≤ s - 1) ∧ (0 ≤ b ∧ b ≤ s - 1) := by simpa [inAll, inR] using hA
        have : (inR 0 (s - 1) b && inR 0 b a) = decide (a ≤ b) := by
          rw [inR_iff.2 hA'.2, Bool.true_and]
          unfold inR
          exact decide_eq_decide.2 (by omega)
        rw [this]
        exact Ev.now _
      · refine ev_neg hA ?_
        have : (inR 0 (s - 1) b && inR 0 b a) = false := by
          rw [Bool.eq_false_iff]
          intro h
          simp only [Bool.and_eq_true, inR_iff] at h
          exact hA (inAll_iff.2 (fun x hx => by
            simp only [List.mem_cons, List.mem_nil_iff, or_false] at hx
            rcases hx with rfl | rfl <;> omega))
        rw [this]
        exact Ev.now _

theorem l1Most_eq (a b : Int) : spec_l1Most.f a b = some (mx a b) := by
  unfold spec_l1Most.f mx
  by_cases h : a > b
  · rw [if_pos h, if_neg (by omega)]
  · rw [if_neg h]
    by_cases h2 : a < b
    · rw [if_pos h2]
    · rw [if_neg h2]; congr 1; omega

theorem l2Gap_eq (s a p : Int) (h0 : 0 ≤ a ∧ a ≤ 1000000) (h1 : 0 ≤ p ∧ p ≤ 1000000) : spec_l2Gap.f s false a p = some (mx (a - p) (p - a)) := by
  unfold spec_l2Gap.f
  simp only [l1Most_eq, Option.bind_some, Bool.false_eq_true, if_false]
  rw [mx_abs (s := s) h0 h1]
theorem gap_eq (s a p : Int) (h0 : 0 ≤ a ∧ a ≤ 1000000) (h1 : 0 ≤ p ∧ p ≤ 1000000) : impl_Road_gap.f s false a p = some (mx (a - p) (p - a)) := by
  unfold impl_Road_gap.f
  simp only [Bool.false_eq_true, if_false]
  rw [mx_abs (s := s) h0 h1]

theorem l1Least_eq (a b : Int) : spec_l1Least.f a b = some (mn a b) := by
  unfold spec_l1Least.f mn
  by_cases h : a < b
  · rw [if_pos h, if_neg (by omega)]
  · rw [if_neg h]
    by_cases h2 : b < a
    · rw [if_pos h2]
    · rw [if_neg h2]; congr 1; omega

theorem copied_eq (l : List Int) (h : l.length ≤ 1048576) : impl_copied.f l = some l := by
  unfold impl_copied.f
  simp only [Option.bind_some, List.length_nil, List.nil_append]
  rw [if_pos (by omega)]

/-- How far a carrier brings the parcel from a place, at the least to that place. -/
def stp (s : Int) (c : S63) (x : Int) : Int := mn (s - 1) (x + mx 0 (c.f1 - mx (c.f0 - x) (x - c.f0)))
def rch (s : Int) (l : List S63) (o : List Int) (a : Int) : Int := o.foldl (fun x i => stp s (l.getD i.toNat z63) x) a
theorem stp_in {s : Int} {c : S63} {x : Int} (hx : 0 ≤ x ∧ x ≤ s - 1) : x ≤ stp s c x ∧ stp s c x ≤ s - 1 := by
  have h1 := mx_ge 0 (c.f1 - mx (c.f0 - x) (x - c.f0))
  have h2 := mn_le (s - 1) (x + mx 0 (c.f1 - mx (c.f0 - x) (x - c.f0)))
  unfold stp
  omega
/-- An order: numbers of carriers. -/
def okO (n : Nat) (o : List Int) : Prop := o.length ≤ 1000 ∧ ∀ x ∈ o, ∃ i : Nat, x = (i : Int) ∧ i < n
theorem legEnd_eq (s : Int) (c : S63) (x : Int) (hs : 2 ≤ s ∧ s ≤ 24) (hx : 0 ≤ x ∧ x ≤ s - 1) (hc : (0 ≤ c.f0 ∧ c.f0 ≤ s - 1) ∧ (0 ≤ c.f1 ∧ c.f1 ≤ 1000)) : ∃ b, impl_Road_legEnd.f s false c.f0 c.f1 c.f2 x = some (stp s c x, b) := by
  unfold impl_Road_legEnd.f
  rw [gap_eq s _ _ (by omega) (by omega), Option.bind_some]
  have h1 := mx_ge (c.f0 - x) (x - c.f0)
  have h2 := mx_ge 0 (c.f1 - mx (c.f0 - x) (x - c.f0))
  rw [w64 (x := c.f1 - mx (c.f0 - x) (x - c.f0)) (by omega) (by omega), w64 (x := s - 1) (by omega) (by omega), w64 (by omega) (by omega)]
  exact ⟨_, rfl⟩
theorem l7End_eq (s : Int) (c : S63) (x : Int) (hs : 2 ≤ s ∧ s ≤ 24) (hx : 0 ≤ x ∧ x ≤ s - 1) (hc : (0 ≤ c.f0 ∧ c.f0 ≤ s - 1) ∧ (0 ≤ c.f1 ∧ c.f1 ≤ 1000)) : ∃ e, spec_l7End.f s false c.f0 c.f1 c.f2 x = some e ∧ mx x e = stp s c x := by
  unfold spec_l7End.f
  rw [l2Gap_eq s _ _ (by omega) (by omega), Option.bind_some]
  have h1 := mx_ge (c.f0 - x) (x - c.f0)
  rw [w64 (x := c.f1 - mx (c.f0 - x) (x - c.f0)) (by omega) (by omega), w64 (x := s - 1) (by omega) (by omega), w64 (by omega) (by omega)]
  unfold stp
  by_cases h : c.f1 - mx (c.f0 - x) (x - c.f0) < 0
  · rw [if_pos h]
    refine ⟨-1, rfl, ?_⟩
    have e : mx 0 (c.f1 - mx (c.f0 - x) (x - c.f0)) = 0 := by have := mx_ge 0 (c.f1 - mx (c.f0 - x) (x - c.f0)); omega
    rw [e]
    have a1 := mx_ge x (-1)
    have a2 := mn_le (s - 1) (x + 0)
    omega
  · rw [if_neg h, l1Least_eq, Option.bind_some]
    refine ⟨_, rfl, ?_⟩
    have e : mx 0 (c.f1 - mx (c.f0 - x) (x - c.f0)) = c.f1 - mx (c.f0 - x) (x - c.f0) := by have := mx_ge 0 (c.f1 - mx (c.f0 - x) (x - c.f0)); omega
    rw [e]
    have a1 := mx_ge x (mn (s - 1) (x + (c.f1 - mx (c.f0 - x) (x - c.f0))))
    have a2 := mn_le (s - 1) (x + (c.f1 - mx (c.f0 - x) (x - c.f0)))
    omega
/-- Carriers with sane numbers (ranges up to 1000, so that a greater range fits, too). -/
def saneC (s : Int) (l : List S63) : Prop := ∀ j, j < l.length → (0 ≤ (l.getD j z63).f0 ∧ (l.getD j z63).f0 ≤ s - 1) ∧ (0 ≤ (l.getD j z63).f1 ∧ (l.getD j z63).f1 ≤ 1000)
theorem sane_of {s : Int} {r : Bool} {l : List S63} (h : carV s r l = true) : saneC s l := fun j hj => by
  have := (carV_of h).2.2 j hj
  exact ⟨this.1, this.2.1.1, by have := this.2.1.2; omega⟩
theorem orderReach_ev (s : Int) (l : List S63) (o : List Int) (a : Int) (hs : 2 ≤ s ∧ s ≤ 24) (hl : saneC s l) (ho : okO l.length o) (ha : 0 ≤ a ∧ a ≤ s - 1) : Ev (fun k => impl_Road_orderReach.f k s false l o a) (rch s l o a) := by
  obtain ⟨ho1, ho2⟩ := ho
  have key := down (P := fun i => ∀ x : Int, 0 ≤ x ∧ x ≤ s - 1 → Ev (fun k => impl_Road_orderReach.l0 k l x o (o.length : Int) (i : Int) s false) (rch s l (o.drop i) x)) (n := o.length)
    (fun x _ => ev_now (fun k => by simp only [impl_Road_orderReach.l0]; rw [if_neg (by omega)]; simp [rch]))
    (fun i hi ih x hx => by
      obtain ⟨j, e, hj⟩ := ho2 _ (mem_of_rd hi)
      obtain ⟨b, eb⟩ := legEnd_eq s (l.getD j z63) x hs hx (hl j hj)
      have hst := stp_in (s := s) (c := l.getD j z63) hx
      rw [drop_cons hi]
      refine Ev.step (fun k => ?_) (ih (stp s (l.getD j z63) x) (by omega) |> fun z => by
        have e2 : rch s l (rd o (i : Int) :: o.drop (i + 1)) x = rch s l (o.drop (i + 1)) (stp s (l.getD j z63) x) := by
          unfold rch; rw [List.foldl_cons, e, Int.toNat_natCast]
        rw [e2]; exact z)
      simp only [impl_Road_orderReach.l0]
      rw [if_pos (by omega), if_pos (by omega), if_pos (by omega), e, if_pos (by omega), if_pos (by omega), rdC_nat, eb, Option.bind_some, w64s hi (by omega)])
  exact key 0 (by omega) a ha
theorem l7Reach_ev (s : Int) (l : List S63) (o : List Int) (a : Int) (hs : 2 ≤ s ∧ s ≤ 24) (hl : saneC s l) (ho : okO l.length o) (ha : 0 ≤ a ∧ a ≤ s - 1) : Ev (fun k => spec_l7Reach.f k s false l o a) (rch s l o a) := by
  obtain ⟨ho1, ho2⟩ := ho
  have key := down (P := fun i => ∀ x : Int, 0 ≤ x ∧ x ≤ s - 1 → Ev (fun k => spec_l7Reach.l0 k l o x (i : Int) s false) (rch s l (o.drop i) x)) (n := o.length)
    (fun x _ => ev_now (fun k => by simp only [spec_l7Reach.l0]; rw [if_neg (by omega)]; simp [rch]))
    (fun i hi ih x hx => by
      obtain ⟨j, e, hj⟩ := ho2 _ (mem_of_rd hi)
      obtain ⟨b, eb, em⟩ := l7End_eq s (l.getD j z63) x hs hx (hl j hj)
      have hst := stp_in (s := s) (c := l.getD j z63) hx
      rw [drop_cons hi]
      refine Ev.step (fun k => ?_) (ih (stp s (l.getD j z63) x) (by omega) |> fun z => by
        have e2 : rch s l (rd o (i : Int) :: o.drop (i + 1)) x = rch s l (o.drop (i + 1)) (stp s (l.getD j z63) x) := by
          unfold rch; rw [List.foldl_cons, e, Int.toNat_natCast]
        rw [e2]; exact z)
      simp only [spec_l7Reach.l0]
      rw [if_pos (by omega), if_pos (by omega), e, if_pos (by omega), if_pos (by omega), rdC_nat, eb, Option.bind_some, l1Most_eq, Option.bind_some, em, w64s hi (by omega)])
  exact key 0 (by omega) a ha
/-- An order with each carrier that it lacks, from the carrier x on. -/
def exO (n : Nat) (o : List Int) (x : Nat) : List (List Int) := (((List.range n).drop x).filter (fun y : Nat => decide ((y : Int) ∉ o))).map (fun y : Nat => o ++ [(y : Int)])
theorem exO_end (n : Nat) (o : List Int) : exO n o n = [] := by unfold exO; rw [List.drop_eq_nil_of_le (by simp)]; rfl
theorem exO_step {n x : Nat} (o : List Int) (h : x < n) : exO n o x = if (x : Int) ∈ o then exO n o (x + 1) else (o ++ [(x : Int)]) :: exO n o (x + 1) := by
  unfold exO
  rw [List.drop_eq_getElem_cons (by simpa using h), List.getElem_range, List.filter_cons]
  by_cases hm : (x : Int) ∈ o
  · simp [hm]
  · simp [hm]
theorem exO_len (n : Nat) (o : List Int) (x : Nat) : (exO n o x).length ≤ n - x := by
  unfold exO
  rw [List.length_map]
  refine Nat.le_trans (List.length_filter_le _ _) ?_
  simp
def lv (n : Nat) : Nat → List (List Int)
  | 0 => [[]]
  | m + 1 => (lv n m).flatMap (fun o => exO n o 0)
theorem exO_mem {n : Nat} {o p : List Int} (h : p ∈ exO n o 0) : ∃ y : Nat, y < n ∧ p = o ++ [(y : Int)] := by
  unfold exO at h
  simp only [List.drop_zero, List.mem_map, List.mem_filter, List.mem_range] at h
  obtain ⟨y, ⟨hy, _⟩, rfl⟩ := h
  exact ⟨y, hy, rfl⟩
theorem lv_ok (n : Nat) : ∀ m, ∀ o ∈ lv n m, o.length = m ∧ ∀ x ∈ o, ∃ i : Nat, x = (i : Int) ∧ i < n
  | 0 => by intro o ho; simp only [lv, List.mem_singleton] at ho; subst ho; simp
  | m + 1 => by
    intro o ho
    simp only [lv, List.mem_flatMap] at ho
    obtain ⟨p, hp, ho⟩ := ho
    obtain ⟨h1, h2⟩ := lv_ok n m p hp
    obtain ⟨y, hy, rfl⟩ := exO_mem ho
    refine ⟨by simp [h1], fun x hx => ?_⟩
    simp only [List.mem_append, List.mem_singleton] at hx
    rcases hx with hx | rfl
    · exact h2 x hx
    · exact ⟨y, rfl, hy⟩
theorem lv_okO {n m : Nat} (hm : m ≤ 1000) {o : List Int} (h : o ∈ lv n m) : okO n o := ⟨by have := (lv_ok n m o h).1; omega, (lv_ok n m o h).2⟩
theorem lv_sizes : ∀ n : Nat, n ≤ 6 → (∀ m : Nat, m ≤ 7 → (lv n m).length ≤ 720) ∧ (∀ m : Nat, m ≤ n → (lv n m).length ≠ 0) ∧ (lv n (n + 1)).length = 0 := by decide +kernel
theorem contains_ev (o : List Int) (x : Int) (h : o.length ≤ 1000) : Ev (fun k => slices_Contains_int_int.f k o x) (decide (x ∈ o)) := by
  have key := down (P := fun i => ∃ r : Int, Ev (fun k => slices_Index_int_int.l0 k o x (o.length : Int) (i : Int)) r ∧ decide (r ≥ 0) = decide (x ∈ o.drop i)) (n := o.length)
    ⟨-1, ev_now (fun k => by simp only [slices_Index_int_int.l0]; rw [if_neg (by omega)]), by simp⟩
    (fun i hi ih => by
      rw [drop_cons hi]
      by_cases e : x = rd o (i : Int)
      · refine ⟨(i : Int), ev_now (fun k => ?_), by simp [← e]⟩
        simp only [slices_Index_int_int.l0]
        rw [if_pos (by omega), if_pos (by omega), if_pos (by omega), if_pos e]
      · obtain ⟨r, h1, h2⟩ := ih
        refine ⟨r, Ev.step (fun k => ?_) h1, by rw [h2]; simp [e]⟩
        simp only [slices_Index_int_int.l0]
        rw [if_pos (by omega), if_pos (by omega), if_pos (by omega), if_neg e, w64s hi (by omega)])
  obtain ⟨r, h1, h2⟩ := key 0 (by omega)
  unfold slices_Contains_int_int.f
  refine Ev.bind (g := fun k => slices_Index_int_int.f k o x) (a := r) h1 ?_
  rw [h2]
  exact Ev.now _

/-- The first order of the levels from m on (j levels) that satisfies p. -/
def seek (p : List Int → Bool) (n : Nat) : Nat → Nat → Option (List Int)
  | 0, _ => none
  | j + 1, m => match (lv n m).find? p with
    | some o => some o
    | none => seek p n j (m + 1)
def orderR (s : Int) (r : Bool) (l : List S63) (a b : Int) : List Int × Bool :=
  if asksV s r l a b = true then (match seek (fun o => decide (b ≤ rch s l o a)) l.length (l.length + 1) 0 with | some o => (o, true) | none => ([], false)) else ([], false)
theorem seek_mem {p : List Int → Bool} {n : Nat} : ∀ {j m o}, seek p n j m = some o → p o = true ∧ ∃ m', m ≤ m' ∧ m' < m + j ∧ o ∈ lv n m'
  | 0, _, _, h => by simp [seek] at h
  | j + 1, m, o, h => by
    unfold seek at h
    cases hf : (lv n m).find? p with
    | some q =>
      rw [hf] at h
      obtain rfl := Option.some.inj h
      exact ⟨List.find?_some hf, m, by omega, by omega, List.mem_of_find?_eq_some hf⟩
    | none =>
      rw [hf] at h
      obtain ⟨h1, m', h2, h3, h4⟩ := seek_mem h
      exact ⟨h1, m', by omega, by omega, h4⟩
theorem orderR_len (s : Int) (r : Bool) (l : List S63) (a b : Int) : (orderR s r l a b).1.length ≤ 1048576 := by
  unfold orderR
  split
  · rename_i h
    have hc := (carV_of (asks_of h).1).2.1
    split
    · rename_i o ho
      obtain ⟨_, m', _, h3, h4⟩ := seek_mem ho
      have := (lv_ok _ _ _ h4).1
      simp only
      omega
    · simp
  · simp
theorem ext_impl (l : List S63) (a b best s : Int) (os : List (List Int)) (o : List Int) (i : Nat) (hn : l.length ≤ 6) (ho : o.length ≤ 1000) (hi : i < os.length) (R) :
    ∀ x, x ≤ l.length → ∀ acc : List (List Int), acc.length + (l.length - x) ≤ 1000000 → Ev (fun k => impl_Road_reachOrder.l1 k l a b best (acc ++ exO l.length o x) os (os.length : Int) (wrap64 ((i : Int) + 1)) s false) R →
      Ev (fun k => impl_Road_reachOrder.l2 k l a b best acc o os (os.length : Int) (i : Int) (l.length : Int) (x : Int) s false) R := by
  refine down (P := fun x => ∀ acc : List (List Int), acc.length + (l.length - x) ≤ 1000000 → Ev (fun k => impl_Road_reachOrder.l1 k l a b best (acc ++ exO l.length o x) os (os.length : Int) (wrap64 ((i : Int) + 1)) s false) R → Ev (fun k => impl_Road_reachOrder.l2 k l a b best acc o os (os.length : Int) (i : Int) (l.length : Int) (x : Int) s false) R) ?_ ?_
  · intro acc _ h
    rw [exO_end, List.append_nil] at h
    refine Ev.step (fun k => ?_) h
    simp only [impl_Road_reachOrder.l2]
    rw [if_neg (by omega)]
  · intro x hx ih acc hb h
    rw [exO_step _ hx] at h
    refine Ev.step (f := fun k => (slices_Contains_int_int.f k o (x : Int)).bind fun t => if t = true then impl_Road_reachOrder.l2 k l a b best acc o os (os.length : Int) (i : Int) (l.length : Int) ((x + 1 : Nat) : Int) s false else impl_Road_reachOrder.l2 k l a b best (acc ++ [o ++ [(x : Int)]]) o os (os.length : Int) (i : Int) (l.length : Int) ((x + 1 : Nat) : Int) s false) (fun k => ?_) (Ev.bind (contains_ev _ _ ho) ?_)
    · simp only [impl_Road_reachOrder.l2, copied_eq _ (show o.length ≤ 1048576 by omega), Option.bind_some]
      rw [if_pos (by omega), if_pos (by omega), if_pos (by omega), w64s hx (by omega)]
    · by_cases hm : (x : Int) ∈ o
      · rw [if_pos hm] at h
        exact ev_pos (decide_eq_true hm) (ih acc (by omega) h)
      · rw [if_neg hm] at h
        refine ev_neg (by simpa using hm) (ih _ (by simp; omega) ?_)
        rw [List.append_assoc, List.singleton_append]
        exact h
/-- The result of reachOrder: the first order found, and a number that depends on it. -/
theorem reachOrder_ev (s : Int) (l : List S63) (a b : Int) (hs : 2 ≤ s ∧ s ≤ 24) (hl : saneC s l) (hn : l.length ≤ 6) (hab : 0 ≤ a ∧ a ≤ s - 1) :
    ∃ r2, Ev (fun k => impl_Road_reachOrder.f k s false l a b) ((seek (fun o => decide (b ≤ rch s l o a)) l.length (l.length + 1) 0).getD [], r2) := by
  have key := down (P := fun m => ∀ best : Int, ∃ r2, Ev (fun k => impl_Road_reachOrder.l0 k l a b best (lv l.length m) s false) ((seek (fun o => decide (b ≤ rch s l o a)) l.length (l.length + 1 - m) m).getD [], r2)) (n := l.length + 1)
    (fun best => ⟨best, ev_now (fun k => by
      have := (lv_sizes l.length hn).2.2
      simp only [impl_Road_reachOrder.l0]
      rw [if_neg (by omega), Nat.sub_self]
      rfl)⟩)
    (fun m hm ih best => by
      have e : l.length + 1 - m = (l.length + 1 - (m + 1)) + 1 := by omega
      rw [e]
      have hz := (lv_sizes l.length hn).1 m (by omega)
      have hz0 := (lv_sizes l.length hn).2.1 m (by omega)
      have k2 := down (P := fun i => ∀ (best : Int) (acc : List (List Int)), acc.length + ((lv l.length m).length - i) * 6 ≤ 1000000 → acc ++ ((lv l.length m).drop i).flatMap (fun o => exO l.length o 0) = lv l.length (m + 1) → ∃ r2, Ev (fun k => impl_Road_reachOrder.l1 k l a b best acc (lv l.length m) ((lv l.length m).length : Int) (i : Int) s false) ((match ((lv l.length m).drop i).find? (fun o => decide (b ≤ rch s l o a)) with | some o => some o | none => seek (fun o => decide (b ≤ rch s l o a)) l.length (l.length + 1 - (m + 1)) (m + 1)).getD [], r2)) (n := (lv l.length m).length)
        (fun best acc _ hacc => by
          rw [List.drop_length, List.flatMap_nil, List.append_nil] at hacc
          obtain ⟨r2, h2⟩ := ih best
          refine ⟨r2, ?_⟩
          rw [List.drop_length, List.find?_nil]
          refine Ev.step (fun k => ?_) h2
          simp only [impl_Road_reachOrder.l1]
          rw [if_neg (by omega), hacc])
        (fun i hi ih2 best acc hb hacc => by
          have hg : (lv l.length m).getD i [] ∈ lv l.length m := by rw [List.getD_eq_getElem?_getD, List.getElem?_eq_getElem hi]; exact List.getElem_mem hi
          have hok : okO l.length ((lv l.length m).getD i []) := lv_okO (by omega) hg
          have hr := orderReach_ev s l _ a hs hl hok hab
          have hx := exO_len l.length ((lv l.length m).getD i []) 0
          rw [drop_consG [] hi, List.find?_cons]
          have stepe : ∀ (r2 : Int) (res : List Int), Ev (fun k => if rch s l ((lv l.length m).getD i []) a ≥ b then some ((lv l.length m).getD i [], rch s l ((lv l.length m).getD i []) a) else impl_Road_reachOrder.l2 k l a b (mx best (rch s l ((lv l.length m).getD i []) a)) acc ((lv l.length m).getD i []) (lv l.length m) ((lv l.length m).length : Int) (i : Int) (l.length : Int) ((0 : Nat) : Int) s false) (res, r2) →
              Ev (fun k => impl_Road_reachOrder.l1 k l a b best acc (lv l.length m) ((lv l.length m).length : Int) (i : Int) s false) (res, r2) := by
            intro r2 res h
            refine Ev.step (f := fun k => (impl_Road_orderReach.f k s false l ((lv l.length m).getD i []) a).bind fun t => if t ≥ b then some ((lv l.length m).getD i [], t) else impl_Road_reachOrder.l2 k l a b (mx best t) acc ((lv l.length m).getD i []) (lv l.length m) ((lv l.length m).length : Int) (i : Int) (l.length : Int) ((0 : Nat) : Int) s false) (fun k => ?_) (Ev.bind hr h)
            simp only [impl_Road_reachOrder.l1, show rd_L3 (lv l.length m) (i : Int) = (lv l.length m).getD i [] from rfl]
            rw [if_pos (by omega), if_pos (by omega), if_pos (by omega)]
            rfl
          by_cases hh : b ≤ rch s l ((lv l.length m).getD i []) a
          · rw [decide_eq_true hh]
            exact ⟨_, stepe _ _ (ev_pos hh (Ev.now _))⟩
          · rw [decide_eq_false hh]
            rw [drop_consG [] hi, List.flatMap_cons, ← List.append_assoc] at hacc
            obtain ⟨r2, h2⟩ := ih2 (mx best (rch s l ((lv l.length m).getD i []) a)) (acc ++ exO l.length ((lv l.length m).getD i []) 0) (by rw [List.length_append]; omega) hacc
            refine ⟨r2, stepe _ _ (ev_neg hh ?_)⟩
            refine ext_impl l a b _ s _ _ i hn hok.1 hi _ 0 (by omega) acc (by omega) ?_
            rw [w64s hi (by omega)]
            exact h2)
      obtain ⟨r2, h2⟩ := k2 0 (by omega) best [] (by simp; omega) (by simp [lv])
      rw [List.drop_zero] at h2
      refine ⟨r2, Ev.step (f := fun k => impl_Road_reachOrder.l1 k l a b best [] (lv l.length m) ((lv l.length m).length : Int) ((0 : Nat) : Int) s false) (fun k => ?_) ?_⟩
      · simp only [impl_Road_reachOrder.l0]
        rw [if_pos (by omega)]
        rfl
      · unfold seek
        cases hf : (lv l.length m).find? (fun o => decide (b ≤ rch s l o a)) with
        | some o => rw [hf] at h2; exact h2
        | none => rw [hf] at h2; exact h2)
  exact key 0 (by omega) a
theorem rch_nil (s : Int) (l : List S63) (a : Int) : rch s l [] a = a := rfl
theorem reach3_ev (s : Int) (l : List S63) (a b : Int) (hs : 2 ≤ s ∧ s ≤ 24) (hl : saneC s l) (hn : l.length ≤ 6) (hab : 0 ≤ a ∧ a ≤ s - 1) :
    ∃ r2, Ev (fun k => reachOrder3.f k s false l a b) ((seek (fun o => decide (b ≤ rch s l o a)) l.length (l.length + 1) 0).getD [], r2, (seek (fun o => decide (b ≤ rch s l o a)) l.length (l.length + 1) 0).isSome) := by
  obtain ⟨r2, h⟩ := reachOrder_ev s l a b hs hl hn hab
  refine ⟨r2, ?_⟩
  unfold reachOrder3.f
  refine Ev.bind h ?_
  have e : decide ((seek (fun o => decide (b ≤ rch s l o a)) l.length (l.length + 1) 0).getD [] ≠ [] ∨ b ≤ a) = (seek (fun o => decide (b ≤ rch s l o a)) l.length (l.length + 1) 0).isSome := by
    cases hk : seek (fun o => decide (b ≤ rch s l o a)) l.length (l.length + 1) 0 with
    | some o =>
      have hp := of_decide_eq_true (seek_mem hk).1
      simp only [Option.getD_some, Option.isSome_some]
      refine decide_eq_true ?_
      by_cases ho : o = []
      · subst ho; exact .inr hp
      · exact .inl ho
    | none =>
      simp only [Option.getD_none, Option.isSome_none]
      refine decide_eq_false ?_
      intro h
      rcases h with h | h
      · exact h rfl
      · unfold seek at hk
        simp [lv, rch_nil, h] at hk
  dsimp only
  rw [e]
  exact Ev.now _

/-! The spec's table of sets: each set's number stands for its carriers; its entry is the greatest reach of their orders. -/
theorem stp_mono {s : Int} {c : S63} {x y : Int} (h : x ≤ y) (hy : y ≤ s - 1) : stp s c x ≤ stp s c y := by
  unfold stp mn mx
  repeat' split
  all_goals omega
theorem bit_sub : ∀ c : Nat, c < 64 → ∀ i : Nat, i < 6 → bitA c i = 1 → ∀ j : Nat, j < 6 → bitA (c - 2 ^ i) j = if j = i then 0 else bitA c j := by decide +kernel
theorem bit_add : ∀ c : Nat, c < 64 → ∀ i : Nat, i < 6 → bitA c i = 0 → ∀ j : Nat, j < 6 → bitA (c + 2 ^ i) j = if j = i then 1 else bitA c j := by decide +kernel
theorem add_lt : ∀ n : Nat, n ≤ 6 → ∀ c : Nat, c < 2 ^ n → ∀ i : Nat, i < n → bitA c i = 0 → c + 2 ^ i < 2 ^ n := by decide +kernel
theorem bit_all : ∀ n : Nat, n ≤ 6 → ∀ i : Nat, i < n → bitA (2 ^ n - 1) i = 1 := by decide +kernel
theorem pow_le64 {n : Nat} (h : n ≤ 6) : 2 ^ n ≤ 64 := Nat.pow_le_pow_right (by omega) h
/-- How many carriers a set has. -/
def pc (c : Nat) : Nat → Nat
  | 0 => 0
  | i + 1 => pc c i + bitA c i
theorem pc_le (c n : Nat) : pc c n ≤ n := by
  induction n with
  | zero => exact Nat.le_refl _
  | succ n ih => have := bit_cases c n; show pc c n + bitA c n ≤ n + 1; omega
theorem pc_sub {c i : Nat} (hc : c < 64) (hi : i < 6) (hb : bitA c i = 1) : ∀ n, n ≤ 6 → pc (c - 2 ^ i) n + (if i < n then 1 else 0) = pc c n
  | 0, _ => by simp [pc]
  | n + 1, h => by
    have ih := pc_sub hc hi hb n (by omega)
    have hs := bit_sub c hc i hi hb n (by omega)
    show pc (c - 2 ^ i) n + bitA (c - 2 ^ i) n + _ = pc c n + bitA c n
    rw [hs]
    by_cases e : n = i
    · subst e
      rw [if_neg (Nat.lt_irrefl _)] at ih
      rw [if_pos rfl, if_pos (by omega), hb]
      omega
    · rw [if_neg e]
      by_cases h2 : i < n
      · rw [if_pos h2] at ih; rw [if_pos (by omega)]; omega
      · rw [if_neg h2] at ih; rw [if_neg (by omega)]; omega
/-- The entry of the set c out of the entries before it. -/
def cellF (s : Int) (l : List S63) (a : Int) (T : List Int) (c : Nat) : Nat → Int
  | 0 => a
  | i + 1 => if bitA c i = 1 then mx (cellF s l a T c i) (stp s (l.getD i z63) (rd T ((c - 2 ^ i : Nat) : Int))) else cellF s l a T c i
def tbL (s : Int) (l : List S63) (a : Int) : Nat → List Int
  | 0 => []
  | c + 1 => tbL s l a c ++ [cellF s l a (tbL s l a c) c l.length]
theorem tbL_len (s : Int) (l : List S63) (a : Int) (c : Nat) : (tbL s l a c).length = c := by
  induction c with
  | zero => rfl
  | succ c ih => show (_ ++ [_]).length = _; rw [List.length_append, ih]; rfl
theorem tbL_rd (s : Int) (l : List S63) (a : Int) {c d : Nat} (h : c < d) : rd (tbL s l a d) (c : Int) = cellF s l a (tbL s l a c) c l.length := by
  induction d with
  | zero => omega
  | succ d ih =>
    show rd (tbL s l a d ++ [_]) (c : Int) = _
    by_cases e : c = d
    · subst e
      have := rd_snoc (tbL s l a c) (cellF s l a (tbL s l a c) c l.length)
      rw [tbL_len] at this
      exact this
    · rw [rd_app_l (by rw [tbL_len]; omega)]
      exact ih (by omega)
def V (s : Int) (l : List S63) (a : Int) (c : Nat) : Int := cellF s l a (tbL s l a c) c l.length
theorem cellF_ge (s : Int) (l : List S63) (a : Int) (T : List Int) (c : Nat) : ∀ n, a ≤ cellF s l a T c n ∧ ∀ i, i < n → bitA c i = 1 → stp s (l.getD i z63) (rd T ((c - 2 ^ i : Nat) : Int)) ≤ cellF s l a T c n
  | 0 => ⟨Int.le_refl _, fun i h => by omega⟩
  | n + 1 => by
    have ih := cellF_ge s l a T c n
    unfold cellF
    have hm := mx_ge (cellF s l a T c n) (stp s (l.getD n z63) (rd T ((c - 2 ^ n : Nat) : Int)))
    by_cases hb : bitA c n = 1
    · rw [if_pos hb]
      refine ⟨by omega, fun i hi hbi => ?_⟩
      by_cases e : i = n
      · subst e; exact hm.2.1
      · have := ih.2 i (by omega) hbi; omega
    · rw [if_neg hb]
      refine ⟨ih.1, fun i hi hbi => ?_⟩
      by_cases e : i = n
      · subst e; exact absurd hbi hb
      · exact ih.2 i (by omega) hbi
theorem cellF_mem (s : Int) (l : List S63) (a : Int) (T : List Int) (c : Nat) : ∀ n, cellF s l a T c n = a ∨ ∃ i, i < n ∧ bitA c i = 1 ∧ cellF s l a T c n = stp s (l.getD i z63) (rd T ((c - 2 ^ i : Nat) : Int))
  | 0 => .inl rfl
  | n + 1 => by
    have ih := cellF_mem s l a T c n
    unfold cellF
    have hm := mx_ge (cellF s l a T c n) (stp s (l.getD n z63) (rd T ((c - 2 ^ n : Nat) : Int)))
    have lift : cellF s l a T c n = a ∨ ∃ i, i < n + 1 ∧ bitA c i = 1 ∧ cellF s l a T c n = stp s (l.getD i z63) (rd T ((c - 2 ^ i : Nat) : Int)) := by
      rcases ih with h | ⟨i, h1, h2, h3⟩
      · exact .inl h
      · exact .inr ⟨i, by omega, h2, h3⟩
    by_cases hb : bitA c n = 1
    · rw [if_pos hb]
      rcases hm.2.2 with h | h
      · rw [h]; exact lift
      · exact .inr ⟨n, by omega, hb, h⟩
    · rw [if_neg hb]; exact lift
/-- Of different carriers, all of the set c. -/
def inSet (n c : Nat) (o : List Int) : Prop := o.Nodup ∧ ∀ x ∈ o, ∃ i : Nat, x = (i : Int) ∧ i < n ∧ bitA c i = 1
theorem rch_snoc (s : Int) (l : List S63) (o : List Int) (i : Nat) (a : Int) : rch s l (o ++ [(i : Int)]) a = stp s (l.getD i z63) (rch s l o a) := by
  unfold rch
  rw [List.foldl_append, List.foldl_cons, List.foldl_nil, Int.toNat_natCast]
theorem V_mem {s : Int} {l : List S63} {a : Int} (hn : l.length ≤ 6) : ∀ c, c < 2 ^ l.length → ∃ o, inSet l.length c o ∧ o.length ≤ pc c l.length ∧ V s l a c = rch s l o a := by
  intro c
  induction c using Nat.strongRecOn with
  | _ c ih =>
    intro hc
    have h64 := pow_le64 hn
    rcases cellF_mem s l a (tbL s l a c) c l.length with h | ⟨i, hi, hb, h⟩
    · exact ⟨[], ⟨List.nodup_nil, fun x hx => by simp at hx⟩, by simp, h⟩
    · have hp := bit_le hb
      have hpos := Nat.two_pow_pos i
      obtain ⟨o, ⟨ho1, ho2⟩, ho3, ho4⟩ := ih (c - 2 ^ i) (by omega) (by omega)
      have hs := bit_sub c (by omega) i (by omega) hb
      refine ⟨o ++ [(i : Int)], ⟨?_, fun x hx => ?_⟩, ?_, ?_⟩
      · rw [List.nodup_append]
        refine ⟨ho1, by simp, fun x hx y hy e => ?_⟩
        simp only [List.mem_singleton] at hy
        subst e
        obtain ⟨j, e1, hj, hbj⟩ := ho2 x hx
        have : j = i := by omega
        subst this
        rw [hs j (by omega), if_pos rfl] at hbj
        omega
      · simp only [List.mem_append, List.mem_singleton] at hx
        rcases hx with hx | rfl
        · obtain ⟨j, e1, hj, hbj⟩ := ho2 x hx
          rw [hs j (by omega)] at hbj
          by_cases e : j = i
          · rw [if_pos e] at hbj; omega
          · rw [if_neg e] at hbj; exact ⟨j, e1, hj, hbj⟩
        · exact ⟨i, rfl, hi, hb⟩
      · have := pc_sub (by omega) (by omega) hb l.length hn
        rw [if_pos hi] at this
        simp only [List.length_append, List.length_singleton]
        omega
      · rw [rch_snoc, ← ho4]
        show V s l a c = _
        unfold V
        rw [h, tbL_rd s l a (by omega)]
theorem V_in {s : Int} {l : List S63} {a : Int} (hn : l.length ≤ 6) (ha : 0 ≤ a ∧ a ≤ s - 1) (c : Nat) (hc : c < 2 ^ l.length) : a ≤ V s l a c ∧ V s l a c ≤ s - 1 := by
  refine ⟨(cellF_ge s l a _ c l.length).1, ?_⟩
  obtain ⟨o, _, _, h⟩ := V_mem (s := s) (a := a) hn c hc
  rw [h]
  have : ∀ (o : List Int) (x : Int), 0 ≤ x ∧ x ≤ s - 1 → rch s l o x ≤ s - 1 := by
    intro o
    induction o with
    | nil => intro x hx; exact hx.2
    | cons y o ih =>
      intro x hx
      have := stp_in (s := s) (c := l.getD y.toNat z63) hx
      show rch s l o (stp s (l.getD y.toNat z63) x) ≤ s - 1
      exact ih _ (by omega)
  exact this o a ha
theorem V_ge {s : Int} {l : List S63} {a : Int} (hn : l.length ≤ 6) (ha : 0 ≤ a ∧ a ≤ s - 1) : ∀ (m : Nat) (o : List Int), o.length = m → ∀ c, c < 2 ^ l.length → inSet l.length c o → rch s l o a ≤ V s l a c := by
  intro m
  induction m with
  | zero =>
    intro o ho c hc _
    have : o = [] := List.length_eq_zero_iff.1 ho
    subst this
    exact (V_in hn ha c hc).1
  | succ m ih =>
    intro o ho c hc hset
    have hne : o ≠ [] := fun e => by rw [e] at ho; simp at ho
    have eo := List.dropLast_concat_getLast hne
    obtain ⟨h1, h2⟩ := hset
    obtain ⟨i, ei, hi, hb⟩ := h2 _ (List.getLast_mem hne)
    have h64 := pow_le64 hn
    have hp := bit_le hb
    have hpos := Nat.two_pow_pos i
    rw [ei] at eo
    have hs := bit_sub c (by omega) i (by omega) hb
    rw [← eo] at h1 h2
    rw [List.nodup_append] at h1
    have hsub : inSet l.length (c - 2 ^ i) o.dropLast := by
      refine ⟨h1.1, fun x hx => ?_⟩
      obtain ⟨j, e1, hj, hbj⟩ := h2 x (List.mem_append_left _ hx)
      refine ⟨j, e1, hj, ?_⟩
      rw [hs j (by omega)]
      by_cases e : j = i
      · subst e
        exact absurd e1 (h1.2.2 x hx _ (List.mem_singleton.2 rfl))
      · rw [if_neg e]; exact hbj
    have hr := ih o.dropLast (by rw [List.length_dropLast]; omega) (c - 2 ^ i) (by omega) hsub
    rw [← eo, rch_snoc]
    have hv := V_in (s := s) (l := l) (a := a) hn ha (c - 2 ^ i) (by omega)
    refine Int.le_trans (stp_mono hr hv.2) ?_
    have hg := (cellF_ge s l a (tbL s l a c) c l.length).2 i hi hb
    rw [tbL_rd s l a (by omega)] at hg
    exact hg
theorem lv_mem {n : Nat} : ∀ (m : Nat) (o : List Int), o.length = m → o.Nodup → (∀ x ∈ o, ∃ i : Nat, x = (i : Int) ∧ i < n) → o ∈ lv n m
  | 0, o, h, _, _ => by have : o = [] := List.length_eq_zero_iff.1 h; subst this; simp [lv]
  | m + 1, o, h, hd, hx => by
    have hne : o ≠ [] := fun e => by rw [e] at h; simp at h
    have eo := List.dropLast_concat_getLast hne
    obtain ⟨i, ei, hi⟩ := hx _ (List.getLast_mem hne)
    rw [ei] at eo
    rw [← eo, List.nodup_append] at hd
    simp only [lv, List.mem_flatMap]
    refine ⟨o.dropLast, lv_mem m o.dropLast (by rw [List.length_dropLast]; omega) hd.1 (fun x hx2 => hx x ((List.dropLast_sublist o).subset hx2)), ?_⟩
    unfold exO
    simp only [List.drop_zero, List.mem_map, List.mem_filter, List.mem_range, decide_eq_true_eq]
    exact ⟨i, ⟨hi, fun hm => hd.2.2 _ hm _ (List.mem_singleton.2 rfl) rfl⟩, eo⟩
theorem lv_nodup {n : Nat} : ∀ (m : Nat) (o : List Int), o ∈ lv n m → o.Nodup
  | 0, o, h => by simp only [lv, List.mem_singleton] at h; subst h; exact List.nodup_nil
  | m + 1, o, h => by
    simp only [lv, List.mem_flatMap] at h
    obtain ⟨p, hp, ho⟩ := h
    have ih := lv_nodup m p hp
    unfold exO at ho
    simp only [List.drop_zero, List.mem_map, List.mem_filter, List.mem_range, decide_eq_true_eq] at ho
    obtain ⟨y, ⟨_, hy⟩, rfl⟩ := ho
    rw [List.nodup_append]
    refine ⟨ih, by simp, fun x hx z hz e => ?_⟩
    simp only [List.mem_singleton] at hz
    subst e hz
    exact hy hx

theorem l7Table_ev (s : Int) (l : List S63) (a : Int) (hs : 2 ≤ s ∧ s ≤ 24) (hl : saneC s l) (hn : l.length ≤ 6) (ha : 0 ≤ a ∧ a ≤ s - 1) : Ev (fun k => spec_l7Table.f k s false l a) (tbL s l a (2 ^ l.length)) := by
  have h64 := pow_le64 hn
  have key := down (P := fun c => Ev (fun k => spec_l7Table.l0 k l a (tbL s l a c) (c : Int) s false) (tbL s l a (2 ^ l.length))) (n := 2 ^ l.length)
    (ev_now (fun k => by simp only [spec_l7Table.l0]; rw [shl_one (by omega), if_neg (Int.lt_irrefl _)]))
    (fun c hc ih => by
      have k2 := down (P := fun i => Ev (fun k => spec_l7Table.l1 k l a (tbL s l a c) (c : Int) (cellF s l a (tbL s l a c) c i) (i : Int) s false) (tbL s l a (2 ^ l.length))) (n := l.length)
        (by
          refine Ev.step (fun k => ?_) ih
          simp only [spec_l7Table.l1]
          rw [if_neg (by omega), tbL_len, if_pos (by omega), w64s hc (by omega)]
          rfl)
        (fun i hi ih2 => by
          by_cases hb : bitA c i = 1
          · have hle := bit_le hb
            have hpos := Nat.two_pow_pos i
            have e1 : cellF s l a (tbL s l a c) c (i + 1) = mx (cellF s l a (tbL s l a c) c i) (stp s (l.getD i z63) (rd (tbL s l a c) ((c - 2 ^ i : Nat) : Int))) := by
              show (if bitA c i = 1 then _ else _) = _
              rw [if_pos hb]
            rw [e1] at ih2
            have hv := V_in (s := s) (l := l) (a := a) hn ha (c - 2 ^ i) (by omega)
            have er : rd (tbL s l a c) ((c - 2 ^ i : Nat) : Int) = V s l a (c - 2 ^ i) := tbL_rd s l a (by omega)
            have hr := l7Reach_ev s l [(i : Int)] (rd (tbL s l a c) ((c - 2 ^ i : Nat) : Int)) hs hl ⟨by simp, fun x hx => ⟨i, by simpa using hx, hi⟩⟩ (by rw [er]; omega)
            have e2 : rch s l [(i : Int)] (rd (tbL s l a c) ((c - 2 ^ i : Nat) : Int)) = stp s (l.getD i z63) (rd (tbL s l a c) ((c - 2 ^ i : Nat) : Int)) := by
              unfold rch; rw [List.foldl_cons, List.foldl_nil, Int.toNat_natCast]
            rw [e2] at hr
            have hsub : wrap64 ((c : Int) - shl .i64 1 (i : Int)) = ((c - 2 ^ i : Nat) : Int) := by
              rw [shl_one (by omega), w64 (by omega) (by omega)]; omega
            refine Ev.step (f := fun k => (spec_l7Reach.f k s false l [(i : Int)] (rd (tbL s l a c) ((c - 2 ^ i : Nat) : Int))).bind fun t => spec_l7Table.l1 k l a (tbL s l a c) (c : Int) (mx (cellF s l a (tbL s l a c) c i) t) ((i + 1 : Nat) : Int) s false) (fun k => ?_) (Ev.bind hr ih2)
            simp only [spec_l7Table.l1, hsub, l1Most_eq, Option.bind_some]
            rw [if_pos (by omega), if_pos (by omega), bit_read (by omega) (by omega), hb, if_pos (by omega), if_pos (by omega), tbL_len, if_pos (by omega), w64s hi (by omega)]
          · have e1 : cellF s l a (tbL s l a c) c (i + 1) = cellF s l a (tbL s l a c) c i := by
              show (if bitA c i = 1 then _ else _) = _
              rw [if_neg hb]
            rw [e1] at ih2
            refine Ev.step (fun k => ?_) ih2
            simp only [spec_l7Table.l1]
            rw [if_pos (by omega), if_pos (by omega), bit_read (by omega) (by omega), if_neg (by omega), w64s hi (by omega)])
      refine Ev.step (fun k => ?_) (k2 0 (by omega))
      simp only [spec_l7Table.l0]
      rw [shl_one (by omega), if_pos (by omega)]
      rfl)
  exact key 0 (Nat.zero_le _)
theorem seek_none {p : List Int → Bool} {n : Nat} : ∀ {j m}, seek p n j m = none → ∀ m', m ≤ m' → m' < m + j → ∀ o ∈ lv n m', p o = false
  | 0, m, _, m', h1, h2, _, _ => by omega
  | j + 1, m, h, m', h1, h2, o, ho => by
    unfold seek at h
    cases hf : (lv n m).find? p with
    | some q => rw [hf] at h; simp at h
    | none =>
      rw [hf] at h
      by_cases e : m' = m
      · subst e
        have := List.find?_eq_none.1 hf o ho
        simpa using this
      · exact seek_none h m' (by omega) (by omega) o ho
theorem full_iff {s : Int} {l : List S63} {a b : Int} (hn : l.length ≤ 6) (ha : 0 ≤ a ∧ a ≤ s - 1) : b ≤ V s l a (2 ^ l.length - 1) ↔ (seek (fun o => decide (b ≤ rch s l o a)) l.length (l.length + 1) 0).isSome = true := by
  have hpos := Nat.two_pow_pos l.length
  constructor
  · intro h
    obtain ⟨o, ⟨h1, h2⟩, h3, h4⟩ := V_mem (s := s) (l := l) (a := a) hn (2 ^ l.length - 1) (by omega)
    have hp := pc_le (2 ^ l.length - 1) l.length
    cases hk : seek (fun o => decide (b ≤ rch s l o a)) l.length (l.length + 1) 0 with
    | some _ => rfl
    | none =>
      have := seek_none hk o.length (by omega) (by omega) o (lv_mem o.length o rfl h1 (fun x hx => by obtain ⟨i, e, hi, _⟩ := h2 x hx; exact ⟨i, e, hi⟩))
      rw [decide_eq_false_iff_not] at this
      omega
  · intro h
    obtain ⟨o, ho⟩ := Option.isSome_iff_exists.1 h
    obtain ⟨h1, m', _, h3, h4⟩ := seek_mem ho
    have hb := of_decide_eq_true h1
    have hok := lv_ok _ _ _ h4
    have := V_ge (s := s) (l := l) hn ha o.length o rfl (2 ^ l.length - 1) (by omega) ⟨lv_nodup m' o h4, fun x hx => by
      obtain ⟨i, e, hi⟩ := hok.2 x hx
      exact ⟨i, e, hi, bit_all l.length hn i hi⟩⟩
    omega

def moreC (l : List S63) (e : Int) : List S63 := tg l.length (fun q => ⟨(l.getD q z63).f0, (l.getD q z63).f1 + e, (l.getD q z63).f2⟩)
theorem moreC_len (l : List S63) (e : Int) : (moreC l e).length = l.length := tg_len _ _
theorem more_sane {s : Int} {r : Bool} {l : List S63} {e : Int} (h : carV s r l = true) (he : 0 ≤ e ∧ e ≤ 100) : saneC s (moreC l e) := by
  intro j hj
  rw [moreC_len] at hj
  have := (carV_of h).2.2 j hj
  have h2 := this.2.1
  unfold moreC
  rw [tg_get hj]
  exact ⟨this.1, by show 0 ≤ _ + e; omega, by show _ + e ≤ 1000; omega⟩
theorem l7More_ev (s : Int) (r : Bool) (l : List S63) (e : Int) (h : carV s r l = true) (he : 0 ≤ e ∧ e ≤ 100) : Ev (fun k => spec_l7More.f k l e) (moreC l e) := by
  have hn := (carV_of h).2.1
  have key := down (P := fun i => Ev (fun k => spec_l7More.l0 k l e (tg i (fun q => ⟨(l.getD q z63).f0, (l.getD q z63).f1 + e, (l.getD q z63).f2⟩)) (i : Int)) (moreC l e)) (n := l.length)
    (ev_now (fun k => by simp only [spec_l7More.l0]; rw [if_neg (by omega)]; rfl))
    (fun i hi ih => by
      have hc := ((carV_of h).2.2 i hi).2.1
      refine Ev.step (fun k => ?_) ih
      simp only [spec_l7More.l0, rdC_nat]
      rw [if_pos (by omega), if_pos (by omega), tg_len, if_pos (by omega), w64s hi (by omega), w64 (by omega) (by omega), tg_snoc i (fun q => (⟨(l.getD q z63).f0, (l.getD q z63).f1 + e, (l.getD q z63).f2⟩ : S63))])
  exact key 0 (by omega)
def hitE (s : Int) (l : List S63) (a b : Int) (e : Nat) : Bool := (seek (fun o => decide (b ≤ rch s (moreC l (e : Int)) o a)) l.length (l.length + 1) 0).isSome
def seekE (p : Nat → Bool) : Nat → Nat → Int × Bool
  | 0, _ => (0, false)
  | j + 1, e => if p e = true then ((e : Int), true) else seekE p j (e + 1)
def extraR (s : Int) (r : Bool) (l : List S63) (a b : Int) : Int × Bool := if asksV s r l a b = true then seekE (hitE s l a b) 49 0 else (0, false)
theorem specExtra_ev (s : Int) (r : Bool) (l : List S63) (a b : Int) (hl : l.length ≤ 1048576) : Ev (fun k => spec_ExtraRange.f k s r l a b) (extraR s r l a b) := by
  unfold spec_ExtraRange.f extraR
  refine Ev.bind (l7Asks_ev s r l a b hl) ?_
  cases hv : asksV s r l a b with
  | false =>
    simp only [Bool.false_eq_true, if_false]
    exact Ev.now _
  | true =>
    obtain ⟨hc, hab⟩ := asks_of hv
    obtain ⟨⟨hs, rfl⟩, hn, _⟩ := carV_of hc
    simp only [if_true]
    have hpos := Nat.two_pow_pos l.length
    have h64 := pow_le64 hn
    have key := down (P := fun e => Ev (fun k => spec_ExtraRange.l0 k l a b (e : Int) s false) (seekE (hitE s l a b) (49 - e) e)) (n := 49)
      (ev_now (fun k => by simp only [spec_ExtraRange.l0]; rw [if_neg (by omega)]; rfl))
      (fun e he ih => by
        have e49 : 49 - e = (49 - (e + 1)) + 1 := by omega
        rw [e49]
        have ht := l7Table_ev s (moreC l (e : Int)) a hs (more_sane hc (by omega)) (by rw [moreC_len]; exact hn) (by omega)
        rw [moreC_len] at ht
        have hw : wrap64 (((2 ^ l.length : Nat) : Int) - 1) = ((2 ^ l.length - 1 : Nat) : Int) := by rw [w64 (by omega) (by omega)]; omega
        refine Ev.step (f := fun k => (spec_l7More.f k l (e : Int)).bind fun t => (spec_l7Table.f k s false t a).bind fun u => if 0 ≤ wrap64 ((u.length : Int) - 1) then (if wrap64 ((u.length : Int) - 1) < (u.length : Int) then (if rd u (wrap64 ((u.length : Int) - 1)) ≥ b then some ((e : Int), true) else spec_ExtraRange.l0 k l a b ((e + 1 : Nat) : Int) s false) else none) else none) (fun k => ?_) (Ev.bind (l7More_ev s false l (e : Int) hc (by omega)) (Ev.bind ht ?_))
        · simp only [spec_ExtraRange.l0]
          rw [if_pos (by omega), w64s (n := 49) he (by omega)]
        · rw [tbL_len, hw, tbL_rd s (moreC l (e : Int)) a (show 2 ^ l.length - 1 < 2 ^ l.length by omega)]
          refine ev_pos (by omega) (ev_pos (by omega) ?_)
          have hf := full_iff (s := s) (l := moreC l (e : Int)) (a := a) (b := b) (by rw [moreC_len]; exact hn) (by omega)
          rw [moreC_len] at hf
          unfold seekE
          by_cases hh : b ≤ V s (moreC l (e : Int)) a (2 ^ l.length - 1)
          · rw [if_pos (show hitE s l a b e = true from hf.1 hh)]
            exact ev_pos hh (Ev.now _)
          · rw [if_neg (show ¬ hitE s l a b e = true from fun z => hh (hf.2 z))]
            exact ev_neg hh ih)
    exact key 0 (by omega)
theorem implExtra_ev (s : Int) (r : Bool) (l : List S63) (a b : Int) (hl : l.length ≤ 1048576) : Ev (fun k => impl_ExtraRange.f k s r l a b) (extraR s r l a b) := by
  unfold impl_ExtraRange.f extraR
  refine Ev.bind (isCarried_ev s r l a b hl) ?_
  cases hv : asksV s r l a b with
  | false =>
    simp only [Bool.false_eq_true, if_false]
    exact Ev.now _
  | true =>
    obtain ⟨hc, hab⟩ := asks_of hv
    obtain ⟨⟨hs, rfl⟩, hn, _⟩ := carV_of hc
    simp only [if_true]
    have key := down (P := fun e => Ev (fun k => impl_ExtraRange.l0 k l a b (e : Int) s false) (seekE (hitE s l a b) (49 - e) e)) (n := 49)
      (ev_now (fun k => by simp only [impl_ExtraRange.l0]; rw [if_neg (by omega)]; rfl))
      (fun e he ih => by
        have e49 : 49 - e = (49 - (e + 1)) + 1 := by omega
        rw [e49]
        obtain ⟨r2, h3⟩ := reach3_ev s (moreC l (e : Int)) a b hs (more_sane hc (by omega)) (by rw [moreC_len]; exact hn) (by omega)
        rw [moreC_len] at h3
        have k2 := down (P := fun i => Ev (fun k => impl_ExtraRange.l1 k l a b (e : Int) (tg i (fun q => ⟨(l.getD q z63).f0, (l.getD q z63).f1 + (e : Int), (l.getD q z63).f2⟩)) (e : Int) l (l.length : Int) (i : Int) s false) (seekE (hitE s l a b) (49 - (e + 1) + 1) e)) (n := l.length)
          (by
            refine Ev.step (f := fun k => (reachOrder3.f k s false (moreC l (e : Int)) a b).bind fun t => if t.2.2 = true then some ((e : Int), true) else impl_ExtraRange.l0 k l a b ((e + 1 : Nat) : Int) s false) (fun k => ?_) (Ev.bind h3 ?_)
            · simp only [impl_ExtraRange.l1]
              rw [if_neg (by omega), w64s (n := 49) he (by omega)]
              rfl
            · unfold seekE
              by_cases hh : hitE s l a b e = true
              · rw [if_pos hh]
                exact ev_pos hh (Ev.now _)
              · rw [if_neg hh]
                exact ev_neg hh ih)
          (fun i hi ih2 => by
            have hcc := ((carV_of hc).2.2 i hi).2.1
            refine Ev.step (fun k => ?_) ih2
            simp only [impl_ExtraRange.l1, rdC_nat]
            rw [if_pos (by omega), if_pos (by omega), if_pos (by omega), tg_len, if_pos (by omega), w64s hi (by omega), w64 (by omega) (by omega), tg_snoc i (fun q => (⟨(l.getD q z63).f0, (l.getD q z63).f1 + (e : Int), (l.getD q z63).f2⟩ : S63))])
        refine Ev.step (fun k => ?_) (k2 0 (by omega))
        simp only [impl_ExtraRange.l0]
        rw [if_pos (by omega)]
        rfl)
    exact key 0 (by omega)

theorem FnExactExtraRange : FnExactExtraRangeLeft := by
  intro s r l0 a b _ hm _ _ _
  refine Ev.rounds (g := fun k => laws_FnExactExtraRange.f k s r l0 a b) ?_
  unfold laws_FnExactExtraRange.f
  refine ev_bind0 (szCarrierS_eq l0 hm) ?_
  by_cases h : 1048576 - (l0.length : Int) < 0
  · rw [if_pos h]; exact ev_pos (by omega) (Ev.now _)
  rw [if_neg h]
  refine ev_neg h ?_
  have hl0 : l0.length ≤ 1048576 := by omega
  have hl : (cvC l0).length ≤ 1048576 := by rw [cvC_len]; exact hl0
  repeat (first
    | exact Ev.now _
    | (with_reducible refine Ev.bind (toCarrierS_ev _ hl0) ?_; try dsimp only)
    | (with_reducible refine Ev.bind (specExtra_ev _ _ _ _ _ hl) ?_; try dsimp only)
    | (with_reducible refine Ev.bind (implExtra_ev _ _ _ _ _ hl) ?_; try dsimp only)
    | (with_reducible refine Ev.bind (eqCarrierS_self _ (by omega)) ?_; try dsimp only)
    | (refine ev_bind0 (toRoad_eq _ _) ?_; try dsimp only)
    | (refine ev_pos (by first | exact True.intro | rfl | assumption | omega) ?_; try dsimp only)
    | (refine ev_neg (by first | (simp; done) | omega) ?_; try dsimp only)
    | (refine Ev.step (fun k => by simp only [laws_FnExactExtraRange.j0]; rfl) ?_))

end Go.Proofs.Ythagkpoinjpmfaa.Pure
