/- FnExactRelayArrival: the left statement: for every road, carriers, places and legs the law answers true. No condition. -/
import Derived.Test.YthagkpoinjpmfaaQFnExactRelayArrivalx8
import Derived.Test.YthagkpoinjpmfaaBase
import Derived.Test.YthagkpoinjpmfaaBits
import Derived.Test.YthagkpoinjpmfaaBitsOn
namespace Go.Proofs.Ythagkpoinjpmfaa.Pure
open Go.RowKit Go.Proofs.Ythagkpoinjpmfaa.QFnExactRelayArrival Go.Proofs.YthagkpoinjpmfaaW.PrintWords Go.Proofs.YthagkpoinjpmfaaW.PrintLast Go.Proofs.Ythagkpoinjpmfaa.Base
set_option linter.unusedVariables false
set_option linter.unusedSimpArgs false

def FnExactRelayArrivalLeft : Prop := ∀ (a0_0 : Int) (a0_1 : Bool) (l1 : List S75) (a2 : Int) (a3 : Int) (l4 : List S70), (Lit.int .i64 a0_0).wf = true → l1.length ≤ maxLen → (∀ x ∈ l1, (Lit.int .i64 x.f0).wf = true ∧ (Lit.int .i64 x.f1).wf = true ∧ (Lit.int .i64 x.f2).wf = true) → (Lit.int .i64 a2).wf = true → (Lit.int .i64 a3).wf = true → l4.length ≤ maxLen → (∀ x ∈ l4, (Lit.int .i64 x.f0).wf = true ∧ (Lit.int .i64 x.f1).wf = true ∧ (Lit.int .i64 x.f2).wf = true) → ∃ k, laws_FnExactRelayArrival.f k a0_0 a0_1 l1 a2 a3 l4 = some true

def cvC (l : List S75) : List S63 := tg l.length (fun q => ⟨(l.getD q z75).f0, (l.getD q z75).f1, (l.getD q z75).f2⟩)
theorem cvC_len (l : List S75) : (cvC l).length = l.length := tg_len _ _
theorem toCarrierS_ev (l : List S75) (hl : l.length ≤ 1048576) : Ev (fun k => laws_toCarrierS.f k l) (cvC l) := by
  have key := down (P := fun i => Ev (fun k => laws_toCarrierS.l0 k l (tg l.length (fun q => if q < i then ⟨(l.getD q z75).f0, (l.getD q z75).f1, (l.getD q z75).f2⟩ else z63)) (i : Int)) (cvC l)) (n := l.length)
    (ev_now (fun k => by
      simp only [laws_toCarrierS.l0]
      rw [if_neg (by omega)]
      congr 1
      exact tg_congr (fun q hq => by rw [if_pos hq])))
    (fun i hi ih => by
      refine Ev.step (fun k => ?_) ih
      simp only [laws_toCarrierS.l0, laws_toCarrier.f, Option.bind_some]
      rw [if_pos (by omega), if_pos (by omega), if_pos (by rw [tg_len]; omega), w64s hi (by omega), Int.toNat_natCast, tg_set]
      congr 1
      refine tg_congr (fun q _ => ?_)
      by_cases e : q = i
      · subst e; rw [if_pos rfl, if_pos (by omega)]; rfl
      · rw [if_neg e]
        by_cases e2 : q < i
        · rw [if_pos e2, if_pos (by omega)]
        · rw [if_neg e2, if_neg (by omega)])
  unfold laws_toCarrierS.f
  refine ev_pos (by omega) (ev_pos (by omega) ?_)
  rw [Int.toNat_natCast, tg_rep]
  have k0 := key 0 (by omega)
  simpa using k0
theorem szCarrierS_eq (l : List S75) (hl : l.length ≤ maxLen) : laws_szCarrierS.f l 1048576 = some (if 1048576 - (l.length : Int) < 0 then -1 else 1048576 - (l.length : Int)) := by
  have hm : l.length ≤ 9223372036854775807 := by simpa [maxLen] using hl
  unfold laws_szCarrierS.f
  rw [w64 (by omega) (by omega)]
  split <;> rfl
theorem toRoad_eq (s : Int) (r : Bool) : laws_toRoad.f s r = some (s, r) := rfl

theorem eqCarrierS_self (l : List S63) (hl : l.length ≤ 1048576) : Ev (fun k => laws_eqCarrierS.f k l l) true := by
  have key := down (P := fun i => Ev (fun k => laws_eqCarrierS.l0 k l l (i : Int)) true) (n := l.length)
    (ev_now (fun k => by simp only [laws_eqCarrierS.l0]; rw [if_neg (by omega)]))
    (fun i hi ih => by
      refine Ev.step (fun k => ?_) ih
      simp only [laws_eqCarrierS.l0, laws_eqCarrier.f, if_true, Option.bind_some]
      rw [if_pos (by omega), if_pos (by omega), if_pos (by omega), w64s hi (by omega)])
  unfold laws_eqCarrierS.f
  exact ev_pos rfl (key 0 (by omega))

theorem l1In_eq (a b c : Int) : spec_l1In.f a b c = some (inR b c a) := by
  unfold spec_l1In.f inR
  by_cases h : a ≥ b
  · have h' : b ≤ a := h
    rw [if_pos h]; simp [h']
  · have h' : ¬ b ≤ a := h
    rw [if_neg h]; simp [h']

theorem within_eq (a b c : Int) : impl_within.f a b c = some (inR b c a) := by
  unfold impl_within.f inR
  by_cases h : a ≥ b
  · have h' : b ≤ a := h
    rw [if_pos h]; simp [h']
  · have h' : ¬ b ≤ a := h
    rw [if_neg h]; simp [h']

def lineV (s : Int) (r : Bool) : Bool := inR 2 24 s && !r
theorem line_of {s : Int} {r : Bool} (h : lineV s r = true) : (2 ≤ s ∧ s ≤ 24) ∧ r = false := by
  unfold lineV at h
  rw [Bool.and_eq_true, inR_iff] at h
  exact ⟨h.1, by simpa using h.2⟩
theorem l2Road_eq (s : Int) (r : Bool) : spec_l2Road.f s r = some (inR 2 24 s && (!r || decide (s > 2))) := by
  unfold spec_l2Road.f
  simp only [l1In_eq, Option.bind_some]
  cases inR 2 24 s <;> cases r <;> simp
theorem isRoad_eq (s : Int) (r : Bool) : impl_IsRoad.f s r = some (inR 2 24 s && (!r || decide (s > 2))) := by
  unfold impl_IsRoad.f
  simp only [within_eq, Option.bind_some]
  cases h : inR 2 24 s <;> cases r <;> simp <;> omega
theorem isLine_eq (s : Int) (r : Bool) : impl_isLine.f s r = some (lineV s r) := by
  unfold impl_isLine.f lineV
  simp only [isRoad_eq, Option.bind_some]
  cases inR 2 24 s <;> cases r <;> simp

theorem l3Line_eq (s : Int) (r : Bool) (a : Int) : spec_l3Line.f s r a = some (lineV s r && inR 0 (s - 1) a) := by
  unfold spec_l3Line.f lineV
  simp only [l2Road_eq, l1In_eq, Option.bind_some]
  cases h : inR 2 24 s with
  | false => simp
  | true =>
    have hs := inR_iff.1 h
    rw [w64 (by omega) (by omega)]
    cases r <;> simp

theorem allWithin_ev (l : List Int) (a b : Int) (hl : l.length ≤ 1152921504606846976) : Ev (fun k => impl_allWithin.f k l a b) (inAll a b l) := by
  have key := down (P := fun i => Ev (fun k => impl_allWithin.l0 k a b l (l.length : Int) (i : Int)) (inAll a b (l.drop i))) (n := l.length)
    (ev_now (fun k => by
      simp only [impl_allWithin.l0]
      rw [if_neg (by omega)]
      simp [inAll_nil]))
    (fun i hi ih => by
      rw [drop_cons hi, inAll_cons]
      cases hc : inR a b (rd l (i : Int)) with
      | true =>
        rw [Bool.true_and]
        refine Ev.step (fun k => ?_) ih
        simp only [impl_allWithin.l0, within_eq, Option.bind_some, hc, if_true]
        rw [if_pos (by omega), if_pos (by omega), if_pos (by omega), w64s hi hl]
      | false =>
        refine ev_now (fun k => ?_)
        simp only [impl_allWithin.l0, within_eq, Option.bind_some, hc, Bool.false_eq_true, if_false]
        rw [if_pos (by omega), if_pos (by omega), if_pos (by omega)]
        simp)
  exact key 0 (by omega)

def carC (s : Int) (l : List S63) (j : Nat) : Prop := (0 ≤ (l.getD j z63).f0 ∧ (l.getD j z63).f0 ≤ s - 1) ∧ (0 ≤ (l.getD j z63).f1 ∧ (l.getD j z63).f1 ≤ 48) ∧ 0 ≤ (l.getD j z63).f2 ∧ (l.getD j z63).f2 ≤ 20
instance (s : Int) (l : List S63) : DecidablePred (carC s l) := fun j => by unfold carC; infer_instance
def carV (s : Int) (r : Bool) (l : List S63) : Bool := (lineV s r && decide ((l.length : Int) ≤ 6)) && allF l.length (carC s l) 0
theorem carV_of {s : Int} {r : Bool} {l : List S63} (h : carV s r l = true) : ((2 ≤ s ∧ s ≤ 24) ∧ r = false) ∧ l.length ≤ 6 ∧ ∀ j, j < l.length → carC s l j := by
  unfold carV at h
  rw [Bool.and_eq_true, Bool.and_eq_true] at h
  have := of_decide_eq_true h.1.2
  exact ⟨line_of h.1.1, by omega, allF_of h.2⟩
theorem rdC_nat (l : List S63) (j : Nat) : rd_T63 l (j : Int) = l.getD j z63 := rfl
theorem l7Carriers_ev (s : Int) (r : Bool) (l : List S63) (hl : l.length ≤ 1048576) : Ev (fun k => spec_l7Carriers.f k s r l) (carV s r l) := by
  have key := down (P := fun i => Ev (fun k => spec_l7Carriers.l0 k l (i : Int) s r) ((lineV s r && decide ((l.length : Int) ≤ 6)) && allF l.length (carC s l) i)) (n := l.length)
    (ev_now (fun k => by
      simp only [spec_l7Carriers.l0, l2Road_eq, Option.bind_some]
      rw [if_neg (by omega), allF_end]
      unfold lineV
      cases inR 2 24 s <;> cases r <;> simp))
    (fun i hi ih => by
      rw [allF_step hi]
      have e3 : ∀ k, spec_l7Carriers.l0 (k + 1) l (i : Int) s r = if ((lineV s r && inR 0 (s - 1) (l.getD i z63).f0) && (inR 0 48 (l.getD i z63).f1 && inR 0 20 (l.getD i z63).f2)) = true then spec_l7Carriers.l0 k l ((i + 1 : Nat) : Int) s r else some false := by
        intro k
        simp only [spec_l7Carriers.l0, spec_l7Carrier.f, l3Line_eq, l1In_eq, Option.bind_some, rdC_nat]
        rw [if_pos (by omega), if_pos (by omega), w64s hi (by omega)]
        cases (lineV s r && inR 0 (s - 1) (l.getD i z63).f0) <;> cases inR 0 48 (l.getD i z63).f1 <;> cases inR 0 20 (l.getD i z63).f2 <;> rfl
      cases hL : lineV s r with
      | false =>
        refine ev_now (fun k => ?_)
        rw [e3, hL]; simp
      | true =>
        rw [hL] at ih
        by_cases hc : carC s l i
        · rw [decide_eq_true hc, Bool.true_and]
          refine Ev.step (fun k => ?_) ih
          rw [e3, hL, Bool.true_and, inR_iff.2 hc.1, inR_iff.2 hc.2.1, inR_iff.2 hc.2.2]
          rfl
        · rw [decide_eq_false hc, Bool.false_and, Bool.and_false]
          refine ev_now (fun k => ?_)
          rw [e3, hL, Bool.true_and, if_neg]
          intro h
          simp only [Bool.and_eq_true, inR_iff] at h
          exact hc ⟨h.1, h.2.1, h.2.2⟩)
  exact key 0 (by omega)
theorem areCarriers_ev (s : Int) (r : Bool) (l : List S63) (hl : l.length ≤ 1048576) (hs : 2 ≤ s ∧ s ≤ 24) : Ev (fun k => impl_Road_areCarriers.f k s r l) (decide ((l.length : Int) ≤ 6) && allF l.length (carC s l) 0) := by
  have key := down (P := fun i => Ev (fun k => impl_Road_areCarriers.l0 k l l (l.length : Int) (i : Int) s r) (decide ((l.length : Int) ≤ 6) && allF l.length (carC s l) i)) (n := l.length)
    (ev_now (fun k => by
      simp only [impl_Road_areCarriers.l0]
      rw [if_neg (by omega), allF_end, Bool.and_true]))
    (fun i hi ih => by
      rw [allF_step hi]
      have hh : Ev (fun k => impl_Road_has.f k s r [(l.getD i z63).f0]) (inR 0 (s - 1) (l.getD i z63).f0) := by
        unfold impl_Road_has.f
        rw [w64 (by omega) (by omega)]
        have := allWithin_ev [(l.getD i z63).f0] 0 (s - 1) (by simp)
        have e : inAll 0 (s - 1) [(l.getD i z63).f0] = inR 0 (s - 1) (l.getD i z63).f0 := by simp [inAll]
        rw [e] at this
        exact Ev.bind this (Ev.now _)
      refine Ev.step (f := fun k => (impl_Road_has.f k s r [(l.getD i z63).f0]).bind fun t => if t = true then (if (inR 0 48 (l.getD i z63).f1 && inR 0 20 (l.getD i z63).f2) = true then impl_Road_areCarriers.l0 k l l (l.length : Int) ((i + 1 : Nat) : Int) s r else some false) else some false) (fun k => ?_) (Ev.bind hh ?_)
      · simp only [impl_Road_areCarriers.l0, within_eq, Option.bind_some, rdC_nat]
        rw [if_pos (by omega), if_pos (by omega), if_pos (by omega), w64s hi (by omega)]
        cases inR 0 48 (l.getD i z63).f1 <;> cases inR 0 20 (l.getD i z63).f2 <;> rfl
      · by_cases hc : carC s l i
        · rw [decide_eq_true hc, Bool.true_and]
          exact ev_pos (inR_iff.2 hc.1) (ev_pos (by rw [inR_iff.2 hc.2.1, inR_iff.2 hc.2.2]; rfl) ih)
        · rw [decide_eq_false hc, Bool.false_and, Bool.and_false]
          by_cases h1 : inR 0 (s - 1) (l.getD i z63).f0 = true
          · exact ev_pos h1 (ev_neg (fun h2 => by
              simp only [Bool.and_eq_true, inR_iff] at h2
              exact hc ⟨inR_iff.1 h1, h2.1, h2.2⟩) (Ev.now _))
          · exact ev_neg h1 (Ev.now _))
  exact key 0 (by omega)
def asksV (s : Int) (r : Bool) (l : List S63) (a b : Int) : Bool := carV s r l && (inR 0 (s - 1) b && inR 0 b a)
theorem asks_of {s : Int} {r : Bool} {l : List S63} {a b : Int} (h : asksV s r l a b = true) : carV s r l = true ∧ (0 ≤ a ∧ a ≤ b ∧ b ≤ s - 1) := by
  unfold asksV at h
  simp only [Bool.and_eq_true, inR_iff] at h
  exact ⟨h.1, by omega⟩
theorem l7Asks_ev (s : Int) (r : Bool) (l : List S63) (a b : Int) (hl : l.length ≤ 1048576) : Ev (fun k => spec_l7Asks.f k s r l a b) (asksV s r l a b) := by
  unfold spec_l7Asks.f asksV
  refine Ev.bind (l7Carriers_ev s r l hl) ?_
  cases hv : carV s r l with
  | true =>
    obtain ⟨⟨hs, rfl⟩, _⟩ := carV_of hv
    simp only [if_true, spec_l2Place.f, l2Road_eq, l1In_eq, Option.bind_some]
    rw [inR_iff.2 hs, w64 (by omega) (by omega)]
    cases inR 0 (s - 1) b <;> simp <;> exact Ev.now _
  | false =>
    simp only [Bool.false_eq_true, if_false, Bool.false_and]
    exact Ev.now _
theorem isCarried_ev (s : Int) (r : Bool) (l : List S63) (a b : Int) (hl : l.length ≤ 1048576) : Ev (fun k => impl_isCarried.f k s r l [a, b]) (asksV s r l a b) := by
  unfold impl_isCarried.f asksV
  simp only [isLine_eq, Option.bind_some]
  cases hL : lineV s r with
  | false =>
    have : carV s r l = false := by unfold carV; rw [hL]; simp
    rw [this]
    simp only [Bool.false_eq_true, if_false, Bool.false_and]
    exact Ev.now _
  | true =>
    obtain ⟨hs, rfl⟩ := line_of hL
    have e : carV s false l = (decide ((l.length : Int) ≤ 6) && allF l.length (carC s l) 0) := by unfold carV; rw [hL]; rfl
    simp only [if_true]
    refine Ev.bind (areCarriers_ev s false l hl hs) ?_
    rw [← e]
    cases carV s false l with
    | false =>
      simp only [Bool.false_eq_true, if_false, Bool.false_and]
      exact Ev.now _
    | true =>
      simp only [if_true, Bool.true_and]
      have hh : Ev (fun k => impl_Road_has.f k s false [a, b]) (inAll 0 (s - 1) [a, b]) := by
        unfold impl_Road_has.f
        rw [w64 (by omega) (by omega)]
        exact Ev.bind (allWithin_ev [a, b] 0 (s - 1) (by simp)) (Ev.now _)
      refine Ev.bind hh ?_
      have es : Ev (fun k => slices_IsSorted_int_int.f k [a, b]) (decide (a ≤ b)) := by
        unfold slices_IsSorted_int_int.f
        have e1 : wrap64 ((([a, b] : List Int).length : Int) - 1) = 1 := by rw [w64 (by simp) (by simp)]; simp
        rw [e1]
        have e0 : wrap64 (1 - 1) = 0 := by rw [w64 (by omega) (by omega)]; rfl
        refine Ev.step (f := fun k => if b < a then some false else slices_IsSorted_int_int.l0 k [a, b] 0) (fun k => ?_) ?_
        · simp only [slices_IsSorted_int_int.l0, e0, cmp_Less_int.f, cmp_isNaN_int.f, Option.bind_some]
          have r0 : rd [a, b] 0 = a := rfl
          have r1 : rd [a, b] 1 = b := rfl
          rw [if_pos (by omega), if_pos (by omega), if_pos (by simp), if_pos (by omega), if_pos (by simp), r0, r1]
          by_cases h : b < a <;> simp [h]
        · by_cases h : b < a
          · refine ev_pos h ?_
            rw [decide_eq_false (by omega)]
            exact Ev.now _
          · refine ev_neg h (ev_now (fun k => ?_))
            simp only [slices_IsSorted_int_int.l0]
            rw [if_neg (by omega), decide_eq_true (by omega)]
      by_cases hA : inAll 0 (s - 1) [a, b] = true
      · refine ev_pos hA (Ev.bind es ?_)
        have hA' : (0 ≤ a ∧ a ≤ s - 1) ∧ (0 ≤ b ∧ b ≤ s - 1) := by simpa [inAll, inR] using hA
        have : (inR 0 (s - 1) b && inR 0 b a) = decide (a ≤ b) := by
          rw [inR_iff.2 hA'.2, Bool.true_and]
          unfold inR
          exact decide_eq_decide.2 (by omega)
        rw [this]
        exact Ev.now _
      · refine ev_neg hA ?_
        have : (inR 0 (s - 1) b && inR 0 b a) = false := by
          rw [Bool.eq_false_iff]
          intro h
          simp only [Bool.and_eq_true, inR_iff] at h
          exact hA (inAll_iff.2 (fun x hx => by
            simp only [List.mem_cons, List.mem_nil_iff, or_false] at hx
            rcases hx with rfl | rfl <;> omega))
        rw [this]
        exact Ev.now _

theorem l1Most_eq (a b : Int) : spec_l1Most.f a b = some (mx a b) := by
  unfold spec_l1Most.f mx
  by_cases h : a > b
  · rw [if_pos h, if_neg (by omega)]
  · rw [if_neg h]
    by_cases h2 : a < b
    · rw [if_pos h2]
    · rw [if_neg h2]; congr 1; omega

theorem l2Gap_eq (s a p : Int) (h0 : 0 ≤ a ∧ a ≤ 1000000) (h1 : 0 ≤ p ∧ p ≤ 1000000) : spec_l2Gap.f s false a p = some (mx (a - p) (p - a)) := by
  unfold spec_l2Gap.f
  simp only [l1Most_eq, Option.bind_some, Bool.false_eq_true, if_false]
  rw [mx_abs (s := s) h0 h1]
theorem gap_eq (s a p : Int) (h0 : 0 ≤ a ∧ a ≤ 1000000) (h1 : 0 ≤ p ∧ p ≤ 1000000) : impl_Road_gap.f s false a p = some (mx (a - p) (p - a)) := by
  unfold impl_Road_gap.f
  simp only [Bool.false_eq_true, if_false]
  rw [mx_abs (s := s) h0 h1]

theorem l1Has_ev (o : List Int) (x : Int) (h : o.length ≤ 1000) : Ev (fun k => spec_l1Has.f k o x) (decide (x ∈ o)) := by
  have key := down (P := fun i => Ev (fun k => spec_l1Has.l0 k o x (i : Int)) (decide (x ∈ o.drop i))) (n := o.length)
    (ev_now (fun k => by simp only [spec_l1Has.l0]; rw [if_neg (by omega)]; simp))
    (fun i hi ih => by
      rw [drop_cons hi]
      by_cases e : rd o (i : Int) = x
      · refine ev_now (fun k => ?_)
        simp only [spec_l1Has.l0]
        rw [if_pos (by omega), if_pos (by omega), if_pos e]
        simp [e]
      · have e2 : decide (x ∈ rd o (i : Int) :: o.drop (i + 1)) = decide (x ∈ o.drop (i + 1)) := by
          have : ¬ x = rd o (i : Int) := fun z => e z.symm
          simp [this]
        rw [e2]
        refine Ev.step (fun k => ?_) ih
        simp only [spec_l1Has.l0]
        rw [if_pos (by omega), if_pos (by omega), if_neg e, w64s hi (by omega)])
  exact key 0 (by omega)
/-- The inner loop of the spec: one order with each carrier. -/

theorem rdL_nat (l : List S70) (j : Nat) : rd_T70 l (j : Int) = l.getD j z70 := rfl
def gapv (p q : Int) : Int := mx (p - q) (q - p)
/-- The steps of leg g. -/
def stp (l : List S63) (g : S70) (a : Int) : Int := gapv (l.getD g.f0.toNat z63).f0 a + (g.f2 - a)
def legOk (s : Int) (l : List S63) (u : List Int) (a : Int) (g : S70) : Prop := (0 ≤ g.f0 ∧ g.f0 ≤ (l.length : Int) - 1) ∧ ¬ g.f0 ∈ u ∧ g.f1 = a ∧ a + 1 ≤ g.f2 ∧ g.f2 ≤ s - 1 ∧ stp l g a ≤ (l.getD g.f0.toNat z63).f1
instance (s : Int) (l : List S63) (u : List Int) (a : Int) (g : S70) : Decidable (legOk s l u a g) := by unfold legOk; infer_instance
def relV (s : Int) (l : List S63) (b : Int) : List Int → Int → List S70 → Bool
  | _, a, [] => a == b
  | u, a, g :: r => if legOk s l u a g ∧ g.f2 ≤ b then relV s l b (u ++ [g.f0]) g.f2 r else false
def imV (s : Int) (l : List S63) (b : Int) : List Int → Int → List S70 → Bool
  | _, a, [] => a == b
  | u, a, g :: r => if legOk s l u a g then imV s l b (u ++ [g.f0]) g.f2 r else false
theorem imV_gt (s : Int) (l : List S63) (b : Int) : ∀ (legs : List S70) (u : List Int) (a : Int), b < a → imV s l b u a legs = false
  | [], _, a, h => by simp only [imV]; simp; omega
  | g :: r, u, a, h => by
    simp only [imV]
    by_cases hg : legOk s l u a g
    · rw [if_pos hg]
      exact imV_gt s l b r _ _ (by have := hg.2.2.2.1; omega)
    · rw [if_neg hg]
theorem imV_eq (s : Int) (l : List S63) (b : Int) : ∀ (legs : List S70) (u : List Int) (a : Int), imV s l b u a legs = relV s l b u a legs
  | [], _, _ => rfl
  | g :: r, u, a => by
    simp only [imV, relV]
    by_cases hg : legOk s l u a g
    · by_cases hb : g.f2 ≤ b
      · rw [if_pos hg, if_pos ⟨hg, hb⟩]
        exact imV_eq s l b r _ _
      · rw [if_pos hg, if_neg (fun h => hb h.2)]
        exact imV_gt s l b r _ _ (by omega)
    · rw [if_neg hg, if_neg (fun h => hg h.1)]
/-- What each leg of a relay is. -/
def legIn (s : Int) (l : List S63) (g : S70) : Prop := (0 ≤ g.f0 ∧ g.f0 ≤ (l.length : Int) - 1) ∧ 0 ≤ g.f1 ∧ g.f1 + 1 ≤ g.f2 ∧ g.f2 ≤ s - 1
theorem relV_in {s : Int} {l : List S63} {b : Int} : ∀ {legs : List S70} {u : List Int} {a : Int}, 0 ≤ a → relV s l b u a legs = true → ∀ g ∈ legs, legIn s l g
  | [], _, _, _, _, g, hg => by simp at hg
  | g :: r, u, a, h0, h, x, hx => by
    simp only [relV] at h
    by_cases hg : legOk s l u a g ∧ g.f2 ≤ b
    · rw [if_pos hg] at h
      have h1 := hg.1.2.2.1
      have h2 := hg.1.2.2.2.1
      have h3 := hg.1.2.2.2.2.1
      rcases List.mem_cons.1 hx with rfl | hx
      · exact ⟨hg.1.1, by omega, by omega, h3⟩
      · exact relV_in (by omega) h x hx
    · rw [if_neg hg] at h
      exact absurd h (by simp)
theorem l7Steps_eq (s : Int) (c0 c1 c2 a t : Int) (h0 : 0 ≤ c0 ∧ c0 ≤ 1000) (h1 : 0 ≤ a ∧ a ≤ 1000) (h2 : 0 ≤ t ∧ t ≤ 1000) : spec_l7Steps.f s false c0 c1 c2 a t = some (gapv c0 a + (t - a)) := by
  unfold spec_l7Steps.f gapv
  rw [l2Gap_eq s c0 a (by omega) (by omega)]
  simp only [Option.bind_some]
  have : 0 ≤ mx (c0 - a) (a - c0) ∧ mx (c0 - a) (a - c0) ≤ 1000 := by unfold mx; split <;> omega
  rw [w64 (x := mx (c0 - a) (a - c0) + t) (by omega) (by omega), w64 (by omega) (by omega)]
  congr 1
  omega
theorem steps_eq (s : Int) (c0 c1 c2 a t : Int) (h0 : 0 ≤ c0 ∧ c0 ≤ 1000) (h1 : 0 ≤ a ∧ a ≤ 1000) (h2 : a ≤ t ∧ t ≤ 1000) : impl_Road_steps.f s false c0 c1 c2 a t = some (gapv c0 a + (t - a)) := by
  unfold impl_Road_steps.f gapv
  rw [gap_eq s c0 a (by omega) (by omega), gap_eq s a t (by omega) (by omega)]
  simp only [Option.bind_some]
  have : 0 ≤ mx (c0 - a) (a - c0) ∧ mx (c0 - a) (a - c0) ≤ 1000 := by unfold mx; split <;> omega
  have e : mx (a - t) (t - a) = t - a := by unfold mx; split <;> omega
  rw [e, w64 (by omega) (by omega)]
theorem nodup_len {u : List Int} {n : Nat} (h : u.Nodup) (hx : ∀ x ∈ u, 0 ≤ x ∧ x < (n : Int)) (hn : n ≤ 6) : u.length ≤ 6 := by
  have hsub : u ⊆ (List.range n).map (fun i : Nat => (i : Int)) := fun x hm => by
    obtain ⟨h0, h1⟩ := hx x hm
    obtain ⟨i, rfl⟩ := Int.eq_ofNat_of_zero_le h0
    exact List.mem_map.2 ⟨i, List.mem_range.2 (by omega), rfl⟩
  have := h.length_le_of_subset hsub
  rw [List.length_map, List.length_range] at this
  omega
theorem l7Relay_ev (s : Int) (l : List S63) (a b : Int) (legs : List S70) (hv : carV s false l = true) (ha : 0 ≤ a ∧ a ≤ s - 1) (hb : b ≤ s - 1) (hl : legs.length ≤ 1048576) : Ev (fun k => spec_l7Relay.f k s false l a b legs) (relV s l b [] a legs) := by
  obtain ⟨⟨hs, _⟩, hn, hc⟩ := carV_of hv
  have key := down (P := fun i => ∀ (u : List Int) (a : Int), u.length ≤ i → (∀ x ∈ u, 0 ≤ x ∧ x < (l.length : Int)) → u.length ≤ 6 → u.Nodup → 0 ≤ a → a ≤ s - 1 → Ev (fun k => spec_l7Relay.l0 k l b legs u a (i : Int) s false) (relV s l b u a (legs.drop i))) (n := legs.length)
    (fun u a _ _ _ _ _ _ => ev_now (fun k => by
      simp only [spec_l7Relay.l0]
      rw [if_neg (by omega), List.drop_length]
      rfl))
    (fun i hi ih u a hu hx hu6 hnd h0 h1 => by
      rw [drop_consG z70 hi]
      simp only [relV]
      generalize hg : legs.getD i z70 = g
      have eb : ∀ k, spec_l7Relay.l0 (k + 1) l b legs u a (i : Int) s false = if inR 0 ((l.length : Int) - 1) g.f0 = true then ((spec_l1Has.f k u g.f0).bind fun t => if t = true then some false else if g.f1 = a then (if inR (wrap64 (g.f1 + 1)) b g.f2 = true then (if 0 ≤ g.f0 then (if g.f0 < (l.length : Int) then ((spec_l7Steps.f s false (l.getD g.f0.toNat z63).f0 (l.getD g.f0.toNat z63).f1 (l.getD g.f0.toNat z63).f2 g.f1 g.f2).bind fun t => if t > (l.getD g.f0.toNat z63).f1 then some false else if u.length < 17592186044416 then spec_l7Relay.l0 k l b legs (u ++ [g.f0]) g.f2 ((i + 1 : Nat) : Int) s false else none) else none) else none) else some false) else some false) else some false := fun k => by
        simp only [spec_l7Relay.l0, l1In_eq, Option.bind_some, rdL_nat, hg]
        rw [if_pos (by omega), if_pos (by omega), w64s hi (by omega), w64 (x := (l.length : Int) - 1) (by omega) (by omega)]
        rfl
      by_cases q0 : inR 0 ((l.length : Int) - 1) g.f0 = true
      · have r0 := inR_iff.1 q0
        refine Ev.step (fun k => by rw [eb, if_pos q0]) ?_
        refine Ev.bind (l1Has_ev u g.f0 (by omega)) ?_
        by_cases q1 : g.f0 ∈ u
        · rw [if_neg (fun h => h.1.2.1 q1)]
          exact ev_pos (decide_eq_true q1) (Ev.now _)
        refine ev_neg (by simpa using q1) ?_
        by_cases q2 : g.f1 = a
        · refine ev_pos q2 ?_
          rw [w64 (x := g.f1 + 1) (by omega) (by omega)]
          by_cases q3 : inR (g.f1 + 1) b g.f2 = true
          · have r3 := inR_iff.1 q3
            refine ev_pos q3 (ev_pos (by omega) (ev_pos (by omega) ?_))
            have hcg := hc g.f0.toNat (by omega)
            rw [l7Steps_eq s _ _ _ g.f1 g.f2 (by have := hcg.1; omega) (by omega) (by omega)]
            simp only [Option.bind_some]
            have es : gapv (l.getD g.f0.toNat z63).f0 g.f1 + (g.f2 - g.f1) = stp l g a := by unfold stp; rw [q2]
            rw [es]
            by_cases q4 : stp l g a > (l.getD g.f0.toNat z63).f1
            · rw [if_neg (fun h => by have := h.1.2.2.2.2.2; omega)]
              exact ev_pos q4 (Ev.now _)
            · rw [if_pos ⟨⟨r0, q1, q2, by omega, by omega, by omega⟩, by omega⟩]
              refine ev_neg q4 (ev_pos (by omega) ?_)
              have hnd2 : (u ++ [g.f0]).Nodup := by
                rw [List.nodup_append]
                exact ⟨hnd, by simp, fun x hx y hy => by rw [List.mem_singleton.1 hy]; intro he; exact q1 (he ▸ hx)⟩
              have hx2 : ∀ x ∈ u ++ [g.f0], 0 ≤ x ∧ x < (l.length : Int) := fun x hx' => by
                rcases List.mem_append.1 hx' with h | h
                · exact hx x h
                · rw [List.mem_singleton.1 h]; omega
              exact ih (u ++ [g.f0]) g.f2 (by rw [List.length_append, List.length_singleton]; omega) hx2 (nodup_len hnd2 hx2 hn) hnd2 (by omega) (by omega)
          · rw [if_neg (fun h => q3 (inR_iff.2 ⟨by have := h.1.2.2.2.1; omega, h.2⟩))]
            exact ev_neg q3 (Ev.now _)
        · rw [if_neg (fun h => q2 h.1.2.2.1)]
          exact ev_neg q2 (Ev.now _)
      · rw [if_neg (fun h => q0 (inR_iff.2 h.1.1))]
        exact ev_now (fun k => by rw [eb, if_neg q0]))
  unfold spec_l7Relay.f
  exact key 0 (by omega) [] a (by simp) (by simp) (by simp) (by simp) ha.1 ha.2
theorem has1_ev (s x : Int) (hs : 2 ≤ s ∧ s ≤ 24) : Ev (fun k => impl_Road_has.f k s false [x]) (inR 0 (s - 1) x) := by
  unfold impl_Road_has.f
  rw [w64 (by omega) (by omega)]
  have := allWithin_ev [x] 0 (s - 1) (by simp)
  have e : inAll 0 (s - 1) [x] = inR 0 (s - 1) x := by simp [inAll]
  rw [e] at this
  exact Ev.bind this (Ev.now _)
theorem isRelay_ev (s : Int) (l : List S63) (a b : Int) (legs : List S70) (hv : carV s false l = true) (ha : 0 ≤ a ∧ a ≤ s - 1) (hl : legs.length ≤ 1048576) : Ev (fun k => impl_Road_isRelay.f k s false l a b legs) (relV s l b [] a legs) := by
  obtain ⟨⟨hs, _⟩, hn, hc⟩ := carV_of hv
  have bad : ∀ (a c i L : Int) (g0 g1 g2 : Int), Ev (fun k => impl_Road_isRelay.j1 k l a b c legs L i true s false g0 g1 g2) false := fun a c i L g0 g1 g2 => ev_now (fun k => by simp only [impl_Road_isRelay.j1]; first | rw [if_pos True.intro] | rw [if_pos rfl] | rfl)
  have key := down (P := fun i => ∀ (u : List Int) (a : Int) (c : Nat), c < 64 → (∀ n : Nat, n < 6 → (bitA c n = 1 ↔ (n : Int) ∈ u)) → 0 ≤ a → a ≤ s - 1 → Ev (fun k => impl_Road_isRelay.l0 k l a b (c : Int) legs (legs.length : Int) (i : Int) s false) (imV s l b u a (legs.drop i))) (n := legs.length)
    (fun u a c _ _ _ _ => ev_now (fun k => by
      simp only [impl_Road_isRelay.l0]
      rw [if_neg (by omega), List.drop_length]
      rfl))
    (fun i hi ih u a c hc64 hcu h0 h1 => by
      rw [drop_consG z70 hi]
      simp only [imV]
      generalize hg : legs.getD i z70 = g
      have eb : ∀ k, impl_Road_isRelay.l0 (k + 1) l a b (c : Int) legs (legs.length : Int) (i : Int) s false = if inR 0 ((l.length : Int) - 1) g.f0 = true then (if 0 ≤ g.f0 then (if Go.bits .and .i64 (shr .i64 (c : Int) g.f0) 1 = 1 then impl_Road_isRelay.j1 k l a b (c : Int) legs (legs.length : Int) (i : Int) true s false g.f0 g.f1 g.f2 else if g.f1 = a then (if g.f2 ≤ a then impl_Road_isRelay.j1 k l a b (c : Int) legs (legs.length : Int) (i : Int) true s false g.f0 g.f1 g.f2 else ((impl_Road_has.f k s false [g.f2]).bind fun t => impl_Road_isRelay.j1 k l a b (c : Int) legs (legs.length : Int) (i : Int) (!t) s false g.f0 g.f1 g.f2)) else impl_Road_isRelay.j1 k l a b (c : Int) legs (legs.length : Int) (i : Int) true s false g.f0 g.f1 g.f2) else none) else impl_Road_isRelay.j1 k l a b (c : Int) legs (legs.length : Int) (i : Int) true s false g.f0 g.f1 g.f2 := fun k => by
        simp only [impl_Road_isRelay.l0, within_eq, Option.bind_some, rdL_nat, hg]
        rw [if_pos (by omega), if_pos (by omega), if_pos (by omega), w64 (x := (l.length : Int) - 1) (by omega) (by omega)]
      by_cases q0 : inR 0 ((l.length : Int) - 1) g.f0 = true
      · have r0 := inR_iff.1 q0
        obtain ⟨n, hn0⟩ := Int.eq_ofNat_of_zero_le r0.1
        have hn6 : n < 6 := by omega
        refine Ev.step (fun k => by rw [eb, if_pos q0, if_pos r0.1, hn0, bit_read (by omega) (by omega), ← hn0]) ?_
        by_cases q1 : g.f0 ∈ u
        · rw [if_neg (fun h => h.2.1 q1)]
          have hb1 : bitA c n = 1 := (hcu n hn6).2 (by rw [← hn0]; exact q1)
          exact ev_pos (by rw [hb1]; rfl) (bad _ _ _ _ _ _ _)
        have hb0 : bitA c n = 0 := by
          rcases bit_cases c n with h | h
          · exact h
          · exact absurd ((hcu n hn6).1 h) (by rw [← hn0]; exact q1)
        refine ev_neg (by rw [hb0]; simp) ?_
        by_cases q2 : g.f1 = a
        · refine ev_pos q2 ?_
          by_cases q3 : g.f2 ≤ a
          · rw [if_neg (fun h => by have := h.2.2.2.1; omega)]
            exact ev_pos q3 (bad _ _ _ _ _ _ _)
          refine ev_neg q3 (Ev.bind (has1_ev s g.f2 hs) ?_)
          by_cases q4 : inR 0 (s - 1) g.f2 = true
          · have r4 := inR_iff.1 q4
            rw [q4]
            have hcg := hc n (by omega)
            have hst : impl_Road_steps.f s false (l.getD n z63).f0 (l.getD n z63).f1 (l.getD n z63).f2 a g.f2 = some (stp l g a) := by
              rw [steps_eq s _ _ _ a g.f2 (by have := hcg.1; omega) (by omega) (by omega)]
              unfold stp
              rw [hn0, Int.toNat_natCast]
            obtain ⟨hc2, hcu2⟩ := bitA_on hn6 hc64 hb0
            refine Ev.step (f := fun k => if stp l g a > (l.getD n z63).f1 then some false else impl_Road_isRelay.l0 k l g.f2 b ((c + 2 ^ n : Nat) : Int) legs (legs.length : Int) ((i + 1 : Nat) : Int) s false) (fun k => ?_) ?_
            · simp only [impl_Road_isRelay.j1, Bool.not_true]
              rw [if_neg (by simp), if_pos r0.1, if_pos (by omega), hn0, rdC_nat, hst]
              simp only [Option.bind_some]
              rw [bit_on hn6 hc64 hb0, w64s hi (by omega)]
            · have er : (l.getD g.f0.toNat z63).f1 = (l.getD n z63).f1 := by rw [hn0, Int.toNat_natCast]
              by_cases q5 : stp l g a > (l.getD n z63).f1
              · rw [if_neg (fun h => by have := h.2.2.2.2.2; omega)]
                exact ev_pos q5 (Ev.now _)
              · rw [if_pos ⟨r0, q1, q2, by omega, r4.2, by omega⟩]
                refine ev_neg q5 ?_
                refine ih (u ++ [g.f0]) g.f2 (c + 2 ^ n) hc2 (fun m hm => ?_) (by omega) r4.2
                rw [hcu2 m hm, List.mem_append, List.mem_singleton, hcu m hm, hn0]
                exact ⟨fun h => h.elim (fun e => Or.inr (by omega)) Or.inl, fun h => h.elim Or.inr (fun e => Or.inl (by omega))⟩
          · rw [if_neg (fun h => q4 (inR_iff.2 ⟨by omega, h.2.2.2.2.1⟩))]
            have e4 : inR 0 (s - 1) g.f2 = false := by simpa using q4
            rw [e4]
            exact bad _ _ _ _ _ _ _
        · rw [if_neg (fun h => q2 h.2.2.1)]
          exact ev_neg q2 (bad _ _ _ _ _ _ _)
      · rw [if_neg (fun h => q0 (inR_iff.2 h.1))]
        exact Ev.step (fun k => by rw [eb, if_neg q0]) (bad _ _ _ _ _ _ _))
  unfold impl_Road_isRelay.f
  rw [← imV_eq]
  exact key 0 (by omega) [] a 0 (by omega) (fun n hn => by
    have e : bitA 0 n = 0 := by unfold bitA; simp
    rw [e]; simp) ha.1 ha.2

theorem leg_at {s : Int} {l : List S63} {legs : List S70} (h : ∀ g ∈ legs, legIn s l g) {i : Nat} (hi : i < legs.length) : legIn s l (legs.getD i z70) := by
  refine h _ ?_
  rw [List.getD_eq_getElem?_getD, List.getElem?_eq_getElem hi]
  exact List.getElem_mem _

theorem z70_eta (g : S70) : (⟨g.f0, g.f1, g.f2⟩ : S70) = g := rfl
theorem tg_self (l : List S70) : tg l.length (fun q => l.getD q z70) = l := by
  refine List.ext_getElem (tg_len _ _) (fun i h1 h2 => ?_)
  simp [tg, h2]
theorem toIntA3S_ev (l : List S70) (hl : l.length ≤ 1048576) : Ev (fun k => laws_toIntA3S.f k l) l := by
  have key := down (P := fun i => Ev (fun k => laws_toIntA3S.l0 k l (tg l.length (fun q => if q < i then l.getD q z70 else z70)) (i : Int)) l) (n := l.length)
    (ev_now (fun k => by
      simp only [laws_toIntA3S.l0]
      rw [if_neg (by omega)]
      congr 1
      refine Eq.trans (tg_congr (fun q hq => by rw [if_pos hq])) (tg_self l)))
    (fun i hi ih => by
      refine Ev.step (fun k => ?_) ih
      simp only [laws_toIntA3S.l0, laws_toIntA3.f, Option.bind_some]
      rw [if_pos (by omega), if_pos (by omega), if_pos (by rw [tg_len]; omega), w64s hi (by omega), Int.toNat_natCast, tg_set]
      congr 1
      refine tg_congr (fun q _ => ?_)
      by_cases e : q = i
      · subst e; rw [if_pos rfl, if_pos (by omega)]; rfl
      · rw [if_neg e]
        by_cases e2 : q < i
        · rw [if_pos e2, if_pos (by omega)]
        · rw [if_neg e2, if_neg (by omega)])
  unfold laws_toIntA3S.f
  refine ev_pos (by omega) (ev_pos (by omega) ?_)
  rw [Int.toNat_natCast, tg_rep]
  have k0 := key 0 (by omega)
  simpa using k0
theorem szIntA3S_eq (l : List S70) (left : Int) (h0 : 0 ≤ left ∧ left ≤ 1048576) (hl : l.length ≤ maxLen) : laws_szIntA3S.f l left = some (if left - (l.length : Int) < 0 then -1 else left - (l.length : Int)) := by
  have hm : l.length ≤ 9223372036854775807 := by simpa [maxLen] using hl
  unfold laws_szIntA3S.f
  rw [w64 (by omega) (by omega)]
  split <;> rfl
theorem eqIntA3S_self (l : List S70) (hl : l.length ≤ 1048576) : Ev (fun k => laws_eqIntA3S.f k l l) true := by
  have key := down (P := fun i => Ev (fun k => laws_eqIntA3S.l0 k l l (i : Int)) true) (n := l.length)
    (ev_now (fun k => by simp only [laws_eqIntA3S.l0]; rw [if_neg (by omega)]))
    (fun i hi ih => by
      refine Ev.step (fun k => ?_) ih
      simp only [laws_eqIntA3S.l0, laws_eqIntA3.f, Option.bind_some]
      rw [if_pos (by omega), if_pos (by omega), if_pos (by omega), w64s hi (by omega)]
      simp)
  unfold laws_eqIntA3S.f
  exact ev_pos rfl (key 0 (by omega))

def arv (l : List S63) : Int → List S70 → Int
  | acc, [] => acc
  | acc, g :: r => arv l (wrap64 (mx acc (gapv (l.getD g.f0.toNat z63).f0 g.f1) + (g.f2 - g.f1))) r
def arrivalR (s : Int) (r : Bool) (l : List S63) (a b : Int) (legs : List S70) : Int × Bool := if asksV s r l a b = true then (if relV s l b [] a legs = true then (arv l 0 legs, true) else (0, false)) else (0, false)
theorem wrap_sub (a b : Int) : wrap64 (wrap64 a - b) = wrap64 (a - b) := by unfold wrap64; omega
theorem l7Arrive_eq (s : Int) (c0 c1 c2 acc a t : Int) (h0 : 0 ≤ c0 ∧ c0 ≤ 1000) (h1 : 0 ≤ a ∧ a ≤ 1000) (h2 : 0 ≤ t ∧ t ≤ 1000) : spec_l7Arrive.f s false c0 c1 c2 acc a t = some (wrap64 (mx acc (gapv c0 a) + (t - a))) := by
  unfold spec_l7Arrive.f gapv
  rw [l2Gap_eq s c0 a (by omega) (by omega)]
  simp only [Option.bind_some, l1Most_eq]
  rw [wrap_sub, Int.add_sub_assoc]
theorem arrives_eq (s : Int) (c0 c1 c2 acc a t : Int) (h0 : 0 ≤ c0 ∧ c0 ≤ 1000) (h1 : 0 ≤ a ∧ a ≤ 1000) (h2 : a ≤ t ∧ t ≤ 1000) : impl_Road_arrives.f s false c0 c1 c2 acc a t = some (wrap64 (mx acc (gapv c0 a) + (t - a))) := by
  unfold impl_Road_arrives.f gapv
  rw [gap_eq s c0 a (by omega) (by omega), gap_eq s a t (by omega) (by omega)]
  simp only [Option.bind_some]
  have e : mx (a - t) (t - a) = t - a := by unfold mx; split <;> omega
  rw [e]
theorem specArrival_ev (s : Int) (r : Bool) (l : List S63) (a b : Int) (legs : List S70) (hl : l.length ≤ 1048576) (hg : legs.length ≤ 1048576) : Ev (fun k => spec_RelayArrival.f k s r l a b legs) (arrivalR s r l a b legs) := by
  unfold spec_RelayArrival.f arrivalR
  refine Ev.bind (l7Asks_ev s r l a b hl) ?_
  have bad : ∀ (s : Int) (r : Bool), Ev (fun k => spec_RelayArrival.j0 k l legs true s r) (0, false) := fun s r => ev_now (fun k => by simp only [spec_RelayArrival.j0]; first | rw [if_pos True.intro] | rw [if_pos rfl] | rfl)
  cases hv : asksV s r l a b with
  | false => exact ev_neg (by simp) (bad _ _)
  | true =>
    obtain ⟨hc, ha0, hab, hb⟩ := asks_of hv
    obtain ⟨⟨hs, rfl⟩, hn, hcc⟩ := carV_of hc
    refine ev_pos rfl (Ev.bind (l7Relay_ev s l a b legs hc (by omega) (by omega) hg) ?_)
    cases hR : relV s l b [] a legs with
    | false => exact bad _ _
    | true =>
      have hin := relV_in (by omega) hR
      have key := down (P := fun i => ∀ acc : Int, Ev (fun k => spec_RelayArrival.l0 k l legs acc (i : Int) s false) (arv l acc (legs.drop i), true)) (n := legs.length)
        (fun acc => ev_now (fun k => by
          simp only [spec_RelayArrival.l0]
          rw [if_neg (by omega), List.drop_length]
          rfl))
        (fun i hi ih acc => by
          have hL : legIn s l (rd_T70 legs (i : Int)) := leg_at hin hi
          rw [drop_consG z70 hi]
          simp only [arv]
          refine Ev.step (fun k => ?_) (ih _)
          simp only [spec_RelayArrival.l0]
          obtain ⟨⟨g0, g1⟩, g2, g3, g4⟩ := hL
          have hcg := hcc (rd_T70 legs (i : Int)).f0.toNat (by omega)
          rw [if_pos (by omega), if_pos (by omega), if_pos (by omega), if_pos (by omega), show rd_T63 l (rd_T70 legs (i : Int)).f0 = l.getD (rd_T70 legs (i : Int)).f0.toNat z63 from rfl, l7Arrive_eq s _ _ _ acc (rd_T70 legs (i : Int)).f1 (rd_T70 legs (i : Int)).f2 (by have := hcg.1; omega) (by omega) (by omega)]
          simp only [Option.bind_some]
          rw [w64s hi (by omega)]
          rfl)
      refine Ev.step (fun k => by simp only [spec_RelayArrival.j0]; rw [if_neg (by simp)]; rfl) (key 0 (by omega) 0)
theorem implArrival_ev (s : Int) (r : Bool) (l : List S63) (a b : Int) (legs : List S70) (hl : l.length ≤ 1048576) (hg : legs.length ≤ 1048576) : Ev (fun k => impl_RelayArrival.f k s r l a b legs) (arrivalR s r l a b legs) := by
  unfold impl_RelayArrival.f arrivalR
  refine Ev.bind (isCarried_ev s r l a b hl) ?_
  have bad : ∀ (s : Int) (r : Bool), Ev (fun k => impl_RelayArrival.j0 k l legs true s r) (0, false) := fun s r => ev_now (fun k => by simp only [impl_RelayArrival.j0]; first | rw [if_pos True.intro] | rw [if_pos rfl] | rfl)
  cases hv : asksV s r l a b with
  | false => exact ev_neg (by simp) (bad _ _)
  | true =>
    obtain ⟨hc, ha0, hab, hb⟩ := asks_of hv
    obtain ⟨⟨hs, rfl⟩, hn, hcc⟩ := carV_of hc
    refine ev_pos rfl (Ev.bind (isRelay_ev s l a b legs hc (by omega) hg) ?_)
    cases hR : relV s l b [] a legs with
    | false => exact bad _ _
    | true =>
      have hin := relV_in (by omega) hR
      have key := down (P := fun i => ∀ acc : Int, Ev (fun k => impl_RelayArrival.l0 k l acc legs (legs.length : Int) (i : Int) s false) (arv l acc (legs.drop i), true)) (n := legs.length)
        (fun acc => ev_now (fun k => by
          simp only [impl_RelayArrival.l0]
          rw [if_neg (by omega), List.drop_length]
          rfl))
        (fun i hi ih acc => by
          have hL : legIn s l (rd_T70 legs (i : Int)) := leg_at hin hi
          rw [drop_consG z70 hi]
          simp only [arv]
          refine Ev.step (fun k => ?_) (ih _)
          simp only [impl_RelayArrival.l0]
          obtain ⟨⟨g0, g1⟩, g2, g3, g4⟩ := hL
          have hcg := hcc (rd_T70 legs (i : Int)).f0.toNat (by omega)
          rw [if_pos (by omega), if_pos (by omega), if_pos (by omega), if_pos (by omega), if_pos (by omega), show rd_T63 l (rd_T70 legs (i : Int)).f0 = l.getD (rd_T70 legs (i : Int)).f0.toNat z63 from rfl, arrives_eq s _ _ _ acc (rd_T70 legs (i : Int)).f1 (rd_T70 legs (i : Int)).f2 (by have := hcg.1; omega) (by omega) (by omega)]
          simp only [Option.bind_some]
          rw [w64s hi (by omega)]
          rfl)
      refine Ev.step (fun k => by simp only [impl_RelayArrival.j0]; rw [if_neg (by simp)]; rfl) (key 0 (by omega) 0)

theorem FnExactRelayArrival : FnExactRelayArrivalLeft := by
  intro s r l0 a b g0 _ hm _ _ _ hm2 _
  refine Ev.rounds (g := fun k => laws_FnExactRelayArrival.f k s r l0 a b g0) ?_
  unfold laws_FnExactRelayArrival.f
  refine ev_bind0 (szCarrierS_eq l0 hm) ?_
  by_cases h : 1048576 - (l0.length : Int) < 0
  · rw [if_pos h]; exact ev_pos (by omega) (Ev.now _)
  rw [if_neg h]
  refine ev_neg h ?_
  refine ev_bind0 (szIntA3S_eq g0 _ (by omega) hm2) ?_
  by_cases h2 : 1048576 - (l0.length : Int) - (g0.length : Int) < 0
  · rw [if_pos h2]; exact ev_pos (by omega) (Ev.now _)
  rw [if_neg h2]
  refine ev_neg h2 ?_
  have hl0 : l0.length ≤ 1048576 := by omega
  have hg0 : g0.length ≤ 1048576 := by omega
  have hl : (cvC l0).length ≤ 1048576 := by rw [cvC_len]; exact hl0
  repeat (first
    | exact Ev.now _
    | (with_reducible refine Ev.bind (toCarrierS_ev _ hl0) ?_; try dsimp only)
    | (with_reducible refine Ev.bind (toIntA3S_ev _ hg0) ?_; try dsimp only)
    | (with_reducible refine Ev.bind (specArrival_ev _ _ _ _ _ _ hl hg0) ?_; try dsimp only)
    | (with_reducible refine Ev.bind (implArrival_ev _ _ _ _ _ _ hl hg0) ?_; try dsimp only)
    | (with_reducible refine Ev.bind (eqCarrierS_self _ (by omega)) ?_; try dsimp only)
    | (with_reducible refine Ev.bind (eqIntA3S_self _ (by omega)) ?_; try dsimp only)
    | (refine ev_bind0 (toRoad_eq _ _) ?_; try dsimp only)
    | (refine ev_pos (by first | exact True.intro | rfl | assumption | omega) ?_; try dsimp only)
    | (refine ev_neg (by first | (simp; done) | omega) ?_; try dsimp only)
    | (refine Ev.step (fun k => by simp only [laws_FnExactRelayArrival.j0]; rfl) ?_))

end Go.Proofs.Ythagkpoinjpmfaa.Pure
