/- FnExactCountMeets: the left statement: for every wire (and number) the law answers true. No condition. -/
import Derived.Test.YtciihopkgblpkaaQFnExactCountMeetsx5
import Derived.Test.YtciihopkgblpkaaBase
namespace Go.Proofs.Ytciihopkgblpkaa.Pure
open Go.RowKit Go.Proofs.Ytciihopkgblpkaa.QFnExactCountMeets Go.Proofs.YtciihopkgblpkaaW.PrintWords Go.Proofs.YtciihopkgblpkaaW.PrintLast Go.Proofs.Ytciihopkgblpkaa.Base
set_option linter.unusedVariables false
set_option linter.unusedSimpArgs false

def FnExactCountMeetsLeft : Prop := ∀ (a0_0 : Int) (l0_1 : List Int) (l0_2 : List Int), (Lit.int .i64 a0_0).wf = true → l0_1.length ≤ maxLen → (∀ x ∈ l0_1, (Lit.int .i64 x).wf = true) → l0_2.length ≤ maxLen → (∀ x ∈ l0_2, (Lit.int .i64 x).wf = true) → ∃ k, laws_FnExactCountMeets.f k a0_0 l0_1 l0_2 = some true

theorem toIntS_ev (l : List Int) (hl : l.length ≤ 1048576) : Ev (fun k => laws_toIntS.f k l) l := by
  have key := down (P := fun i => Ev (fun k => laws_toIntS.l0 k l (tab l.length (fun q => if q < i then rd l (q : Int) else 0)) (i : Int)) l) (n := l.length)
    (ev_now (fun k => by
      simp only [laws_toIntS.l0]
      rw [if_neg (by omega)]
      congr 1
      exact (tab_ext rfl (fun q hq => by rw [if_pos hq])).symm))
    (fun i hi ih => by
      refine Ev.step (fun k => ?_) ih
      simp only [laws_toIntS.l0]
      rw [if_pos (by omega), if_pos (by omega), if_pos (by rw [tab_len]; omega), w64s hi (by omega), Int.toNat_natCast, tab_set]
      congr 1
      refine tab_congr (fun q _ => ?_)
      by_cases e : q = i
      · subst e; rw [if_pos rfl, if_pos (by omega)]
      · rw [if_neg e]
        by_cases e2 : q < i
        · rw [if_pos e2, if_pos (by omega)]
        · rw [if_neg e2, if_neg (by omega)])
  refine Ev.congr (fun k => ?_) (key 0 (by omega))
  unfold laws_toIntS.f
  rw [if_pos (by omega), if_pos (by omega), Int.toNat_natCast, tab_rep]
  simp

theorem eqIntS_ev (a b : List Int) (hl : a.length ≤ 1152921504606846976) : Ev (fun k => laws_eqIntS.f k a b) (decide (a = b)) := by
  by_cases h : a.length = b.length
  · have key := down (P := fun i => Ev (fun k => laws_eqIntS.l0 k a b (i : Int)) (decide (a.drop i = b.drop i))) (n := a.length)
      (ev_now (fun k => by
        simp only [laws_eqIntS.l0]
        rw [if_neg (by omega)]
        simp
        omega))
      (fun i hi ih => by
        rw [drop_cons hi, drop_cons (l := b) (by omega)]
        by_cases e : rd a (i : Int) = rd b (i : Int)
        · have e2 : decide (rd a (i : Int) :: a.drop (i + 1) = rd b (i : Int) :: b.drop (i + 1)) = decide (a.drop (i + 1) = b.drop (i + 1)) := by simp [e]
          rw [e2]
          refine Ev.step (fun k => ?_) ih
          simp only [laws_eqIntS.l0]
          rw [if_pos (by omega), if_pos (by omega), if_pos (by omega), if_pos e, w64s hi hl]
        · refine ev_now (fun k => ?_)
          simp only [laws_eqIntS.l0]
          rw [if_pos (by omega), if_pos (by omega), if_pos (by omega), if_neg e]
          simp [e])
    refine Ev.congr (fun k => ?_) (key 0 (by omega))
    unfold laws_eqIntS.f
    rw [if_pos (by omega)]
    rfl
  · refine Ev.congr (fun k => ?_) (Ev.now _)
    unfold laws_eqIntS.f
    rw [if_neg (by omega)]
    simp
    intro e
    exact h (by rw [e])
theorem eqIntS_self (a : List Int) (hl : a.length ≤ 1152921504606846976) : Ev (fun k => laws_eqIntS.f k a a) true := by
  have := eqIntS_ev a a hl
  simpa using this

theorem szIntS_eq (l : List Int) (a : Int) (h0 : 0 ≤ a) (h1 : a ≤ 1048576) (hl : l.length ≤ maxLen) : laws_szIntS.f l a = some (if a - (l.length : Int) < 0 then -1 else a - (l.length : Int)) := by
  have hm : l.length ≤ 9223372036854775807 := by simpa [maxLen] using hl
  unfold laws_szIntS.f
  rw [w64 (by omega) (by omega)]
  split <;> rfl

theorem toWire_ev (L : Int) (P W : List Int) (hp : P.length ≤ 1048576) (hw : W.length ≤ 1048576) : Ev (fun k => laws_toWire.f k L P W) (L, P, W) := by
  unfold laws_toWire.f
  exact Ev.bind (toIntS_ev P hp) (Ev.bind (toIntS_ev W hw) (Ev.now _))
theorem eqWire_self (L : Int) (P W : List Int) (hp : P.length ≤ 1048576) (hw : W.length ≤ 1048576) : Ev (fun k => laws_eqWire.f k L P W L P W) true := by
  unfold laws_eqWire.f
  exact ev_pos rfl (Ev.bind (eqIntS_self P (by omega)) (ev_pos rfl (Ev.bind (eqIntS_self W (by omega)) (ev_pos rfl (Ev.now _)))))
theorem szWire_eq (L : Int) (P W : List Int) (hp : P.length ≤ maxLen) (hw : W.length ≤ maxLen) : ∃ t : Int, laws_szWire.f L P W 1048576 = some t ∧ (t < 0 ∨ (P.length ≤ 1048576 ∧ W.length ≤ 1048576)) := by
  unfold laws_szWire.f
  rw [szIntS_eq P 1048576 (by omega) (by omega) hp, Option.bind_some]
  by_cases h : 1048576 - (P.length : Int) < 0
  · rw [if_pos h]; exact ⟨-1, rfl, .inl (by omega)⟩
  · rw [if_neg h, if_neg h, szIntS_eq W _ (by omega) (by omega) hw, Option.bind_some]
    by_cases h2 : 1048576 - (P.length : Int) - (W.length : Int) < 0
    · rw [if_pos h2]; exact ⟨-1, rfl, .inl (by omega)⟩
    · rw [if_neg h2, if_neg h2]; exact ⟨_, rfl, .inr ⟨by omega, by omega⟩⟩

theorem l1In_eq (a b c : Int) : spec_l1In.f a b c = some (inR b c a) := by
  unfold spec_l1In.f inR
  by_cases h : a ≥ b
  · have h' : b ≤ a := h
    rw [if_pos h]; simp [h']
  · have h' : ¬ b ≤ a := h
    rw [if_neg h]; simp [h']

theorem within_eq (a b c : Int) : impl_within.f a b c = some (inR b c a) := by
  unfold impl_within.f inR
  by_cases h : a ≥ b
  · have h' : b ≤ a := h
    rw [if_pos h]; simp [h']
  · have h' : ¬ b ≤ a := h
    rw [if_neg h]; simp [h']

theorem allWithin_ev (l : List Int) (a b : Int) (hl : l.length ≤ 1152921504606846976) : Ev (fun k => impl_allWithin.f k l a b) (inAll a b l) := by
  have key := down (P := fun i => Ev (fun k => impl_allWithin.l0 k a b l (l.length : Int) (i : Int)) (inAll a b (l.drop i))) (n := l.length)
    (ev_now (fun k => by
      simp only [impl_allWithin.l0]
      rw [if_neg (by omega)]
      simp [inAll_nil]))
    (fun i hi ih => by
      rw [drop_cons hi, inAll_cons]
      cases hc : inR a b (rd l (i : Int)) with
      | true =>
        rw [Bool.true_and]
        refine Ev.step (fun k => ?_) ih
        simp only [impl_allWithin.l0, within_eq, Option.bind_some, hc, if_true]
        rw [if_pos (by omega), if_pos (by omega), if_pos (by omega), w64s hi hl]
      | false =>
        refine ev_now (fun k => ?_)
        simp only [impl_allWithin.l0, within_eq, Option.bind_some, hc, Bool.false_eq_true, if_false]
        rw [if_pos (by omega), if_pos (by omega), if_pos (by omega)]
        simp)
  exact key 0 (by omega)

def wC (L : Int) (P W : List Int) (j : Nat) : Prop := (0 ≤ rd P (j : Int) ∧ rd P (j : Int) ≤ L) ∧ (0 < j → rd P ((j - 1 : Nat) : Int) < rd P (j : Int)) ∧ (rd W (j : Int) = 1 ∨ rd W (j : Int) = -1)
instance (L : Int) (P W : List Int) : DecidablePred (wC L P W) := fun j => by unfold wC; infer_instance
def wireV (L : Int) (P W : List Int) : Bool := decide ((1 ≤ L ∧ L ≤ 30) ∧ P.length ≤ 8 ∧ W.length = P.length) && allF P.length (wC L P W) 0
theorem wire_of {L : Int} {P W : List Int} (h : wireV L P W = true) : (1 ≤ L ∧ L ≤ 30) ∧ P.length ≤ 8 ∧ W.length = P.length ∧ ∀ j, j < P.length → wC L P W j := by
  unfold wireV at h
  rw [Bool.and_eq_true] at h
  have := of_decide_eq_true h.1
  exact ⟨this.1, this.2.1, this.2.2, allF_of h.2⟩
theorem wireV_no {L : Int} {P W : List Int} (h : ¬ ((1 ≤ L ∧ L ≤ 30) ∧ P.length ≤ 8 ∧ W.length = P.length)) : wireV L P W = false := by
  unfold wireV; rw [decide_eq_false h]; rfl
theorem wireV_yes {L : Int} {P W : List Int} (h : (1 ≤ L ∧ L ≤ 30) ∧ P.length ≤ 8 ∧ W.length = P.length) : wireV L P W = allF P.length (wC L P W) 0 := by
  unfold wireV; rw [decide_eq_true h]; rfl
theorem l8Wire_loop (L : Int) (P W : List Int) (hw : W.length = P.length) (hp : P.length ≤ 8) : Ev (fun k => spec_l8Wire.l0 k 0 L P W) (allF P.length (wC L P W) 0) := by
  have key := down (P := fun i => Ev (fun k => spec_l8Wire.l0 k (i : Int) L P W) (allF P.length (wC L P W) i)) (n := P.length)
    (ev_now (fun k => by simp only [spec_l8Wire.l0]; rw [if_neg (by omega), allF_end]))
    (fun i hi ih => by
      rw [allF_step hi]
      by_cases hc : wC L P W i
      · rw [decide_eq_true hc, Bool.true_and]
        refine Ev.step (fun k => ?_) ih
        simp only [spec_l8Wire.l0, l1In_eq, Option.bind_some]
        rw [if_pos (by omega), if_pos (by omega), if_pos (inR_iff.2 hc.1), w64s hi (by omega)]
        have hW : (if rd W (i : Int) = 1 then spec_l8Wire.l0 k ((i + 1 : Nat) : Int) L P W else if rd W (i : Int) = -1 then spec_l8Wire.l0 k ((i + 1 : Nat) : Int) L P W else some false) = spec_l8Wire.l0 k ((i + 1 : Nat) : Int) L P W := by
          rcases hc.2.2 with h | h
          · rw [if_pos h]
          · rw [if_neg (by omega), if_pos h]
        by_cases h0 : 0 < i
        · have h3 := hc.2.1 h0
          rw [if_pos (by omega), w64 (x := (i : Int) - 1) (by omega) (by omega), show (i : Int) - 1 = ((i - 1 : Nat) : Int) by omega, if_pos (by omega), if_pos (by omega), if_neg (by omega), if_pos (by omega), hW]
        · rw [if_neg (by omega), if_pos (by omega), hW]
      · rw [decide_eq_false hc, Bool.false_and]
        refine ev_now (fun k => ?_)
        simp only [spec_l8Wire.l0, l1In_eq, Option.bind_some]
        rw [if_pos (by omega), if_pos (by omega)]
        by_cases h1 : inR 0 L (rd P (i : Int)) = true
        · rw [if_pos h1]
          by_cases h0 : 0 < i
          · rw [if_pos (by omega), w64 (x := (i : Int) - 1) (by omega) (by omega), show (i : Int) - 1 = ((i - 1 : Nat) : Int) by omega, if_pos (by omega), if_pos (by omega)]
            by_cases h2 : rd P ((i - 1 : Nat) : Int) < rd P (i : Int)
            · have h3 : ¬ (rd W (i : Int) = 1 ∨ rd W (i : Int) = -1) := fun h => hc ⟨inR_iff.1 h1, fun _ => h2, h⟩
              rw [if_neg (by omega), if_pos (by omega), if_neg (fun h => h3 (.inl h)), if_neg (fun h => h3 (.inr h))]
            · rw [if_pos (by omega)]
          · have h3 : ¬ (rd W (i : Int) = 1 ∨ rd W (i : Int) = -1) := fun h => hc ⟨inR_iff.1 h1, fun h => absurd h h0, h⟩
            rw [if_neg (by omega), if_pos (by omega), if_neg (fun h => h3 (.inl h)), if_neg (fun h => h3 (.inr h))]
        · rw [if_neg h1])
  exact key 0 (by omega)
theorem l8Wire_ev (L : Int) (P W : List Int) : Ev (fun k => spec_l8Wire.f k L P W) (wireV L P W) := by
  unfold spec_l8Wire.f
  simp only [l1In_eq, Option.bind_some]
  have hno : Ev (fun k => spec_l8Wire.j0 k true L P W) false := ev_now (fun k => by simp only [spec_l8Wire.j0, if_true])
  by_cases h1 : inR 1 30 L = true
  · have g1 := inR_iff.1 h1
    refine ev_pos h1 ?_
    by_cases h2 : (P.length : Int) > 8
    · rw [wireV_no (by omega)]
      exact ev_pos h2 hno
    · refine ev_neg h2 ?_
      by_cases h3 : W.length = P.length
      · rw [wireV_yes ⟨g1, by omega, h3⟩]
        have e : ((W.length : Int) != (P.length : Int)) = false := by rw [h3]; simp
        rw [e]
        refine Ev.step (fun k => by simp only [spec_l8Wire.j0, Bool.false_eq_true, if_false]; rfl) ?_
        exact l8Wire_loop L P W h3 (by omega)
      · rw [wireV_no (by omega)]
        have e : ((W.length : Int) != (P.length : Int)) = true := by simp; omega
        rw [e]
        exact hno
  · rw [wireV_no (fun h => h1 (inR_iff.2 h.1))]
    exact ev_neg h1 hno

def wD (P W : List Int) (j : Nat) : Prop := (rd W (j : Int) = 1 ∨ rd W (j : Int) = -1) ∧ (0 < j → rd P ((j - 1 : Nat) : Int) < rd P (j : Int))
instance (P W : List Int) : DecidablePred (wD P W) := fun j => by unfold wD; infer_instance
theorem implWire_loop (L : Int) (P W : List Int) (hw : W.length = P.length) (hp : P.length ≤ 8) : Ev (fun k => impl_IsWire.l0 k W (W.length : Int) 0 L P W) (allF P.length (wD P W) 0) := by
  have key := down (P := fun i => Ev (fun k => impl_IsWire.l0 k W (W.length : Int) (i : Int) L P W) (allF P.length (wD P W) i)) (n := P.length)
    (ev_now (fun k => by simp only [impl_IsWire.l0]; rw [if_neg (by omega), allF_end]))
    (fun i hi ih => by
      rw [allF_step hi]
      by_cases hc : wD P W i
      · rw [decide_eq_true hc, Bool.true_and]
        refine Ev.step (fun k => ?_) ih
        simp only [impl_IsWire.l0]
        rw [if_pos (by omega), if_pos (by omega), if_pos (by omega), w64s hi (by omega)]
        have hR : (if (i : Int) > 0 then (if 0 ≤ wrap64 ((i : Int) - 1) then (if wrap64 ((i : Int) - 1) < (P.length : Int) then (if (i : Int) < (P.length : Int) then (if rd P (wrap64 ((i : Int) - 1)) ≥ rd P (i : Int) then some false else impl_IsWire.l0 k W (W.length : Int) ((i + 1 : Nat) : Int) L P W) else none) else none) else none) else impl_IsWire.l0 k W (W.length : Int) ((i + 1 : Nat) : Int) L P W) = impl_IsWire.l0 k W (W.length : Int) ((i + 1 : Nat) : Int) L P W := by
          by_cases h0 : 0 < i
          · have h3 := hc.2 h0
            rw [if_pos (by omega), w64 (x := (i : Int) - 1) (by omega) (by omega), show (i : Int) - 1 = ((i - 1 : Nat) : Int) by omega, if_pos (by omega), if_pos (by omega), if_pos (by omega), if_neg (by omega)]
          · rw [if_neg (by omega)]
        rcases hc.1 with h | h
        · rw [if_pos h, hR]
        · rw [if_neg (by omega), if_pos h, hR]
      · rw [decide_eq_false hc, Bool.false_and]
        refine ev_now (fun k => ?_)
        simp only [impl_IsWire.l0]
        rw [if_pos (by omega), if_pos (by omega), if_pos (by omega)]
        by_cases hs : rd W (i : Int) = 1 ∨ rd W (i : Int) = -1
        · have h0 : 0 < i := Nat.pos_of_ne_zero (fun h => hc ⟨hs, fun h' => by omega⟩)
          have h3 : ¬ rd P ((i - 1 : Nat) : Int) < rd P (i : Int) := fun h => hc ⟨hs, fun _ => h⟩
          have hR : ∀ X : Option Bool, (if (i : Int) > 0 then (if 0 ≤ wrap64 ((i : Int) - 1) then (if wrap64 ((i : Int) - 1) < (P.length : Int) then (if (i : Int) < (P.length : Int) then (if rd P (wrap64 ((i : Int) - 1)) ≥ rd P (i : Int) then some false else X) else none) else none) else none) else X) = some false := by
            intro X
            rw [if_pos (by omega), w64 (x := (i : Int) - 1) (by omega) (by omega), show (i : Int) - 1 = ((i - 1 : Nat) : Int) by omega, if_pos (by omega), if_pos (by omega), if_pos (by omega), if_pos (by omega)]
          rcases hs with h | h
          · rw [if_pos h, hR]
          · rw [if_neg (by omega), if_pos h, hR]
        · rw [if_neg (fun h => hs (.inl h)), if_neg (fun h => hs (.inr h))])
  exact key 0 (by omega)
theorem implIsWire_ev (L : Int) (P W : List Int) (hpl : P.length ≤ 1048576) : Ev (fun k => impl_IsWire.f k L P W) (wireV L P W) := by
  unfold impl_IsWire.f
  simp only [within_eq, Option.bind_some]
  have hno : Ev (fun k => impl_IsWire.j0 k true L P W) false := ev_now (fun k => by simp only [impl_IsWire.j0, if_true])
  by_cases h1 : inR 1 30 L = true
  · have g1 := inR_iff.1 h1
    refine ev_pos h1 ?_
    by_cases h2 : (P.length : Int) > 8
    · rw [wireV_no (by omega)]
      exact ev_pos h2 hno
    · refine ev_neg h2 ?_
      by_cases h3 : W.length = P.length
      · rw [wireV_yes ⟨g1, by omega, h3⟩]
        refine ev_pos (by omega) (Ev.bind (allWithin_ev P 0 L (by omega)) ?_)
        cases ha : inAll 0 L P with
        | true =>
          refine Ev.step (fun k => by simp only [impl_IsWire.j0, Bool.not_true, Bool.false_eq_true, if_false]; rfl) ?_
          have hl := implWire_loop L P W h3 (by omega)
          have e : allF P.length (wD P W) 0 = allF P.length (wC L P W) 0 := by
            rw [Bool.eq_iff_iff, allF_iff, allF_iff]
            have hA := inAll_iff.1 ha
            exact ⟨fun h j hj => ⟨hA _ (mem_of_rd hj), (h j hj).2, (h j hj).1⟩, fun h j hj => ⟨(h j hj).2.2, (h j hj).2.1⟩⟩
          rw [← e]
          exact hl
        | false =>
          have e : allF P.length (wC L P W) 0 = false := by
            rw [Bool.eq_false_iff]
            intro h
            have h' := allF_of h
            have : inAll 0 L P = true := inAll_iff.2 (all_of_rd (fun i hi => (h' i hi).1))
            rw [ha] at this
            exact absurd this (by decide)
          rw [e]
          exact hno
      · rw [wireV_no (by omega)]
        exact ev_neg (by omega) hno
  · rw [wireV_no (fun h => h1 (inR_iff.2 h.1))]
    exact ev_neg h1 hno

def is1 (W : List Int) (i : Nat) : Int := if rd W (i : Int) = 1 then 1 else 0
def meet2 (W : List Int) (i k : Nat) : Int := if i < k ∧ rd W (i : Int) = 1 ∧ rd W (k : Int) = -1 then 1 else 0
/-- The meets of the first n beads. -/
def meets (W : List Int) (n : Nat) : Int := sm n (fun i => sm n (meet2 W i))
def meetI (W : List Int) (n : Nat) : Int := sm n (fun k => if rd W (k : Int) = 1 then 0 else sm k (is1 W))
theorem meet_row {W : List Int} {n i : Nat} (h : n ≤ i) : meet2 W i n = 0 := by unfold meet2; rw [if_neg (by omega)]
theorem meets_eq {W : List Int} (n : Nat) (h : ∀ j, j < n → rd W (j : Int) = 1 ∨ rd W (j : Int) = -1) : meets W n = meetI W n := by
  induction n with
  | zero => rfl
  | succ n ih =>
    have e0 : sm (n + 1) (meet2 W n) = 0 := by
      have : sm (n + 1) (meet2 W n) = sm (n + 1) (fun _ => 0) := sm_congr (fun q hq => meet_row (by omega))
      rw [this, sm_const]; omega
    have e1 : meets W (n + 1) = sm n (fun i => sm n (meet2 W i) + meet2 W i n) + 0 := by
      unfold meets
      rw [sm_succ, e0]
      rfl
    have e2 : sm n (fun i => meet2 W i n) = if rd W (n : Int) = 1 then 0 else sm n (is1 W) := by
      by_cases h1 : rd W (n : Int) = 1
      · rw [if_pos h1]
        have : sm n (fun i => meet2 W i n) = sm n (fun _ => 0) := sm_congr (fun q hq => by unfold meet2; rw [if_neg (by omega)])
        rw [this, sm_const]; omega
      · rw [if_neg h1]
        have h2 : rd W (n : Int) = -1 := by have := h n (by omega); omega
        refine sm_congr (fun q hq => ?_)
        unfold meet2 is1
        by_cases h3 : rd W (q : Int) = 1
        · rw [if_pos ⟨hq, h3, h2⟩, if_pos h3]
        · rw [if_neg (fun a => h3 a.2.1), if_neg h3]
    rw [e1, sm_add, e2]
    have := ih (fun j hj => h j (by omega))
    unfold meets at this
    rw [this]
    unfold meetI
    rw [sm_succ]
    omega
theorem is1_bd (W : List Int) (n : Nat) : 0 ≤ sm n (is1 W) ∧ sm n (is1 W) ≤ n := sm_bound (fun q => by unfold is1; split <;> omega) n
theorem meetI_bd (W : List Int) (n : Nat) : 0 ≤ meetI W n ∧ meetI W n ≤ n * n := by
  unfold meetI
  induction n with
  | zero => exact ⟨Int.le_refl _, Int.le_refl _⟩
  | succ n ih =>
    rw [sm_succ]
    have := is1_bd W n
    have e : ((n + 1 : Nat) : Int) * ((n + 1 : Nat) : Int) = (n : Int) * n + n + n + 1 := by
      rw [Int.natCast_succ, Int.add_mul, Int.mul_add]; omega
    rw [e]
    split <;> omega
/-- What the outer rounds before i, and the inner ones before k, have counted. -/
def mrow (W : List Int) (i k : Nat) : Int := sm k (meet2 W i)
theorem mrow_low (W : List Int) (i : Nat) : sm (i + 1) (meet2 W i) = 0 := by
  have : sm (i + 1) (meet2 W i) = sm (i + 1) (fun _ => 0) := sm_congr (fun q hq => meet_row (by omega))
  rw [this, sm_const]; omega
theorem mrow_bd (W : List Int) (i k : Nat) : 0 ≤ sm k (meet2 W i) ∧ sm k (meet2 W i) ≤ k := sm_bound (fun q => by unfold meet2; split <;> omega) k
theorem mpart_bd (W : List Int) (n i : Nat) : 0 ≤ sm i (fun i => sm n (meet2 W i)) ∧ sm i (fun i => sm n (meet2 W i)) ≤ (n : Int) * i := by
  induction i with
  | zero => exact ⟨Int.le_refl _, by simp [sm]⟩
  | succ i ih =>
    rw [sm_succ]
    have := mrow_bd W i n
    rw [Int.natCast_succ, Int.mul_add]
    omega
def meetsR (L : Int) (P W : List Int) : Int × Bool := if wireV L P W = true then (meets W W.length, true) else (0, false)
theorem specMeets_ev (L : Int) (P W : List Int) : Ev (fun k => spec_CountMeets.f k L P W) (meetsR L P W) := by
  unfold spec_CountMeets.f meetsR
  refine Ev.bind (l8Wire_ev L P W) ?_
  cases hv : wireV L P W with
  | true =>
    have hw := wire_of hv
    refine ev_pos rfl ?_
    have key := down (P := fun i => Ev (fun k => spec_CountMeets.l0 k (sm i (fun i => sm W.length (meet2 W i))) (i : Int) L P W) (meets W W.length, true)) (n := W.length)
      (ev_now (fun k => by simp only [spec_CountMeets.l0]; rw [if_neg (by omega)]; rfl))
      (fun i hi ih => by
        have hb := mpart_bd W W.length i
        have hb2 : (W.length : Int) * i ≤ 64 := by
          have h1 : (W.length : Int) ≤ 8 := by omega
          have h2 : (i : Int) ≤ 8 := by omega
          calc (W.length : Int) * i ≤ 8 * i := Int.mul_le_mul_of_nonneg_right h1 (by omega)
            _ ≤ 64 := by omega
        refine Ev.step (f := fun k => spec_CountMeets.l1 k (sm i (fun i => sm W.length (meet2 W i)) + sm (i + 1) (meet2 W i)) (i : Int) ((i + 1 : Nat) : Int) L P W) (fun k => ?_) ?_
        · simp only [spec_CountMeets.l0]
          rw [if_pos (by omega), w64s hi (by omega), mrow_low, Int.add_zero]
        have inner := down (P := fun q => i + 1 ≤ q → Ev (fun k => spec_CountMeets.l1 k (sm i (fun i => sm W.length (meet2 W i)) + sm q (meet2 W i)) (i : Int) (q : Int) L P W) (meets W W.length, true)) (n := W.length)
          (fun _ => by
            refine Ev.step (fun k => ?_) ih
            simp only [spec_CountMeets.l1]
            rw [if_neg (by omega), w64s hi (by omega)]
            rfl)
          (fun q hq ihq hiq => by
            have hr := mrow_bd W i q
            refine Ev.step (fun k => ?_) (ihq (by omega))
            simp only [spec_CountMeets.l1]
            rw [if_pos (by omega), if_pos (by omega), if_pos (by omega), w64s hq (by omega), sm_succ q]
            by_cases h1 : rd W (i : Int) = 1
            · rw [if_pos h1, if_pos (by omega)]
              by_cases h2 : rd W (q : Int) = -1
              · have e : meet2 W i q = 1 := by unfold meet2; rw [if_pos ⟨by omega, h1, h2⟩]
                rw [if_pos h2, w64 (by omega) (by omega), e]
                congr 1; omega
              · have e : meet2 W i q = 0 := by unfold meet2; rw [if_neg (fun a => h2 a.2.2)]
                rw [if_neg h2, e, Int.add_zero]
            · have e : meet2 W i q = 0 := by unfold meet2; rw [if_neg (fun a => h1 a.2.1)]
              rw [if_neg h1, e, Int.add_zero])
        exact inner (i + 1) (by omega) (Nat.le_refl _))
    exact key 0 (by omega)
  | false => exact ev_neg (by simp) (Ev.now _)
theorem implMeets_ev (L : Int) (P W : List Int) (hp : P.length ≤ 1048576) : Ev (fun k => impl_CountMeets.f k L P W) (meetsR L P W) := by
  unfold impl_CountMeets.f meetsR
  refine Ev.bind (implIsWire_ev L P W hp) ?_
  cases hv : wireV L P W with
  | true =>
    have hw := wire_of hv
    refine ev_pos rfl ?_
    rw [meets_eq W.length (fun j hj => (hw.2.2.2 j (by omega)).2.2)]
    have key := down (P := fun i => Ev (fun k => impl_CountMeets.l0 k (sm i (is1 W)) (meetI W i) W (W.length : Int) (i : Int)) (meetI W W.length, true)) (n := W.length)
      (ev_now (fun k => by simp only [impl_CountMeets.l0]; rw [if_neg (by omega)]))
      (fun i hi ih => by
        have hb := is1_bd W i
        have hb2 := meetI_bd W i
        have hb3 : (i : Int) * i ≤ 64 := by
          have h2 : (i : Int) ≤ 8 := by omega
          calc (i : Int) * i ≤ 8 * i := Int.mul_le_mul_of_nonneg_right h2 (by omega)
            _ ≤ 64 := by omega
        have hs := (hw.2.2.2 i (by omega)).2.2
        refine Ev.step (fun k => ?_) ih
        simp only [impl_CountMeets.l0]
        rw [if_pos (by omega), if_pos (by omega), if_pos (by omega), w64s hi (by omega)]
        unfold meetI
        rw [sm_succ, sm_succ]
        rcases hs with h1 | h1
        · have e : is1 W i = 1 := by unfold is1; rw [if_pos h1]
          rw [if_pos (by omega), w64 (by omega) (by omega), e, if_pos h1, Int.add_zero]
        · have e : is1 W i = 0 := by unfold is1; rw [if_neg (by omega)]
          have hI : meetI W i = sm i (fun k => if rd W (k : Int) = 1 then 0 else sm k (is1 W)) := rfl
          rw [if_neg (by omega), e, Int.add_zero, if_neg (by omega), ← hI, w64 (by omega) (by omega)])
    exact key 0 (by omega)
  | false => exact ev_neg (by simp) (Ev.now _)

theorem FnExactCountMeets : FnExactCountMeetsLeft := by
  intro L P V _ hm1 _ hm2 _
  refine Ev.rounds (g := fun k => laws_FnExactCountMeets.f k L P V) ?_
  unfold laws_FnExactCountMeets.f
  obtain ⟨t, ht, h⟩ := szWire_eq L P V hm1 hm2
  refine ev_bind0 ht ?_
  by_cases h0 : t < 0
  · exact ev_pos h0 (Ev.now _)
  refine ev_neg h0 ?_
  obtain ⟨hp, hv⟩ : P.length ≤ 1048576 ∧ V.length ≤ 1048576 := h.resolve_left h0
  repeat (first
    | exact Ev.now _
    | (with_reducible refine Ev.bind (toWire_ev _ _ _ hp hv) ?_; try dsimp only)
    | (with_reducible refine Ev.bind (specMeets_ev _ _ _) ?_; try dsimp only)
    | (with_reducible refine Ev.bind (implMeets_ev _ _ _ hp) ?_; try dsimp only)
    | (with_reducible refine Ev.bind (eqWire_self _ _ _ hp hv) ?_; try dsimp only)
    | (with_reducible refine Ev.bind (eqIntS_self _ (by omega)) ?_; try dsimp only)
    | (refine ev_pos (by first | exact True.intro | rfl | assumption | omega) ?_; try dsimp only)
    | (refine ev_neg (by first | (simp; done) | omega) ?_; try dsimp only)
    | (refine Ev.step (fun k => by simp only [laws_FnExactCountMeets.j0]; rfl) ?_))

end Go.Proofs.Ytciihopkgblpkaa.Pure
