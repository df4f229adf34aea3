/- FnExactLastFall: the left statement: for every wire (and number) the law answers true. No condition. -/
import Derived.Test.YtciihopkgblpkaaQFnExactLastFallx5
import Derived.Test.YtciihopkgblpkaaBase
namespace Go.Proofs.Ytciihopkgblpkaa.Pure
open Go.RowKit Go.Proofs.Ytciihopkgblpkaa.QFnExactLastFall Go.Proofs.YtciihopkgblpkaaW.PrintWords Go.Proofs.YtciihopkgblpkaaW.PrintLast Go.Proofs.Ytciihopkgblpkaa.Base
set_option linter.unusedVariables false
set_option linter.unusedSimpArgs false

def FnExactLastFallLeft : Prop := ∀ (a0_0 : Int) (l0_1 : List Int) (l0_2 : List Int), (Lit.int .i64 a0_0).wf = true → l0_1.length ≤ maxLen → (∀ x ∈ l0_1, (Lit.int .i64 x).wf = true) → l0_2.length ≤ maxLen → (∀ x ∈ l0_2, (Lit.int .i64 x).wf = true) → ∃ k, laws_FnExactLastFall.f k a0_0 l0_1 l0_2 = some true

theorem toIntS_ev (l : List Int) (hl : l.length ≤ 1048576) : Ev (fun k => laws_toIntS.f k l) l := by
  have key := down (P := fun i => Ev (fun k => laws_toIntS.l0 k l (tab l.length (fun q => if q < i then rd l (q : Int) else 0)) (i : Int)) l) (n := l.length)
    (ev_now (fun k => by
      simp only [laws_toIntS.l0]
      rw [if_neg (by omega)]
      congr 1
      exact (tab_ext rfl (fun q hq => by rw [if_pos hq])).symm))
    (fun i hi ih => by
      refine Ev.step (fun k => ?_) ih
      simp only [laws_toIntS.l0]
      rw [if_pos (by omega), if_pos (by omega), if_pos (by rw [tab_len]; omega), w64s hi (by omega), Int.toNat_natCast, tab_set]
      congr 1
      refine tab_congr (fun q _ => ?_)
      by_cases e : q = i
      · subst e; rw [if_pos rfl, if_pos (by omega)]
      · rw [if_neg e]
        by_cases e2 : q < i
        · rw [if_pos e2, if_pos (by omega)]
        · rw [if_neg e2, if_neg (by omega)])
  refine Ev.congr (fun k => ?_) (key 0 (by omega))
  unfold laws_toIntS.f
  rw [if_pos (by omega), if_pos (by omega), Int.toNat_natCast, tab_rep]
  simp

theorem eqIntS_ev (a b : List Int) (hl : a.length ≤ 1152921504606846976) : Ev (fun k => laws_eqIntS.f k a b) (decide (a = b)) := by
  by_cases h : a.length = b.length
  · have key := down (P := fun i => Ev (fun k => laws_eqIntS.l0 k a b (i : Int)) (decide (a.drop i = b.drop i))) (n := a.length)
      (ev_now (fun k => by
        simp only [laws_eqIntS.l0]
        rw [if_neg (by omega)]
        simp
        omega))
      (fun i hi ih => by
        rw [drop_cons hi, drop_cons (l := b) (by omega)]
        by_cases e : rd a (i : Int) = rd b (i : Int)
        · have e2 : decide (rd a (i : Int) :: a.drop (i + 1) = rd b (i : Int) :: b.drop (i + 1)) = decide (a.drop (i + 1) = b.drop (i + 1)) := by simp [e]
          rw [e2]
          refine Ev.step (fun k => ?_) ih
          simp only [laws_eqIntS.l0]
          rw [if_pos (by omega), if_pos (by omega), if_pos (by omega), if_pos e, w64s hi hl]
        · refine ev_now (fun k => ?_)
          simp only [laws_eqIntS.l0]
          rw [if_pos (by omega), if_pos (by omega), if_pos (by omega), if_neg e]
          simp [e])
    refine Ev.congr (fun k => ?_) (key 0 (by omega))
    unfold laws_eqIntS.f
    rw [if_pos (by omega)]
    rfl
  · refine Ev.congr (fun k => ?_) (Ev.now _)
    unfold laws_eqIntS.f
    rw [if_neg (by omega)]
    simp
    intro e
    exact h (by rw [e])
theorem eqIntS_self (a : List Int) (hl : a.length ≤ 1152921504606846976) : Ev (fun k => laws_eqIntS.f k a a) true := by
  have := eqIntS_ev a a hl
  simpa using this

theorem szIntS_eq (l : List Int) (a : Int) (h0 : 0 ≤ a) (h1 : a ≤ 1048576) (hl : l.length ≤ maxLen) : laws_szIntS.f l a = some (if a - (l.length : Int) < 0 then -1 else a - (l.length : Int)) := by
  have hm : l.length ≤ 9223372036854775807 := by simpa [maxLen] using hl
  unfold laws_szIntS.f
  rw [w64 (by omega) (by omega)]
  split <;> rfl

theorem toWire_ev (L : Int) (P W : List Int) (hp : P.length ≤ 1048576) (hw : W.length ≤ 1048576) : Ev (fun k => laws_toWire.f k L P W) (L, P, W) := by
  unfold laws_toWire.f
  exact Ev.bind (toIntS_ev P hp) (Ev.bind (toIntS_ev W hw) (Ev.now _))
theorem eqWire_self (L : Int) (P W : List Int) (hp : P.length ≤ 1048576) (hw : W.length ≤ 1048576) : Ev (fun k => laws_eqWire.f k L P W L P W) true := by
  unfold laws_eqWire.f
  exact ev_pos rfl (Ev.bind (eqIntS_self P (by omega)) (ev_pos rfl (Ev.bind (eqIntS_self W (by omega)) (ev_pos rfl (Ev.now _)))))
theorem szWire_eq (L : Int) (P W : List Int) (hp : P.length ≤ maxLen) (hw : W.length ≤ maxLen) : ∃ t : Int, laws_szWire.f L P W 1048576 = some t ∧ (t < 0 ∨ (P.length ≤ 1048576 ∧ W.length ≤ 1048576)) := by
  unfold laws_szWire.f
  rw [szIntS_eq P 1048576 (by omega) (by omega) hp, Option.bind_some]
  by_cases h : 1048576 - (P.length : Int) < 0
  · rw [if_pos h]; exact ⟨-1, rfl, .inl (by omega)⟩
  · rw [if_neg h, if_neg h, szIntS_eq W _ (by omega) (by omega) hw, Option.bind_some]
    by_cases h2 : 1048576 - (P.length : Int) - (W.length : Int) < 0
    · rw [if_pos h2]; exact ⟨-1, rfl, .inl (by omega)⟩
    · rw [if_neg h2, if_neg h2]; exact ⟨_, rfl, .inr ⟨by omega, by omega⟩⟩

theorem l1In_eq (a b c : Int) : spec_l1In.f a b c = some (inR b c a) := by
  unfold spec_l1In.f inR
  by_cases h : a ≥ b
  · have h' : b ≤ a := h
    rw [if_pos h]; simp [h']
  · have h' : ¬ b ≤ a := h
    rw [if_neg h]; simp [h']

theorem within_eq (a b c : Int) : impl_within.f a b c = some (inR b c a) := by
  unfold impl_within.f inR
  by_cases h : a ≥ b
  · have h' : b ≤ a := h
    rw [if_pos h]; simp [h']
  · have h' : ¬ b ≤ a := h
    rw [if_neg h]; simp [h']

theorem allWithin_ev (l : List Int) (a b : Int) (hl : l.length ≤ 1152921504606846976) : Ev (fun k => impl_allWithin.f k l a b) (inAll a b l) := by
  have key := down (P := fun i => Ev (fun k => impl_allWithin.l0 k a b l (l.length : Int) (i : Int)) (inAll a b (l.drop i))) (n := l.length)
    (ev_now (fun k => by
      simp only [impl_allWithin.l0]
      rw [if_neg (by omega)]
      simp [inAll_nil]))
    (fun i hi ih => by
      rw [drop_cons hi, inAll_cons]
      cases hc : inR a b (rd l (i : Int)) with
      | true =>
        rw [Bool.true_and]
        refine Ev.step (fun k => ?_) ih
        simp only [impl_allWithin.l0, within_eq, Option.bind_some, hc, if_true]
        rw [if_pos (by omega), if_pos (by omega), if_pos (by omega), w64s hi hl]
      | false =>
        refine ev_now (fun k => ?_)
        simp only [impl_allWithin.l0, within_eq, Option.bind_some, hc, Bool.false_eq_true, if_false]
        rw [if_pos (by omega), if_pos (by omega), if_pos (by omega)]
        simp)
  exact key 0 (by omega)

def wC (L : Int) (P W : List Int) (j : Nat) : Prop := (0 ≤ rd P (j : Int) ∧ rd P (j : Int) ≤ L) ∧ (0 < j → rd P ((j - 1 : Nat) : Int) < rd P (j : Int)) ∧ (rd W (j : Int) = 1 ∨ rd W (j : Int) = -1)
instance (L : Int) (P W : List Int) : DecidablePred (wC L P W) := fun j => by unfold wC; infer_instance
def wireV (L : Int) (P W : List Int) : Bool := decide ((1 ≤ L ∧ L ≤ 30) ∧ P.length ≤ 8 ∧ W.length = P.length) && allF P.length (wC L P W) 0
theorem wire_of {L : Int} {P W : List Int} (h : wireV L P W = true) : (1 ≤ L ∧ L ≤ 30) ∧ P.length ≤ 8 ∧ W.length = P.length ∧ ∀ j, j < P.length → wC L P W j := by
  unfold wireV at h
  rw [Bool.and_eq_true] at h
  have := of_decide_eq_true h.1
  exact ⟨this.1, this.2.1, this.2.2, allF_of h.2⟩
theorem wireV_no {L : Int} {P W : List Int} (h : ¬ ((1 ≤ L ∧ L ≤ 30) ∧ P.length ≤ 8 ∧ W.length = P.length)) : wireV L P W = false := by
  unfold wireV; rw [decide_eq_false h]; rfl
theorem wireV_yes {L : Int} {P W : List Int} (h : (1 ≤ L ∧ L ≤ 30) ∧ P.length ≤ 8 ∧ W.length = P.length) : wireV L P W = allF P.length (wC L P W) 0 := by
  unfold wireV; rw [decide_eq_true h]; rfl
theorem l8Wire_loop (L : Int) (P W : List Int) (hw : W.length = P.length) (hp : P.length ≤ 8) : Ev (fun k => spec_l8Wire.l0 k 0 L P W) (allF P.length (wC L P W) 0) := by
  have key := down (P := fun i => Ev (fun k => spec_l8Wire.l0 k (i : Int) L P W) (allF P.length (wC L P W) i)) (n := P.length)
    (ev_now (fun k => by simp only [spec_l8Wire.l0]; rw [if_neg (by omega), allF_end]))
    (fun i hi ih => by
      rw [allF_step hi]
      by_cases hc : wC L P W i
      · rw [decide_eq_true hc, Bool.true_and]
        refine Ev.step (fun k => ?_) ih
        simp only [spec_l8Wire.l0, l1In_eq, Option.bind_some]
        rw [if_pos (by omega), if_pos (by omega), if_pos (inR_iff.2 hc.1), w64s hi (by omega)]
        have hW : (if rd W (i : Int) = 1 then spec_l8Wire.l0 k ((i + 1 : Nat) : Int) L P W else if rd W (i : Int) = -1 then spec_l8Wire.l0 k ((i + 1 : Nat) : Int) L P W else some false) = spec_l8Wire.l0 k ((i + 1 : Nat) : Int) L P W := by
          rcases hc.2.2 with h | h
          · rw [if_pos h]
          · rw [if_neg (by omega), if_pos h]
        by_cases h0 : 0 < i
        · have h3 := hc.2.1 h0
          rw [if_pos (by omega), w64 (x := (i : Int) - 1) (by omega) (by omega), show (i : Int) - 1 = ((i - 1 : Nat) : Int) by omega, if_pos (by omega), if_pos (by omega), if_neg (by omega), if_pos (by omega), hW]
        · rw [if_neg (by omega), if_pos (by omega), hW]
      · rw [decide_eq_false hc, Bool.false_and]
        refine ev_now (fun k => ?_)
        simp only [spec_l8Wire.l0, l1In_eq, Option.bind_some]
        rw [if_pos (by omega), if_pos (by omega)]
        by_cases h1 : inR 0 L (rd P (i : Int)) = true
        · rw [if_pos h1]
          by_cases h0 : 0 < i
          · rw [if_pos (by omega), w64 (x := (i : Int) - 1) (by omega) (by omega), show (i : Int) - 1 = ((i - 1 : Nat) : Int) by omega, if_pos (by omega), if_pos (by omega)]
            by_cases h2 : rd P ((i - 1 : Nat) : Int) < rd P (i : Int)
            · have h3 : ¬ (rd W (i : Int) = 1 ∨ rd W (i : Int) = -1) := fun h => hc ⟨inR_iff.1 h1, fun _ => h2, h⟩
              rw [if_neg (by omega), if_pos (by omega), if_neg (fun h => h3 (.inl h)), if_neg (fun h => h3 (.inr h))]
            · rw [if_pos (by omega)]
          · have h3 : ¬ (rd W (i : Int) = 1 ∨ rd W (i : Int) = -1) := fun h => hc ⟨inR_iff.1 h1, fun h => absurd h h0, h⟩
            rw [if_neg (by omega), if_pos (by omega), if_neg (fun h => h3 (.inl h)), if_neg (fun h => h3 (.inr h))]
        · rw [if_neg h1])
  exact key 0 (by omega)
theorem l8Wire_ev (L : Int) (P W : List Int) : Ev (fun k => spec_l8Wire.f k L P W) (wireV L P W) := by
  unfold spec_l8Wire.f
  simp only [l1In_eq, Option.bind_some]
  have hno : Ev (fun k => spec_l8Wire.j0 k true L P W) false := ev_now (fun k => by simp only [spec_l8Wire.j0, if_true])
  by_cases h1 : inR 1 30 L = true
  · have g1 := inR_iff.1 h1
    refine ev_pos h1 ?_
    by_cases h2 : (P.length : Int) > 8
    · rw [wireV_no (by omega)]
      exact ev_pos h2 hno
    · refine ev_neg h2 ?_
      by_cases h3 : W.length = P.length
      · rw [wireV_yes ⟨g1, by omega, h3⟩]
        have e : ((W.length : Int) != (P.length : Int)) = false := by rw [h3]; simp
        rw [e]
        refine Ev.step (fun k => by simp only [spec_l8Wire.j0, Bool.false_eq_true, if_false]; rfl) ?_
        exact l8Wire_loop L P W h3 (by omega)
      · rw [wireV_no (by omega)]
        have e : ((W.length : Int) != (P.length : Int)) = true := by simp; omega
        rw [e]
        exact hno
  · rw [wireV_no (fun h => h1 (inR_iff.2 h.1))]
    exact ev_neg h1 hno

def wD (P W : List Int) (j : Nat) : Prop := (rd W (j : Int) = 1 ∨ rd W (j : Int) = -1) ∧ (0 < j → rd P ((j - 1 : Nat) : Int) < rd P (j : Int))
instance (P W : List Int) : DecidablePred (wD P W) := fun j => by unfold wD; infer_instance
theorem implWire_loop (L : Int) (P W : List Int) (hw : W.length = P.length) (hp : P.length ≤ 8) : Ev (fun k => impl_IsWire.l0 k W (W.length : Int) 0 L P W) (allF P.length (wD P W) 0) := by
  have key := down (P := fun i => Ev (fun k => impl_IsWire.l0 k W (W.length : Int) (i : Int) L P W) (allF P.length (wD P W) i)) (n := P.length)
    (ev_now (fun k => by simp only [impl_IsWire.l0]; rw [if_neg (by omega), allF_end]))
    (fun i hi ih => by
      rw [allF_step hi]
      by_cases hc : wD P W i
      · rw [decide_eq_true hc, Bool.true_and]
        refine Ev.step (fun k => ?_) ih
        simp only [impl_IsWire.l0]
        rw [if_pos (by omega), if_pos (by omega), if_pos (by omega), w64s hi (by omega)]
        have hR : (if (i : Int) > 0 then (if 0 ≤ wrap64 ((i : Int) - 1) then (if wrap64 ((i : Int) - 1) < (P.length : Int) then (if (i : Int) < (P.length : Int) then (if rd P (wrap64 ((i : Int) - 1)) ≥ rd P (i : Int) then some false else impl_IsWire.l0 k W (W.length : Int) ((i + 1 : Nat) : Int) L P W) else none) else none) else none) else impl_IsWire.l0 k W (W.length : Int) ((i + 1 : Nat) : Int) L P W) = impl_IsWire.l0 k W (W.length : Int) ((i + 1 : Nat) : Int) L P W := by
          by_cases h0 : 0 < i
          · have h3 := hc.2 h0
            rw [if_pos (by omega), w64 (x := (i : Int) - 1) (by omega) (by omega), show (i : Int) - 1 = ((i - 1 : Nat) : Int) by omega, if_pos (by omega), if_pos (by omega), if_pos (by omega), if_neg (by omega)]
          · rw [if_neg (by omega)]
        rcases hc.1 with h | h
        · rw [if_pos h, hR]
        · rw [if_neg (by omega), if_pos h, hR]
      · rw [decide_eq_false hc, Bool.false_and]
        refine ev_now (fun k => ?_)
        simp only [impl_IsWire.l0]
        rw [if_pos (by omega), if_pos (by omega), if_pos (by omega)]
        by_cases hs : rd W (i : Int) = 1 ∨ rd W (i : Int) = -1
        · have h0 : 0 < i := Nat.pos_of_ne_zero (fun h => hc ⟨hs, fun h' => by omega⟩)
          have h3 : ¬ rd P ((i - 1 : Nat) : Int) < rd P (i : Int) := fun h => hc ⟨hs, fun _ => h⟩
          have hR : ∀ X : Option Bool, (if (i : Int) > 0 then (if 0 ≤ wrap64 ((i : Int) - 1) then (if wrap64 ((i : Int) - 1) < (P.length : Int) then (if (i : Int) < (P.length : Int) then (if rd P (wrap64 ((i : Int) - 1)) ≥ rd P (i : Int) then some false else X) else none) else none) else none) else X) = some false := by
            intro X
            rw [if_pos (by omega), w64 (x := (i : Int) - 1) (by omega) (by omega), show (i : Int) - 1 = ((i - 1 : Nat) : Int) by omega, if_pos (by omega), if_pos (by omega), if_pos (by omega), if_pos (by omega)]
          rcases hs with h | h
          · rw [if_pos h, hR]
          · rw [if_neg (by omega), if_pos h, hR]
        · rw [if_neg (fun h => hs (.inl h)), if_neg (fun h => hs (.inr h))])
  exact key 0 (by omega)
theorem implIsWire_ev (L : Int) (P W : List Int) (hpl : P.length ≤ 1048576) : Ev (fun k => impl_IsWire.f k L P W) (wireV L P W) := by
  unfold impl_IsWire.f
  simp only [within_eq, Option.bind_some]
  have hno : Ev (fun k => impl_IsWire.j0 k true L P W) false := ev_now (fun k => by simp only [impl_IsWire.j0, if_true])
  by_cases h1 : inR 1 30 L = true
  · have g1 := inR_iff.1 h1
    refine ev_pos h1 ?_
    by_cases h2 : (P.length : Int) > 8
    · rw [wireV_no (by omega)]
      exact ev_pos h2 hno
    · refine ev_neg h2 ?_
      by_cases h3 : W.length = P.length
      · rw [wireV_yes ⟨g1, by omega, h3⟩]
        refine ev_pos (by omega) (Ev.bind (allWithin_ev P 0 L (by omega)) ?_)
        cases ha : inAll 0 L P with
        | true =>
          refine Ev.step (fun k => by simp only [impl_IsWire.j0, Bool.not_true, Bool.false_eq_true, if_false]; rfl) ?_
          have hl := implWire_loop L P W h3 (by omega)
          have e : allF P.length (wD P W) 0 = allF P.length (wC L P W) 0 := by
            rw [Bool.eq_iff_iff, allF_iff, allF_iff]
            have hA := inAll_iff.1 ha
            exact ⟨fun h j hj => ⟨hA _ (mem_of_rd hj), (h j hj).2, (h j hj).1⟩, fun h j hj => ⟨(h j hj).2.2, (h j hj).2.1⟩⟩
          rw [← e]
          exact hl
        | false =>
          have e : allF P.length (wC L P W) 0 = false := by
            rw [Bool.eq_false_iff]
            intro h
            have h' := allF_of h
            have : inAll 0 L P = true := inAll_iff.2 (all_of_rd (fun i hi => (h' i hi).1))
            rw [ha] at this
            exact absurd this (by decide)
          rw [e]
          exact hno
      · rw [wireV_no (by omega)]
        exact ev_neg (by omega) hno
  · rw [wireV_no (fun h => h1 (inR_iff.2 h.1))]
    exact ev_neg h1 hno

def shade (L : Int) (P W : List Int) (j : Nat) : Int := if rd W (j : Int) < 0 then rd P (j : Int) else L - rd P (j : Int)
def shades (L : Int) (P W : List Int) : List Int := tab P.length (shade L P W)
theorem shades_len (L : Int) (P W : List Int) : (shades L P W).length = P.length := tab_len _ _
theorem shade_bd {L : Int} {P W : List Int} (h : wireV L P W = true) {j : Nat} (hj : j < P.length) : 0 ≤ shade L P W j ∧ shade L P W j ≤ L := by
  have hc := (wire_of h).2.2.2 j hj
  unfold shade
  split
  · exact hc.1
  · have := hc.1; omega
theorem shade_row {L : Int} {P W : List Int} {i : Nat} (out : List Int) (h : out.length < 17592186044416) (hL : 0 ≤ L - rd P (i : Int) ∧ L - rd P (i : Int) ≤ 30) (F : List Int → Option (List Int)) :
    (if rd W (i : Int) < 0 then (if out.length < 17592186044416 then F (out ++ [rd P (i : Int)]) else none) else (if out.length < 17592186044416 then F (out ++ [wrap64 (L - rd P (i : Int))]) else none)) = F (out ++ [shade L P W i]) := by
  rw [if_pos h, if_pos h, w64 (by omega) (by omega)]
  unfold shade
  split <;> rfl
theorem l8Shades_ev (L : Int) (P W : List Int) (h : wireV L P W = true) : Ev (fun k => spec_l8Shades.f k L P W) (shades L P W) := by
  have hw := wire_of h
  have key := down (P := fun i => Ev (fun k => spec_l8Shades.l0 k (tab i (shade L P W)) (i : Int) L P W) (shades L P W)) (n := P.length)
    (ev_now (fun k => by simp only [spec_l8Shades.l0]; rw [if_neg (by omega)]; rfl))
    (fun i hi ih => by
      have hc := (hw.2.2.2 i hi).1
      refine Ev.step (fun k => ?_) ih
      simp only [spec_l8Shades.l0]
      rw [if_pos (by omega), if_pos (by omega), if_pos (by omega), w64s hi (by omega), shade_row (tab i (shade L P W)) (by rw [tab_len]; omega) (by omega) (fun o => spec_l8Shades.l0 k o ((i + 1 : Nat) : Int) L P W), tab_snoc i (shade L P W)])
  exact key 0 (by omega)
theorem implShades_ev (L : Int) (P W : List Int) (h : wireV L P W = true) : Ev (fun k => impl_Wire_shades.f k L P W) (shades L P W) := by
  have hw := wire_of h
  have key := down (P := fun i => Ev (fun k => impl_Wire_shades.l0 k (tab i (shade L P W)) P (P.length : Int) (i : Int) L P W) (shades L P W)) (n := P.length)
    (ev_now (fun k => by simp only [impl_Wire_shades.l0]; rw [if_neg (by omega)]; rfl))
    (fun i hi ih => by
      have hc := (hw.2.2.2 i hi).1
      refine Ev.step (fun k => ?_) ih
      simp only [impl_Wire_shades.l0]
      rw [if_pos (by omega), if_pos (by omega), if_pos (by omega), if_pos (by omega), w64s hi (by omega), shade_row (tab i (shade L P W)) (by rw [tab_len]; omega) (by omega) (fun o => impl_Wire_shades.l0 k o P (P.length : Int) ((i + 1 : Nat) : Int) L P W), tab_snoc i (shade L P W)])
  exact key 0 (by omega)

theorem slicesMax_ev (l : List Int) (h0 : 0 < l.length) (hl : l.length ≤ 1048576) : Ev (fun k => slices_Max_int_int.f k l) (rmax (rd l 0) (fun j => rd l ((j + 1 : Nat) : Int)) (l.length - 1)) := by
  have key := down (P := fun i => Ev (fun k => slices_Max_int_int.l0 k l (rmax (rd l 0) (fun j => rd l ((j + 1 : Nat) : Int)) i) ((i + 1 : Nat) : Int)) (rmax (rd l 0) (fun j => rd l ((j + 1 : Nat) : Int)) (l.length - 1))) (n := l.length - 1)
    (ev_now (fun k => by simp only [slices_Max_int_int.l0]; rw [if_neg (by omega)]))
    (fun i hi ih => by
      refine Ev.step (fun k => ?_) ih
      simp only [slices_Max_int_int.l0]
      rw [if_pos (by omega), if_pos (by omega), w64s (n := l.length) (by omega) (by omega)]
      rfl)
  unfold slices_Max_int_int.f
  exact ev_neg (by omega) (ev_pos (by omega) (key 0 (by omega)))

theorem l1Most_eq (a b : Int) : spec_l1Most.f a b = some (mx a b) := by
  unfold spec_l1Most.f mx
  by_cases h : a > b
  · rw [if_pos h, if_neg (by omega)]
  · rw [if_neg h]
    by_cases h2 : a < b
    · rw [if_pos h2]
    · rw [if_neg h2]; congr 1; omega
def lastR (L : Int) (P W : List Int) : Int × Bool := if wireV L P W = true then (rmax 0 (shade L P W) P.length, true) else (0, false)
theorem specLast_ev (L : Int) (P W : List Int) : Ev (fun k => spec_LastFall.f k L P W) (lastR L P W) := by
  unfold spec_LastFall.f lastR
  refine Ev.bind (l8Wire_ev L P W) ?_
  cases hv : wireV L P W with
  | true =>
    have hw := wire_of hv
    refine ev_pos rfl (Ev.bind (l8Shades_ev L P W hv) ?_)
    have key := down (P := fun i => Ev (fun k => spec_LastFall.l0 k (rmax 0 (shade L P W) i) (shades L P W) (i : Int)) (rmax 0 (shade L P W) P.length, true)) (n := P.length)
      (ev_now (fun k => by simp only [spec_LastFall.l0]; rw [if_neg (by rw [shades_len]; omega)]))
      (fun i hi ih => by
        refine Ev.step (fun k => ?_) ih
        simp only [spec_LastFall.l0, l1Most_eq, Option.bind_some]
        rw [if_pos (by rw [shades_len]; omega), if_pos (by omega), w64s hi (by omega)]
        unfold shades
        rw [tab_rd hi]
        rfl)
    exact key 0 (by omega)
  | false => exact ev_neg (by simp) (Ev.now _)
theorem last_same {L : Int} {P W : List Int} (h : wireV L P W = true) : rmax (rd (shades L P W ++ [0]) 0) (fun j => rd (shades L P W ++ [0]) ((j + 1 : Nat) : Int)) ((shades L P W ++ [0]).length - 1) = rmax 0 (shade L P W) P.length := by
  have hlen : (shades L P W ++ [0]).length - 1 = P.length := by simp [shades_len]
  rw [hlen]
  have at_lt : ∀ j, j < P.length → rd (shades L P W ++ [0]) (j : Int) = shade L P W j := fun j hj => by
    rw [rd_app_l (by rw [shades_len]; exact hj)]; unfold shades; rw [tab_rd hj]
  have at_end : rd (shades L P W ++ [0]) (P.length : Int) = 0 := by
    have := rd_snoc (shades L P W) 0
    rwa [shades_len] at this
  have g1 := rmax_ge (rd (shades L P W ++ [0]) 0) (fun j => rd (shades L P W ++ [0]) ((j + 1 : Nat) : Int)) P.length
  have g2 := rmax_ge 0 (shade L P W) P.length
  have upA : ∀ j, j ≤ P.length → rd (shades L P W ++ [0]) (j : Int) ≤ rmax 0 (shade L P W) P.length := by
    intro j hj
    by_cases e : j = P.length
    · rw [e, at_end]; exact g2.1
    · rw [at_lt j (by omega)]; exact g2.2 j (by omega)
  have upB : ∀ j, j ≤ P.length → rd (shades L P W ++ [0]) (j : Int) ≤ rmax (rd (shades L P W ++ [0]) 0) (fun j => rd (shades L P W ++ [0]) ((j + 1 : Nat) : Int)) P.length := by
    intro j hj
    match j, hj with
    | 0, _ => exact g1.1
    | j + 1, hj => exact g1.2 j (by omega)
  apply Int.le_antisymm
  · rcases rmax_mem (rd (shades L P W ++ [0]) 0) (fun j => rd (shades L P W ++ [0]) ((j + 1 : Nat) : Int)) P.length with e | ⟨j, hj, e⟩
    · rw [e]; exact upA 0 (by omega)
    · rw [e]; exact upA (j + 1) (by omega)
  · rcases rmax_mem 0 (shade L P W) P.length with e | ⟨j, hj, e⟩
    · rw [e]
      have := upB P.length (Nat.le_refl _)
      rwa [at_end] at this
    · rw [e]
      have := upB j (by omega)
      rwa [at_lt j hj] at this
theorem implLast_ev (L : Int) (P W : List Int) (hp : P.length ≤ 1048576) : Ev (fun k => impl_LastFall.f k L P W) (lastR L P W) := by
  unfold impl_LastFall.f lastR
  refine Ev.bind (implIsWire_ev L P W hp) ?_
  cases hv : wireV L P W with
  | true =>
    have hw := wire_of hv
    refine ev_pos rfl (Ev.bind (implShades_ev L P W hv) (ev_pos (by rw [shades_len]; omega) ?_))
    have hm := slicesMax_ev (shades L P W ++ [0]) (by simp) (by simp [shades_len]; omega)
    rw [last_same hv] at hm
    exact Ev.bind hm (Ev.now _)
  | false => exact ev_neg (by simp) (Ev.now _)

theorem FnExactLastFall : FnExactLastFallLeft := by
  intro L P V _ hm1 _ hm2 _
  refine Ev.rounds (g := fun k => laws_FnExactLastFall.f k L P V) ?_
  unfold laws_FnExactLastFall.f
  obtain ⟨t, ht, h⟩ := szWire_eq L P V hm1 hm2
  refine ev_bind0 ht ?_
  by_cases h0 : t < 0
  · exact ev_pos h0 (Ev.now _)
  refine ev_neg h0 ?_
  obtain ⟨hp, hv⟩ : P.length ≤ 1048576 ∧ V.length ≤ 1048576 := h.resolve_left h0
  repeat (first
    | exact Ev.now _
    | (with_reducible refine Ev.bind (toWire_ev _ _ _ hp hv) ?_; try dsimp only)
    | (with_reducible refine Ev.bind (specLast_ev _ _ _) ?_; try dsimp only)
    | (with_reducible refine Ev.bind (implLast_ev _ _ _ hp) ?_; try dsimp only)
    | (with_reducible refine Ev.bind (eqWire_self _ _ _ hp hv) ?_; try dsimp only)
    | (with_reducible refine Ev.bind (eqIntS_self _ (by omega)) ?_; try dsimp only)
    | (refine ev_pos (by first | exact True.intro | rfl | assumption | omega) ?_; try dsimp only)
    | (refine ev_neg (by first | (simp; done) | omega) ?_; try dsimp only)
    | (refine Ev.step (fun k => by simp only [laws_FnExactLastFall.j0]; rfl) ?_))

end Go.Proofs.Ytciihopkgblpkaa.Pure
