/- FnExactMirrorWire: the left statement: for every wire the law answers true. No condition. -/
import Derived.Test.YtciihopkgblpkaaQFnExactMirrorWirex7
import Derived.Test.YtciihopkgblpkaaBase
namespace Go.Proofs.Ytciihopkgblpkaa.Pure
open Go.RowKit Go.Proofs.Ytciihopkgblpkaa.QFnExactMirrorWire Go.Proofs.YtciihopkgblpkaaW.PrintWords Go.Proofs.YtciihopkgblpkaaW.PrintLast Go.Proofs.Ytciihopkgblpkaa.Base
set_option linter.unusedVariables false
set_option linter.unusedSimpArgs false

def FnExactMirrorWireLeft : Prop := ∀ (a0_0 : Int) (l0_1 : List Int) (l0_2 : List Int), (Lit.int .i64 a0_0).wf = true → l0_1.length ≤ maxLen → (∀ x ∈ l0_1, (Lit.int .i64 x).wf = true) → l0_2.length ≤ maxLen → (∀ x ∈ l0_2, (Lit.int .i64 x).wf = true) → ∃ k, laws_FnExactMirrorWire.f k a0_0 l0_1 l0_2 = some true

theorem toIntS_ev (l : List Int) (hl : l.length ≤ 1048576) : Ev (fun k => laws_toIntS.f k l) l := by
  have key := down (P := fun i => Ev (fun k => laws_toIntS.l0 k l (tab l.length (fun q => if q < i then rd l (q : Int) else 0)) (i : Int)) l) (n := l.length)
    (ev_now (fun k => by
      simp only [laws_toIntS.l0]
      rw [if_neg (by omega)]
      congr 1
      exact (tab_ext rfl (fun q hq => by rw [if_pos hq])).symm))
    (fun i hi ih => by
      refine Ev.step (fun k => ?_) ih
      simp only [laws_toIntS.l0]
      rw [if_pos (by omega), if_pos (by omega), if_pos (by rw [tab_len]; omega), w64s hi (by omega), Int.toNat_natCast, tab_set]
      congr 1
      refine tab_congr (fun q _ => ?_)
      by_cases e : q = i
      · subst e; rw [if_pos rfl, if_pos (by omega)]
      · rw [if_neg e]
        by_cases e2 : q < i
        · rw [if_pos e2, if_pos (by omega)]
        · rw [if_neg e2, if_neg (by omega)])
  refine Ev.congr (fun k => ?_) (key 0 (by omega))
  unfold laws_toIntS.f
  rw [if_pos (by omega), if_pos (by omega), Int.toNat_natCast, tab_rep]
  simp

theorem eqIntS_ev (a b : List Int) (hl : a.length ≤ 1152921504606846976) : Ev (fun k => laws_eqIntS.f k a b) (decide (a = b)) := by
  by_cases h : a.length = b.length
  · have key := down (P := fun i => Ev (fun k => laws_eqIntS.l0 k a b (i : Int)) (decide (a.drop i = b.drop i))) (n := a.length)
      (ev_now (fun k => by
        simp only [laws_eqIntS.l0]
        rw [if_neg (by omega)]
        simp
        omega))
      (fun i hi ih => by
        rw [drop_cons hi, drop_cons (l := b) (by omega)]
        by_cases e : rd a (i : Int) = rd b (i : Int)
        · have e2 : decide (rd a (i : Int) :: a.drop (i + 1) = rd b (i : Int) :: b.drop (i + 1)) = decide (a.drop (i + 1) = b.drop (i + 1)) := by simp [e]
          rw [e2]
          refine Ev.step (fun k => ?_) ih
          simp only [laws_eqIntS.l0]
          rw [if_pos (by omega), if_pos (by omega), if_pos (by omega), if_pos e, w64s hi hl]
        · refine ev_now (fun k => ?_)
          simp only [laws_eqIntS.l0]
          rw [if_pos (by omega), if_pos (by omega), if_pos (by omega), if_neg e]
          simp [e])
    refine Ev.congr (fun k => ?_) (key 0 (by omega))
    unfold laws_eqIntS.f
    rw [if_pos (by omega)]
    rfl
  · refine Ev.congr (fun k => ?_) (Ev.now _)
    unfold laws_eqIntS.f
    rw [if_neg (by omega)]
    simp
    intro e
    exact h (by rw [e])
theorem eqIntS_self (a : List Int) (hl : a.length ≤ 1152921504606846976) : Ev (fun k => laws_eqIntS.f k a a) true := by
  have := eqIntS_ev a a hl
  simpa using this

theorem szIntS_eq (l : List Int) (a : Int) (h0 : 0 ≤ a) (h1 : a ≤ 1048576) (hl : l.length ≤ maxLen) : laws_szIntS.f l a = some (if a - (l.length : Int) < 0 then -1 else a - (l.length : Int)) := by
  have hm : l.length ≤ 9223372036854775807 := by simpa [maxLen] using hl
  unfold laws_szIntS.f
  rw [w64 (by omega) (by omega)]
  split <;> rfl

theorem toWire_ev (L : Int) (P W : List Int) (hp : P.length ≤ 1048576) (hw : W.length ≤ 1048576) : Ev (fun k => laws_toWire.f k L P W) (L, P, W) := by
  unfold laws_toWire.f
  exact Ev.bind (toIntS_ev P hp) (Ev.bind (toIntS_ev W hw) (Ev.now _))
theorem eqWire_self (L : Int) (P W : List Int) (hp : P.length ≤ 1048576) (hw : W.length ≤ 1048576) : Ev (fun k => laws_eqWire.f k L P W L P W) true := by
  unfold laws_eqWire.f
  exact ev_pos rfl (Ev.bind (eqIntS_self P (by omega)) (ev_pos rfl (Ev.bind (eqIntS_self W (by omega)) (ev_pos rfl (Ev.now _)))))
theorem szWire_eq (L : Int) (P W : List Int) (hp : P.length ≤ maxLen) (hw : W.length ≤ maxLen) : ∃ t : Int, laws_szWire.f L P W 1048576 = some t ∧ (t < 0 ∨ (P.length ≤ 1048576 ∧ W.length ≤ 1048576)) := by
  unfold laws_szWire.f
  rw [szIntS_eq P 1048576 (by omega) (by omega) hp, Option.bind_some]
  by_cases h : 1048576 - (P.length : Int) < 0
  · rw [if_pos h]; exact ⟨-1, rfl, .inl (by omega)⟩
  · rw [if_neg h, if_neg h, szIntS_eq W _ (by omega) (by omega) hw, Option.bind_some]
    by_cases h2 : 1048576 - (P.length : Int) - (W.length : Int) < 0
    · rw [if_pos h2]; exact ⟨-1, rfl, .inl (by omega)⟩
    · rw [if_neg h2, if_neg h2]; exact ⟨_, rfl, .inr ⟨by omega, by omega⟩⟩

theorem l1In_eq (a b c : Int) : spec_l1In.f a b c = some (inR b c a) := by
  unfold spec_l1In.f inR
  by_cases h : a ≥ b
  · have h' : b ≤ a := h
    rw [if_pos h]; simp [h']
  · have h' : ¬ b ≤ a := h
    rw [if_neg h]; simp [h']

theorem within_eq (a b c : Int) : impl_within.f a b c = some (inR b c a) := by
  unfold impl_within.f inR
  by_cases h : a ≥ b
  · have h' : b ≤ a := h
    rw [if_pos h]; simp [h']
  · have h' : ¬ b ≤ a := h
    rw [if_neg h]; simp [h']

theorem allWithin_ev (l : List Int) (a b : Int) (hl : l.length ≤ 1152921504606846976) : Ev (fun k => impl_allWithin.f k l a b) (inAll a b l) := by
  have key := down (P := fun i => Ev (fun k => impl_allWithin.l0 k a b l (l.length : Int) (i : Int)) (inAll a b (l.drop i))) (n := l.length)
    (ev_now (fun k => by
      simp only [impl_allWithin.l0]
      rw [if_neg (by omega)]
      simp [inAll_nil]))
    (fun i hi ih => by
      rw [drop_cons hi, inAll_cons]
      cases hc : inR a b (rd l (i : Int)) with
      | true =>
        rw [Bool.true_and]
        refine Ev.step (fun k => ?_) ih
        simp only [impl_allWithin.l0, within_eq, Option.bind_some, hc, if_true]
        rw [if_pos (by omega), if_pos (by omega), if_pos (by omega), w64s hi hl]
      | false =>
        refine ev_now (fun k => ?_)
        simp only [impl_allWithin.l0, within_eq, Option.bind_some, hc, Bool.false_eq_true, if_false]
        rw [if_pos (by omega), if_pos (by omega), if_pos (by omega)]
        simp)
  exact key 0 (by omega)

def wC (L : Int) (P W : List Int) (j : Nat) : Prop := (0 ≤ rd P (j : Int) ∧ rd P (j : Int) ≤ L) ∧ (0 < j → rd P ((j - 1 : Nat) : Int) < rd P (j : Int)) ∧ (rd W (j : Int) = 1 ∨ rd W (j : Int) = -1)
instance (L : Int) (P W : List Int) : DecidablePred (wC L P W) := fun j => by unfold wC; infer_instance
def wireV (L : Int) (P W : List Int) : Bool := decide ((1 ≤ L ∧ L ≤ 30) ∧ P.length ≤ 8 ∧ W.length = P.length) && allF P.length (wC L P W) 0
theorem wire_of {L : Int} {P W : List Int} (h : wireV L P W = true) : (1 ≤ L ∧ L ≤ 30) ∧ P.length ≤ 8 ∧ W.length = P.length ∧ ∀ j, j < P.length → wC L P W j := by
  unfold wireV at h
  rw [Bool.and_eq_true] at h
  have := of_decide_eq_true h.1
  exact ⟨this.1, this.2.1, this.2.2, allF_of h.2⟩
theorem wireV_no {L : Int} {P W : List Int} (h : ¬ ((1 ≤ L ∧ L ≤ 30) ∧ P.length ≤ 8 ∧ W.length = P.length)) : wireV L P W = false := by
  unfold wireV; rw [decide_eq_false h]; rfl
theorem wireV_yes {L : Int} {P W : List Int} (h : (1 ≤ L ∧ L ≤ 30) ∧ P.length ≤ 8 ∧ W.length = P.length) : wireV L P W = allF P.length (wC L P W) 0 := by
  unfold wireV; rw [decide_eq_true h]; rfl
theorem l8Wire_loop (L : Int) (P W : List Int) (hw : W.length = P.length) (hp : P.length ≤ 8) : Ev (fun k => spec_l8Wire.l0 k 0 L P W) (allF P.length (wC L P W) 0) := by
  have key := down (P := fun i => Ev (fun k => spec_l8Wire.l0 k (i : Int) L P W) (allF P.length (wC L P W) i)) (n := P.length)
    (ev_now (fun k => by simp only [spec_l8Wire.l0]; rw [if_neg (by omega), allF_end]))
    (fun i hi ih => by
      rw [allF_step hi]
      by_cases hc : wC L P W i
      · rw [decide_eq_true hc, Bool.true_and]
        refine Ev.step (fun k => ?_) ih
        simp only [spec_l8Wire.l0, l1In_eq, Option.bind_some]
        rw [if_pos (by omega), if_pos (by omega), if_pos (inR_iff.2 hc.1), w64s hi (by omega)]
        have hW : (if rd W (i : Int) = 1 then spec_l8Wire.l0 k ((i + 1 : Nat) : Int) L P W else if rd W (i : Int) = -1 then spec_l8Wire.l0 k ((i + 1 : Nat) : Int) L P W else some false) = spec_l8Wire.l0 k ((i + 1 : Nat) : Int) L P W := by
          rcases hc.2.2 with h | h
          · rw [if_pos h]
          · rw [if_neg (by omega), if_pos h]
        by_cases h0 : 0 < i
        · have h3 := hc.2.1 h0
          rw [if_pos (by omega), w64 (x := (i : Int) - 1) (by omega) (by omega), show (i : Int) - 1 = ((i - 1 : Nat) : Int) by omega, if_pos (by omega), if_pos (by omega), if_neg (by omega), if_pos (by omega), hW]
        · rw [if_neg (by omega), if_pos (by omega), hW]
      · rw [decide_eq_false hc, Bool.false_and]
        refine ev_now (fun k => ?_)
        simp only [spec_l8Wire.l0, l1In_eq, Option.bind_some]
        rw [if_pos (by omega), if_pos (by omega)]
        by_cases h1 : inR 0 L (rd P (i : Int)) = true
        · rw [if_pos h1]
          by_cases h0 : 0 < i
          · rw [if_pos (by omega), w64 (x := (i : Int) - 1) (by omega) (by omega), show (i : Int) - 1 = ((i - 1 : Nat) : Int) by omega, if_pos (by omega), if_pos (by omega)]
            by_cases h2 : rd P ((i - 1 : Nat) : Int) < rd P (i : Int)
            · have h3 : ¬ (rd W (i : Int) = 1 ∨ rd W (i : Int) = -1) := fun h => hc ⟨inR_iff.1 h1, fun _ => h2, h⟩
              rw [if_neg (by omega), if_pos (by omega), if_neg (fun h => h3 (.inl h)), if_neg (fun h => h3 (.inr h))]
            · rw [if_pos (by omega)]
          · have h3 : ¬ (rd W (i : Int) = 1 ∨ rd W (i : Int) = -1) := fun h => hc ⟨inR_iff.1 h1, fun h => absurd h h0, h⟩
            rw [if_neg (by omega), if_pos (by omega), if_neg (fun h => h3 (.inl h)), if_neg (fun h => h3 (.inr h))]
        · rw [if_neg h1])
  exact key 0 (by omega)
theorem l8Wire_ev (L : Int) (P W : List Int) : Ev (fun k => spec_l8Wire.f k L P W) (wireV L P W) := by
  unfold spec_l8Wire.f
  simp only [l1In_eq, Option.bind_some]
  have hno : Ev (fun k => spec_l8Wire.j0 k true L P W) false := ev_now (fun k => by simp only [spec_l8Wire.j0, if_true])
  by_cases h1 : inR 1 30 L = true
  · have g1 := inR_iff.1 h1
    refine ev_pos h1 ?_
    by_cases h2 : (P.length : Int) > 8
    · rw [wireV_no (by omega)]
      exact ev_pos h2 hno
    · refine ev_neg h2 ?_
      by_cases h3 : W.length = P.length
      · rw [wireV_yes ⟨g1, by omega, h3⟩]
        have e : ((W.length : Int) != (P.length : Int)) = false := by rw [h3]; simp
        rw [e]
        refine Ev.step (fun k => by simp only [spec_l8Wire.j0, Bool.false_eq_true, if_false]; rfl) ?_
        exact l8Wire_loop L P W h3 (by omega)
      · rw [wireV_no (by omega)]
        have e : ((W.length : Int) != (P.length : Int)) = true := by simp; omega
        rw [e]
        exact hno
  · rw [wireV_no (fun h => h1 (inR_iff.2 h.1))]
    exact ev_neg h1 hno

def wD (P W : List Int) (j : Nat) : Prop := (rd W (j : Int) = 1 ∨ rd W (j : Int) = -1) ∧ (0 < j → rd P ((j - 1 : Nat) : Int) < rd P (j : Int))
instance (P W : List Int) : DecidablePred (wD P W) := fun j => by unfold wD; infer_instance
theorem implWire_loop (L : Int) (P W : List Int) (hw : W.length = P.length) (hp : P.length ≤ 8) : Ev (fun k => impl_IsWire.l0 k W (W.length : Int) 0 L P W) (allF P.length (wD P W) 0) := by
  have key := down (P := fun i => Ev (fun k => impl_IsWire.l0 k W (W.length : Int) (i : Int) L P W) (allF P.length (wD P W) i)) (n := P.length)
    (ev_now (fun k => by simp only [impl_IsWire.l0]; rw [if_neg (by omega), allF_end]))
    (fun i hi ih => by
      rw [allF_step hi]
      by_cases hc : wD P W i
      · rw [decide_eq_true hc, Bool.true_and]
        refine Ev.step (fun k => ?_) ih
        simp only [impl_IsWire.l0]
        rw [if_pos (by omega), if_pos (by omega), if_pos (by omega), w64s hi (by omega)]
        have hR : (if (i : Int) > 0 then (if 0 ≤ wrap64 ((i : Int) - 1) then (if wrap64 ((i : Int) - 1) < (P.length : Int) then (if (i : Int) < (P.length : Int) then (if rd P (wrap64 ((i : Int) - 1)) ≥ rd P (i : Int) then some false else impl_IsWire.l0 k W (W.length : Int) ((i + 1 : Nat) : Int) L P W) else none) else none) else none) else impl_IsWire.l0 k W (W.length : Int) ((i + 1 : Nat) : Int) L P W) = impl_IsWire.l0 k W (W.length : Int) ((i + 1 : Nat) : Int) L P W := by
          by_cases h0 : 0 < i
          · have h3 := hc.2 h0
            rw [if_pos (by omega), w64 (x := (i : Int) - 1) (by omega) (by omega), show (i : Int) - 1 = ((i - 1 : Nat) : Int) by omega, if_pos (by omega), if_pos (by omega), if_pos (by omega), if_neg (by omega)]
          · rw [if_neg (by omega)]
        rcases hc.1 with h | h
        · rw [if_pos h, hR]
        · rw [if_neg (by omega), if_pos h, hR]
      · rw [decide_eq_false hc, Bool.false_and]
        refine ev_now (fun k => ?_)
        simp only [impl_IsWire.l0]
        rw [if_pos (by omega), if_pos (by omega), if_pos (by omega)]
        by_cases hs : rd W (i : Int) = 1 ∨ rd W (i : Int) = -1
        · have h0 : 0 < i := Nat.pos_of_ne_zero (fun h => hc ⟨hs, fun h' => by omega⟩)
          have h3 : ¬ rd P ((i - 1 : Nat) : Int) < rd P (i : Int) := fun h => hc ⟨hs, fun _ => h⟩
          have hR : ∀ X : Option Bool, (if (i : Int) > 0 then (if 0 ≤ wrap64 ((i : Int) - 1) then (if wrap64 ((i : Int) - 1) < (P.length : Int) then (if (i : Int) < (P.length : Int) then (if rd P (wrap64 ((i : Int) - 1)) ≥ rd P (i : Int) then some false else X) else none) else none) else none) else X) = some false := by
            intro X
            rw [if_pos (by omega), w64 (x := (i : Int) - 1) (by omega) (by omega), show (i : Int) - 1 = ((i - 1 : Nat) : Int) by omega, if_pos (by omega), if_pos (by omega), if_pos (by omega), if_pos (by omega)]
          rcases hs with h | h
          · rw [if_pos h, hR]
          · rw [if_neg (by omega), if_pos h, hR]
        · rw [if_neg (fun h => hs (.inl h)), if_neg (fun h => hs (.inr h))])
  exact key 0 (by omega)
theorem implIsWire_ev (L : Int) (P W : List Int) (hpl : P.length ≤ 1048576) : Ev (fun k => impl_IsWire.f k L P W) (wireV L P W) := by
  unfold impl_IsWire.f
  simp only [within_eq, Option.bind_some]
  have hno : Ev (fun k => impl_IsWire.j0 k true L P W) false := ev_now (fun k => by simp only [impl_IsWire.j0, if_true])
  by_cases h1 : inR 1 30 L = true
  · have g1 := inR_iff.1 h1
    refine ev_pos h1 ?_
    by_cases h2 : (P.length : Int) > 8
    · rw [wireV_no (by omega)]
      exact ev_pos h2 hno
    · refine ev_neg h2 ?_
      by_cases h3 : W.length = P.length
      · rw [wireV_yes ⟨g1, by omega, h3⟩]
        refine ev_pos (by omega) (Ev.bind (allWithin_ev P 0 L (by omega)) ?_)
        cases ha : inAll 0 L P with
        | true =>
          refine Ev.step (fun k => by simp only [impl_IsWire.j0, Bool.not_true, Bool.false_eq_true, if_false]; rfl) ?_
          have hl := implWire_loop L P W h3 (by omega)
          have e : allF P.length (wD P W) 0 = allF P.length (wC L P W) 0 := by
            rw [Bool.eq_iff_iff, allF_iff, allF_iff]
            have hA := inAll_iff.1 ha
            exact ⟨fun h j hj => ⟨hA _ (mem_of_rd hj), (h j hj).2, (h j hj).1⟩, fun h j hj => ⟨(h j hj).2.2, (h j hj).2.1⟩⟩
          rw [← e]
          exact hl
        | false =>
          have e : allF P.length (wC L P W) 0 = false := by
            rw [Bool.eq_false_iff]
            intro h
            have h' := allF_of h
            have : inAll 0 L P = true := inAll_iff.2 (all_of_rd (fun i hi => (h' i hi).1))
            rw [ha] at this
            exact absurd this (by decide)
          rw [e]
          exact hno
      · rw [wireV_no (by omega)]
        exact ev_neg (by omega) hno
  · rw [wireV_no (fun h => h1 (inR_iff.2 h.1))]
    exact ev_neg h1 hno

theorem mapped_ev (g : Int → Option Int) (h : Int → Int) (l : List Int) (hl : l.length ≤ 1048576) (hg : ∀ x ∈ l, g x = some (h x)) : Ev (fun k => Mapped.f g k l) (l.map h) := by
  have e : l.map h = tab l.length (fun q => h (rd l (q : Int))) := by
    refine tab_ext (by simp) (fun q hq => ?_)
    rw [rd_nat, rd_nat, List.getD_eq_getElem?_getD, List.getD_eq_getElem?_getD, List.getElem?_map, List.getElem?_eq_getElem hq]
    rfl
  rw [e]
  have key := down (P := fun i => Ev (fun k => Mapped.l0 g k (tab i (fun q => h (rd l (q : Int)))) l (l.length : Int) (i : Int)) (tab l.length (fun q => h (rd l (q : Int))))) (n := l.length)
    (ev_now (fun k => by simp only [Mapped.l0]; rw [if_neg (by omega)]))
    (fun i hi ih => by
      refine Ev.step (fun k => ?_) ih
      simp only [Mapped.l0]
      rw [if_pos (by omega), if_pos (by omega), if_pos (by omega), hg _ (mem_of_rd hi), Option.bind_some, tab_len, if_pos (by omega), w64s hi (by omega), tab_snoc i (fun q => h (rd l (q : Int)))])
  exact key 0 (by omega)

theorem reverse_tab (l : List Int) : l.reverse = tab l.length (fun q => rd l ((l.length - 1 - q : Nat) : Int)) := by
  refine tab_ext (by simp) (fun q hq => ?_)
  rw [rd_nat, rd_nat, List.getD_eq_getElem?_getD, List.getD_eq_getElem?_getD, List.getElem?_reverse hq]
def rvF (l : List Int) (i q : Nat) : Int := if q < i ∨ l.length ≤ q + i then rd l ((l.length - 1 - q : Nat) : Int) else rd l (q : Int)
theorem reverse_ev (l : List Int) (hl : l.length ≤ 1152921504606846975) : Ev (fun k => slices_Reverse_int_int.f k l) l.reverse := by
  have key := down (P := fun i => Ev (fun k => slices_Reverse_int_int.l0 k (tab l.length (rvF l i)) (i : Int) ((l.length : Int) - 1 - (i : Int))) l.reverse) (n := l.length / 2)
    (ev_now (fun k => by
      simp only [slices_Reverse_int_int.l0]
      rw [if_neg (by omega), reverse_tab]
      refine congrArg some (tab_congr (fun q hq => ?_))
      unfold rvF
      by_cases h : q < l.length / 2 ∨ l.length ≤ q + l.length / 2
      · rw [if_pos h]
      · rw [if_neg h]
        have : l.length - 1 - q = q := by omega
        rw [this]))
    (fun i hi ih => by
      have e : (l.length : Int) - 1 - (i : Int) = ((l.length - 1 - i : Nat) : Int) := by omega
      refine Ev.step (fun k => ?_) ih
      simp only [slices_Reverse_int_int.l0]
      rw [e, if_pos (by omega), if_pos (by omega), tab_len, if_pos (by omega), if_pos (by omega), if_pos (by omega), w64s (n := l.length) (by omega) (by omega), w64 (by omega) (by omega), Int.toNat_natCast, Int.toNat_natCast, tab_rd (by omega), tab_rd (by omega), tab_set, tab_set]
      have e2 : ((l.length - 1 - i : Nat) : Int) - 1 = (l.length : Int) - 1 - ((i + 1 : Nat) : Int) := by omega
      rw [e2]
      refine congrArg (fun z => slices_Reverse_int_int.l0 k z _ _) (tab_congr (fun q hq => ?_))
      unfold rvF
      by_cases h1 : q = l.length - 1 - i
      · subst h1
        rw [if_pos rfl, if_neg (by omega), if_pos (by omega)]
        congr 2
        omega
      · rw [if_neg h1]
        by_cases h2 : q = i
        · subst h2
          rw [if_pos rfl, if_neg (by omega), if_pos (by omega)]
        · rw [if_neg h2]
          by_cases h3 : q < i ∨ l.length ≤ q + i
          · rw [if_pos h3, if_pos (by omega)]
          · rw [if_neg h3, if_neg (by omega)])
  refine Ev.congr (fun k => ?_) (key 0 (by omega))
  unfold slices_Reverse_int_int.f
  have e : tab l.length (rvF l 0) = l := by
    refine Eq.trans ?_ (tab_of l).symm
    refine tab_congr (fun q hq => ?_)
    unfold rvF
    rw [if_neg (by omega)]
  rw [e, w64 (by omega) (by omega)]
  simp

theorem markIntS_ev (l : List Int) (a : Int) (hl : l.length ≤ 1048576) (ha : 0 ≤ a) (ha2 : a ≤ 1152921504606846976) : Ev (fun k => laws_markIntS.f k l a) (a + (l.length : Int), cnt a l.length) := by
  have key := down (P := fun i => Ev (fun k => laws_markIntS.l0 k (tab l.length (fun q => if q < i then a + q else rd l (q : Int))) (a + (i : Int)) (i : Int)) (a + (l.length : Int), cnt a l.length)) (n := l.length)
    (ev_now (fun k => by
      simp only [laws_markIntS.l0]
      rw [if_neg (by rw [tab_len]; omega)]
      congr 2
      exact tab_congr (fun q hq => by rw [if_pos hq])))
    (fun i hi ih => by
      refine Ev.step (fun k => ?_) ih
      simp only [laws_markIntS.l0]
      rw [if_pos (by rw [tab_len]; omega), if_pos (by omega), w64s hi (by omega), Int.toNat_natCast, tab_set, w64 (by omega) (by omega)]
      congr 1
      · refine tab_congr (fun q _ => ?_)
        by_cases e : q = i
        · subst e; rw [if_pos rfl, if_pos (by omega)]
        · rw [if_neg e]
          by_cases e2 : q < i
          · rw [if_pos e2, if_pos (by omega)]
          · rw [if_neg e2, if_neg (by omega)]
      · omega)
  refine Ev.congr (fun k => ?_) (key 0 (by omega))
  unfold laws_markIntS.f
  congr 1
  · rw [← tab_ext rfl (fun q _ => by rw [if_neg (by omega)])]
  · simp

theorem markWire_ev (L : Int) (P W : List Int) (hp : P.length ≤ 1048576) (hw : W.length ≤ 1048576) : Ev (fun k => laws_markWire.f k L P W 1) (1 + (P.length : Int) + (W.length : Int), cnt 1 P.length, cnt (1 + (P.length : Int)) W.length) := by
  unfold laws_markWire.f
  exact Ev.bind (markIntS_ev P 1 hp (by omega) (by omega)) (Ev.bind (markIntS_ev W _ hw (by omega) (by omega)) (Ev.now _))

theorem heldIntS_ev (n : Nat) (a : Int) (hl : n ≤ 1048576) (ha : 0 ≤ a) (ha2 : a ≤ 1152921504606846976) : Ev (fun k => laws_heldIntS.f k (cnt a n) a) (a + (n : Int)) := by
  have key := down (P := fun i => Ev (fun k => laws_heldIntS.l0 k (cnt a n) (a + (i : Int)) (i : Int)) (a + (n : Int))) (n := n)
    (ev_now (fun k => by
      simp only [laws_heldIntS.l0]
      rw [if_neg (by rw [cnt_len]; omega)]))
    (fun i hi ih => by
      refine Ev.step (fun k => ?_) ih
      simp only [laws_heldIntS.l0]
      rw [if_pos (by rw [cnt_len]; omega), if_pos (by omega), if_pos (by unfold cnt; rw [tab_rd hi]), w64s hi (by omega), w64 (by omega) (by omega)]
      congr 1
      omega)
  refine Ev.congr (fun k => ?_) (key 0 (by omega))
  unfold laws_heldIntS.f
  simp

def mirP (L : Int) (P : List Int) : List Int := tab P.length (fun q => wrap64 (L - rd P ((P.length - 1 - q : Nat) : Int)))
def mirV (W : List Int) : List Int := tab W.length (fun q => wrap64 (-(rd W ((W.length - 1 - q : Nat) : Int))))
def mirWR (L : Int) (P W : List Int) : Int × List Int × List Int × Bool := if wireV L P W = true then (L, mirP L P, mirV W, true) else (0, [], [], false)
theorem mirWR_len (L : Int) (P W : List Int) : (mirWR L P W).2.1.length ≤ 1048576 ∧ (mirWR L P W).2.2.1.length ≤ 1048576 := by
  unfold mirWR
  split
  · rename_i h
    have := wire_of h
    simp only [mirP, mirV, tab_len]
    omega
  · simp
theorem map_rev_tab (f : Int → Int) (l : List Int) : (l.map f).reverse = tab l.length (fun q => f (rd l ((l.length - 1 - q : Nat) : Int))) := by
  rw [reverse_tab, List.length_map]
  refine tab_congr (fun q hq => ?_)
  rw [rd_nat, rd_nat, List.getD_eq_getElem?_getD, List.getD_eq_getElem?_getD, List.getElem?_map, List.getElem?_eq_getElem (by omega)]
  rfl
theorem specMirW_ev (L : Int) (P W : List Int) : Ev (fun k => spec_MirrorWire.f k L P W) (mirWR L P W) := by
  unfold spec_MirrorWire.f mirWR
  refine Ev.bind (l8Wire_ev L P W) ?_
  cases hv : wireV L P W with
  | true =>
    obtain ⟨hL, hp, hw, _⟩ := wire_of hv
    simp only [if_true]
    have key := down (P := fun i => Ev (fun k => spec_MirrorWire.l0 k ((P.length : Int) - 1 - (i : Int)) L P W L (tab i (fun q => wrap64 (L - rd P ((P.length - 1 - q : Nat) : Int)))) (tab i (fun q => wrap64 (-(rd W ((P.length - 1 - q : Nat) : Int)))))) (L, mirP L P, mirV W, true)) (n := P.length)
      (ev_now (fun k => by simp only [spec_MirrorWire.l0]; rw [if_neg (by omega)]; unfold mirP mirV; rw [hw]))
      (fun i hi ih => by
        have e : (P.length : Int) - 1 - (i : Int) = ((P.length - 1 - i : Nat) : Int) := by omega
        refine Ev.step (fun k => ?_) ih
        simp only [spec_MirrorWire.l0]
        rw [e, if_pos (by omega), if_pos (by omega), if_pos (by omega), tab_len, if_pos (by omega), if_pos (by omega), tab_len, if_pos (by omega), w64 (x := ((P.length - 1 - i : Nat) : Int) - 1) (by omega) (by omega), tab_snoc i (fun q => wrap64 (L - rd P ((P.length - 1 - q : Nat) : Int))), tab_snoc i (fun q => wrap64 (-(rd W ((P.length - 1 - q : Nat) : Int))))]
        have e2 : ((P.length - 1 - i : Nat) : Int) - 1 = (P.length : Int) - 1 - ((i + 1 : Nat) : Int) := by omega
        rw [e2])
    have k0 := key 0 (by omega)
    rw [w64 (by omega) (by omega)]
    simpa [tab_zero] using k0
  | false =>
    simp only [Bool.false_eq_true, if_false]
    exact Ev.now _
theorem implMirW_ev (L : Int) (P W : List Int) (hpl : P.length ≤ 1048576) : Ev (fun k => impl_MirrorWire.f k L P W) (mirWR L P W) := by
  unfold impl_MirrorWire.f mirWR
  refine Ev.bind (implIsWire_ev L P W hpl) ?_
  cases hv : wireV L P W with
  | true =>
    obtain ⟨hL, hp, hw, _⟩ := wire_of hv
    simp only [if_true]
    refine Ev.bind (g := fun k => mapped_49.f k P L) (mapped_ev _ (fun x => wrap64 (L - x)) P hpl (fun x _ => rfl)) ?_
    refine Ev.bind (g := fun k => mapped_50.f k W) (mapped_ev _ (fun x => wrap64 (-x)) W (by omega) (fun x _ => rfl)) ?_
    refine Ev.bind (reverse_ev _ (by simp; omega)) (Ev.bind (reverse_ev _ (by simp; omega)) ?_)
    rw [map_rev_tab, map_rev_tab]
    exact Ev.now _
  | false =>
    simp only [Bool.false_eq_true, if_false]
    exact Ev.now _
theorem heldWire_ev (L : Int) (p w : List Int) (hp : p.length ≤ 1048576) (hw : w.length ≤ 1048576) : Ev (fun k => laws_heldWire.f k L (cnt 1 p.length) (cnt (1 + (p.length : Int)) w.length) 1) (1 + (p.length : Int) + (w.length : Int)) := by
  unfold laws_heldWire.f
  refine Ev.bind (heldIntS_ev _ 1 hp (by omega) (by omega)) (ev_neg (by omega) ?_)
  exact Ev.bind (heldIntS_ev _ _ hw (by omega) (by omega)) (ev_neg (by omega) (Ev.now _))

theorem FnExactMirrorWire : FnExactMirrorWireLeft := by
  intro L P V _ hm1 _ hm2 _
  refine Ev.rounds (g := fun k => laws_FnExactMirrorWire.f k L P V) ?_
  unfold laws_FnExactMirrorWire.f
  obtain ⟨t, ht, h⟩ := szWire_eq L P V hm1 hm2
  refine ev_bind0 ht ?_
  by_cases h0 : t < 0
  · exact ev_pos h0 (Ev.now _)
  refine ev_neg h0 ?_
  obtain ⟨hp, hv⟩ : P.length ≤ 1048576 ∧ V.length ≤ 1048576 := h.resolve_left h0
  obtain ⟨hr1, hr2⟩ := mirWR_len L P V
  repeat (first
    | exact Ev.now _
    | (with_reducible refine Ev.bind (toWire_ev _ _ _ hp hv) ?_; try dsimp only)
    | (with_reducible refine Ev.bind (specMirW_ev _ _ _) ?_; try dsimp only)
    | (with_reducible refine Ev.bind (implMirW_ev _ _ _ hp) ?_; try dsimp only)
    | (with_reducible refine Ev.bind (eqWire_self _ _ _ hp hv) ?_; try dsimp only)
    | (with_reducible refine Ev.bind (eqWire_self _ _ _ hr1 hr2) ?_; try dsimp only)
    | (with_reducible refine Ev.bind (markWire_ev _ _ _ hp hv) ?_; try dsimp only)
    | (with_reducible refine Ev.bind (markWire_ev _ _ _ hr1 hr2) ?_; try dsimp only)
    | (with_reducible refine Ev.bind (heldWire_ev _ _ _ hr1 hr2) ?_; try dsimp only)
    | (refine ev_pos (by first | exact True.intro | rfl | assumption | omega) ?_; try dsimp only)
    | (refine ev_neg (by first | (simp; done) | omega) ?_; try dsimp only)
    | (refine Ev.step (fun k => by simp only [laws_FnExactMirrorWire.j0]; rfl) ?_)
    | (refine Ev.step (fun k => by simp only [laws_FnExactMirrorWire.j1]; rfl) ?_)
    | (refine Ev.step (fun k => by simp only [laws_FnExactMirrorWire.j2]; rfl) ?_))

end Go.Proofs.Ytciihopkgblpkaa.Pure
