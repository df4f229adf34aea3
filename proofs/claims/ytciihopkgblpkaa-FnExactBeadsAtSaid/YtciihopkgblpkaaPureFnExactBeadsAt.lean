/- FnExactBeadsAt: the left statement: for every wire and time the law answers true. No condition. -/
import Derived.Test.YtciihopkgblpkaaQFnExactBeadsAtx11
import Derived.Test.YtciihopkgblpkaaBase
import Derived.Test.YtciihopkgblpkaaU64
namespace Go.Proofs.Ytciihopkgblpkaa.Pure
open Go.RowKit Go.Proofs.Ytciihopkgblpkaa.QFnExactBeadsAt Go.Proofs.YtciihopkgblpkaaW.PrintWords Go.Proofs.YtciihopkgblpkaaW.PrintLast Go.Proofs.Ytciihopkgblpkaa.Base
set_option linter.unusedVariables false
set_option linter.unusedSimpArgs false

def FnExactBeadsAtLeft : Prop := ∀ (a0_0 : Int) (l0_1 : List Int) (l0_2 : List Int) (a1 : Int), (Lit.int .i64 a0_0).wf = true → l0_1.length ≤ maxLen → (∀ x ∈ l0_1, (Lit.int .i64 x).wf = true) → l0_2.length ≤ maxLen → (∀ x ∈ l0_2, (Lit.int .i64 x).wf = true) → (Lit.int .i64 a1).wf = true → ∃ k, laws_FnExactBeadsAt.f k a0_0 l0_1 l0_2 a1 = some true

theorem toIntS_ev (l : List Int) (hl : l.length ≤ 1048576) : Ev (fun k => laws_toIntS.f k l) l := by
  have key := down (P := fun i => Ev (fun k => laws_toIntS.l0 k l (tab l.length (fun q => if q < i then rd l (q : Int) else 0)) (i : Int)) l) (n := l.length)
    (ev_now (fun k => by
      simp only [laws_toIntS.l0]
      rw [if_neg (by omega)]
      congr 1
      exact (tab_ext rfl (fun q hq => by rw [if_pos hq])).symm))
    (fun i hi ih => by
      refine Ev.step (fun k => ?_) ih
      simp only [laws_toIntS.l0]
      rw [if_pos (by omega), if_pos (by omega), if_pos (by rw [tab_len]; omega), w64s hi (by omega), Int.toNat_natCast, tab_set]
      congr 1
      refine tab_congr (fun q _ => ?_)
      by_cases e : q = i
      · subst e; rw [if_pos rfl, if_pos (by omega)]
      · rw [if_neg e]
        by_cases e2 : q < i
        · rw [if_pos e2, if_pos (by omega)]
        · rw [if_neg e2, if_neg (by omega)])
  refine Ev.congr (fun k => ?_) (key 0 (by omega))
  unfold laws_toIntS.f
  rw [if_pos (by omega), if_pos (by omega), Int.toNat_natCast, tab_rep]
  simp

theorem eqIntS_ev (a b : List Int) (hl : a.length ≤ 1152921504606846976) : Ev (fun k => laws_eqIntS.f k a b) (decide (a = b)) := by
  by_cases h : a.length = b.length
  · have key := down (P := fun i => Ev (fun k => laws_eqIntS.l0 k a b (i : Int)) (decide (a.drop i = b.drop i))) (n := a.length)
      (ev_now (fun k => by
        simp only [laws_eqIntS.l0]
        rw [if_neg (by omega)]
        simp
        omega))
      (fun i hi ih => by
        rw [drop_cons hi, drop_cons (l := b) (by omega)]
        by_cases e : rd a (i : Int) = rd b (i : Int)
        · have e2 : decide (rd a (i : Int) :: a.drop (i + 1) = rd b (i : Int) :: b.drop (i + 1)) = decide (a.drop (i + 1) = b.drop (i + 1)) := by simp [e]
          rw [e2]
          refine Ev.step (fun k => ?_) ih
          simp only [laws_eqIntS.l0]
          rw [if_pos (by omega), if_pos (by omega), if_pos (by omega), if_pos e, w64s hi hl]
        · refine ev_now (fun k => ?_)
          simp only [laws_eqIntS.l0]
          rw [if_pos (by omega), if_pos (by omega), if_pos (by omega), if_neg e]
          simp [e])
    refine Ev.congr (fun k => ?_) (key 0 (by omega))
    unfold laws_eqIntS.f
    rw [if_pos (by omega)]
    rfl
  · refine Ev.congr (fun k => ?_) (Ev.now _)
    unfold laws_eqIntS.f
    rw [if_neg (by omega)]
    simp
    intro e
    exact h (by rw [e])
theorem eqIntS_self (a : List Int) (hl : a.length ≤ 1152921504606846976) : Ev (fun k => laws_eqIntS.f k a a) true := by
  have := eqIntS_ev a a hl
  simpa using this

theorem szIntS_eq (l : List Int) (a : Int) (h0 : 0 ≤ a) (h1 : a ≤ 1048576) (hl : l.length ≤ maxLen) : laws_szIntS.f l a = some (if a - (l.length : Int) < 0 then -1 else a - (l.length : Int)) := by
  have hm : l.length ≤ 9223372036854775807 := by simpa [maxLen] using hl
  unfold laws_szIntS.f
  rw [w64 (by omega) (by omega)]
  split <;> rfl

theorem toWire_ev (L : Int) (P W : List Int) (hp : P.length ≤ 1048576) (hw : W.length ≤ 1048576) : Ev (fun k => laws_toWire.f k L P W) (L, P, W) := by
  unfold laws_toWire.f
  exact Ev.bind (toIntS_ev P hp) (Ev.bind (toIntS_ev W hw) (Ev.now _))
theorem eqWire_self (L : Int) (P W : List Int) (hp : P.length ≤ 1048576) (hw : W.length ≤ 1048576) : Ev (fun k => laws_eqWire.f k L P W L P W) true := by
  unfold laws_eqWire.f
  exact ev_pos rfl (Ev.bind (eqIntS_self P (by omega)) (ev_pos rfl (Ev.bind (eqIntS_self W (by omega)) (ev_pos rfl (Ev.now _)))))
theorem szWire_eq (L : Int) (P W : List Int) (hp : P.length ≤ maxLen) (hw : W.length ≤ maxLen) : ∃ t : Int, laws_szWire.f L P W 1048576 = some t ∧ (t < 0 ∨ (P.length ≤ 1048576 ∧ W.length ≤ 1048576)) := by
  unfold laws_szWire.f
  rw [szIntS_eq P 1048576 (by omega) (by omega) hp, Option.bind_some]
  by_cases h : 1048576 - (P.length : Int) < 0
  · rw [if_pos h]; exact ⟨-1, rfl, .inl (by omega)⟩
  · rw [if_neg h, if_neg h, szIntS_eq W _ (by omega) (by omega) hw, Option.bind_some]
    by_cases h2 : 1048576 - (P.length : Int) - (W.length : Int) < 0
    · rw [if_pos h2]; exact ⟨-1, rfl, .inl (by omega)⟩
    · rw [if_neg h2, if_neg h2]; exact ⟨_, rfl, .inr ⟨by omega, by omega⟩⟩

theorem markIntS_ev (l : List Int) (a : Int) (hl : l.length ≤ 1048576) (ha : 0 ≤ a) (ha2 : a ≤ 1152921504606846976) : Ev (fun k => laws_markIntS.f k l a) (a + (l.length : Int), cnt a l.length) := by
  have key := down (P := fun i => Ev (fun k => laws_markIntS.l0 k (tab l.length (fun q => if q < i then a + q else rd l (q : Int))) (a + (i : Int)) (i : Int)) (a + (l.length : Int), cnt a l.length)) (n := l.length)
    (ev_now (fun k => by
      simp only [laws_markIntS.l0]
      rw [if_neg (by rw [tab_len]; omega)]
      congr 2
      exact tab_congr (fun q hq => by rw [if_pos hq])))
    (fun i hi ih => by
      refine Ev.step (fun k => ?_) ih
      simp only [laws_markIntS.l0]
      rw [if_pos (by rw [tab_len]; omega), if_pos (by omega), w64s hi (by omega), Int.toNat_natCast, tab_set, w64 (by omega) (by omega)]
      congr 1
      · refine tab_congr (fun q _ => ?_)
        by_cases e : q = i
        · subst e; rw [if_pos rfl, if_pos (by omega)]
        · rw [if_neg e]
          by_cases e2 : q < i
          · rw [if_pos e2, if_pos (by omega)]
          · rw [if_neg e2, if_neg (by omega)]
      · omega)
  refine Ev.congr (fun k => ?_) (key 0 (by omega))
  unfold laws_markIntS.f
  congr 1
  · rw [← tab_ext rfl (fun q _ => by rw [if_neg (by omega)])]
  · simp

theorem markWire_ev (L : Int) (P W : List Int) (hp : P.length ≤ 1048576) (hw : W.length ≤ 1048576) : Ev (fun k => laws_markWire.f k L P W 1) (1 + (P.length : Int) + (W.length : Int), cnt 1 P.length, cnt (1 + (P.length : Int)) W.length) := by
  unfold laws_markWire.f
  exact Ev.bind (markIntS_ev P 1 hp (by omega) (by omega)) (Ev.bind (markIntS_ev W _ hw (by omega) (by omega)) (Ev.now _))

theorem heldIntS_ev (n : Nat) (a : Int) (hl : n ≤ 1048576) (ha : 0 ≤ a) (ha2 : a ≤ 1152921504606846976) : Ev (fun k => laws_heldIntS.f k (cnt a n) a) (a + (n : Int)) := by
  have key := down (P := fun i => Ev (fun k => laws_heldIntS.l0 k (cnt a n) (a + (i : Int)) (i : Int)) (a + (n : Int))) (n := n)
    (ev_now (fun k => by
      simp only [laws_heldIntS.l0]
      rw [if_neg (by rw [cnt_len]; omega)]))
    (fun i hi ih => by
      refine Ev.step (fun k => ?_) ih
      simp only [laws_heldIntS.l0]
      rw [if_pos (by rw [cnt_len]; omega), if_pos (by omega), if_pos (by unfold cnt; rw [tab_rd hi]), w64s hi (by omega), w64 (by omega) (by omega)]
      congr 1
      omega)
  refine Ev.congr (fun k => ?_) (key 0 (by omega))
  unfold laws_heldIntS.f
  simp

theorem l1In_eq (a b c : Int) : spec_l1In.f a b c = some (inR b c a) := by
  unfold spec_l1In.f inR
  by_cases h : a ≥ b
  · have h' : b ≤ a := h
    rw [if_pos h]; simp [h']
  · have h' : ¬ b ≤ a := h
    rw [if_neg h]; simp [h']

theorem within_eq (a b c : Int) : impl_within.f a b c = some (inR b c a) := by
  unfold impl_within.f inR
  by_cases h : a ≥ b
  · have h' : b ≤ a := h
    rw [if_pos h]; simp [h']
  · have h' : ¬ b ≤ a := h
    rw [if_neg h]; simp [h']

theorem allWithin_ev (l : List Int) (a b : Int) (hl : l.length ≤ 1152921504606846976) : Ev (fun k => impl_allWithin.f k l a b) (inAll a b l) := by
  have key := down (P := fun i => Ev (fun k => impl_allWithin.l0 k a b l (l.length : Int) (i : Int)) (inAll a b (l.drop i))) (n := l.length)
    (ev_now (fun k => by
      simp only [impl_allWithin.l0]
      rw [if_neg (by omega)]
      simp [inAll_nil]))
    (fun i hi ih => by
      rw [drop_cons hi, inAll_cons]
      cases hc : inR a b (rd l (i : Int)) with
      | true =>
        rw [Bool.true_and]
        refine Ev.step (fun k => ?_) ih
        simp only [impl_allWithin.l0, within_eq, Option.bind_some, hc, if_true]
        rw [if_pos (by omega), if_pos (by omega), if_pos (by omega), w64s hi hl]
      | false =>
        refine ev_now (fun k => ?_)
        simp only [impl_allWithin.l0, within_eq, Option.bind_some, hc, Bool.false_eq_true, if_false]
        rw [if_pos (by omega), if_pos (by omega), if_pos (by omega)]
        simp)
  exact key 0 (by omega)

def wC (L : Int) (P W : List Int) (j : Nat) : Prop := (0 ≤ rd P (j : Int) ∧ rd P (j : Int) ≤ L) ∧ (0 < j → rd P ((j - 1 : Nat) : Int) < rd P (j : Int)) ∧ (rd W (j : Int) = 1 ∨ rd W (j : Int) = -1)
instance (L : Int) (P W : List Int) : DecidablePred (wC L P W) := fun j => by unfold wC; infer_instance
def wireV (L : Int) (P W : List Int) : Bool := decide ((1 ≤ L ∧ L ≤ 30) ∧ P.length ≤ 8 ∧ W.length = P.length) && allF P.length (wC L P W) 0
theorem wire_of {L : Int} {P W : List Int} (h : wireV L P W = true) : (1 ≤ L ∧ L ≤ 30) ∧ P.length ≤ 8 ∧ W.length = P.length ∧ ∀ j, j < P.length → wC L P W j := by
  unfold wireV at h
  rw [Bool.and_eq_true] at h
  have := of_decide_eq_true h.1
  exact ⟨this.1, this.2.1, this.2.2, allF_of h.2⟩
theorem wireV_no {L : Int} {P W : List Int} (h : ¬ ((1 ≤ L ∧ L ≤ 30) ∧ P.length ≤ 8 ∧ W.length = P.length)) : wireV L P W = false := by
  unfold wireV; rw [decide_eq_false h]; rfl
theorem wireV_yes {L : Int} {P W : List Int} (h : (1 ≤ L ∧ L ≤ 30) ∧ P.length ≤ 8 ∧ W.length = P.length) : wireV L P W = allF P.length (wC L P W) 0 := by
  unfold wireV; rw [decide_eq_true h]; rfl
theorem l8Wire_loop (L : Int) (P W : List Int) (hw : W.length = P.length) (hp : P.length ≤ 8) : Ev (fun k => spec_l8Wire.l0 k 0 L P W) (allF P.length (wC L P W) 0) := by
  have key := down (P := fun i => Ev (fun k => spec_l8Wire.l0 k (i : Int) L P W) (allF P.length (wC L P W) i)) (n := P.length)
    (ev_now (fun k => by simp only [spec_l8Wire.l0]; rw [if_neg (by omega), allF_end]))
    (fun i hi ih => by
      rw [allF_step hi]
      by_cases hc : wC L P W i
      · rw [decide_eq_true hc, Bool.true_and]
        refine Ev.step (fun k => ?_) ih
        simp only [spec_l8Wire.l0, l1In_eq, Option.bind_some]
        rw [if_pos (by omega), if_pos (by omega), if_pos (inR_iff.2 hc.1), w64s hi (by omega)]
        have hW : (if rd W (i : Int) = 1 then spec_l8Wire.l0 k ((i + 1 : Nat) : Int) L P W else if rd W (i : Int) = -1 then spec_l8Wire.l0 k ((i + 1 : Nat) : Int) L P W else some false) = spec_l8Wire.l0 k ((i + 1 : Nat) : Int) L P W := by
          rcases hc.2.2 with h | h
          · rw [if_pos h]
          · rw [if_neg (by omega), if_pos h]
        by_cases h0 : 0 < i
        · have h3 := hc.2.1 h0
          rw [if_pos (by omega), w64 (x := (i : Int) - 1) (by omega) (by omega), show (i : Int) - 1 = ((i - 1 : Nat) : Int) by omega, if_pos (by omega), if_pos (by omega), if_neg (by omega), if_pos (by omega), hW]
        · rw [if_neg (by omega), if_pos (by omega), hW]
      · rw [decide_eq_false hc, Bool.false_and]
        refine ev_now (fun k => ?_)
        simp only [spec_l8Wire.l0, l1In_eq, Option.bind_some]
        rw [if_pos (by omega), if_pos (by omega)]
        by_cases h1 : inR 0 L (rd P (i : Int)) = true
        · rw [if_pos h1]
          by_cases h0 : 0 < i
          · rw [if_pos (by omega), w64 (x := (i : Int) - 1) (by omega) (by omega), show (i : Int) - 1 = ((i - 1 : Nat) : Int) by omega, if_pos (by omega), if_pos (by omega)]
            by_cases h2 : rd P ((i - 1 : Nat) : Int) < rd P (i : Int)
            · have h3 : ¬ (rd W (i : Int) = 1 ∨ rd W (i : Int) = -1) := fun h => hc ⟨inR_iff.1 h1, fun _ => h2, h⟩
              rw [if_neg (by omega), if_pos (by omega), if_neg (fun h => h3 (.inl h)), if_neg (fun h => h3 (.inr h))]
            · rw [if_pos (by omega)]
          · have h3 : ¬ (rd W (i : Int) = 1 ∨ rd W (i : Int) = -1) := fun h => hc ⟨inR_iff.1 h1, fun h => absurd h h0, h⟩
            rw [if_neg (by omega), if_pos (by omega), if_neg (fun h => h3 (.inl h)), if_neg (fun h => h3 (.inr h))]
        · rw [if_neg h1])
  exact key 0 (by omega)
theorem l8Wire_ev (L : Int) (P W : List Int) : Ev (fun k => spec_l8Wire.f k L P W) (wireV L P W) := by
  unfold spec_l8Wire.f
  simp only [l1In_eq, Option.bind_some]
  have hno : Ev (fun k => spec_l8Wire.j0 k true L P W) false := ev_now (fun k => by simp only [spec_l8Wire.j0, if_true])
  by_cases h1 : inR 1 30 L = true
  · have g1 := inR_iff.1 h1
    refine ev_pos h1 ?_
    by_cases h2 : (P.length : Int) > 8
    · rw [wireV_no (by omega)]
      exact ev_pos h2 hno
    · refine ev_neg h2 ?_
      by_cases h3 : W.length = P.length
      · rw [wireV_yes ⟨g1, by omega, h3⟩]
        have e : ((W.length : Int) != (P.length : Int)) = false := by rw [h3]; simp
        rw [e]
        refine Ev.step (fun k => by simp only [spec_l8Wire.j0, Bool.false_eq_true, if_false]; rfl) ?_
        exact l8Wire_loop L P W h3 (by omega)
      · rw [wireV_no (by omega)]
        have e : ((W.length : Int) != (P.length : Int)) = true := by simp; omega
        rw [e]
        exact hno
  · rw [wireV_no (fun h => h1 (inR_iff.2 h.1))]
    exact ev_neg h1 hno

def wD (P W : List Int) (j : Nat) : Prop := (rd W (j : Int) = 1 ∨ rd W (j : Int) = -1) ∧ (0 < j → rd P ((j - 1 : Nat) : Int) < rd P (j : Int))
instance (P W : List Int) : DecidablePred (wD P W) := fun j => by unfold wD; infer_instance
theorem implWire_loop (L : Int) (P W : List Int) (hw : W.length = P.length) (hp : P.length ≤ 8) : Ev (fun k => impl_IsWire.l0 k W (W.length : Int) 0 L P W) (allF P.length (wD P W) 0) := by
  have key := down (P := fun i => Ev (fun k => impl_IsWire.l0 k W (W.length : Int) (i : Int) L P W) (allF P.length (wD P W) i)) (n := P.length)
    (ev_now (fun k => by simp only [impl_IsWire.l0]; rw [if_neg (by omega), allF_end]))
    (fun i hi ih => by
      rw [allF_step hi]
      by_cases hc : wD P W i
      · rw [decide_eq_true hc, Bool.true_and]
        refine Ev.step (fun k => ?_) ih
        simp only [impl_IsWire.l0]
        rw [if_pos (by omega), if_pos (by omega), if_pos (by omega), w64s hi (by omega)]
        have hR : (if (i : Int) > 0 then (if 0 ≤ wrap64 ((i : Int) - 1) then (if wrap64 ((i : Int) - 1) < (P.length : Int) then (if (i : Int) < (P.length : Int) then (if rd P (wrap64 ((i : Int) - 1)) ≥ rd P (i : Int) then some false else impl_IsWire.l0 k W (W.length : Int) ((i + 1 : Nat) : Int) L P W) else none) else none) else none) else impl_IsWire.l0 k W (W.length : Int) ((i + 1 : Nat) : Int) L P W) = impl_IsWire.l0 k W (W.length : Int) ((i + 1 : Nat) : Int) L P W := by
          by_cases h0 : 0 < i
          · have h3 := hc.2 h0
            rw [if_pos (by omega), w64 (x := (i : Int) - 1) (by omega) (by omega), show (i : Int) - 1 = ((i - 1 : Nat) : Int) by omega, if_pos (by omega), if_pos (by omega), if_pos (by omega), if_neg (by omega)]
          · rw [if_neg (by omega)]
        rcases hc.1 with h | h
        · rw [if_pos h, hR]
        · rw [if_neg (by omega), if_pos h, hR]
      · rw [decide_eq_false hc, Bool.false_and]
        refine ev_now (fun k => ?_)
        simp only [impl_IsWire.l0]
        rw [if_pos (by omega), if_pos (by omega), if_pos (by omega)]
        by_cases hs : rd W (i : Int) = 1 ∨ rd W (i : Int) = -1
        · have h0 : 0 < i := Nat.pos_of_ne_zero (fun h => hc ⟨hs, fun h' => by omega⟩)
          have h3 : ¬ rd P ((i - 1 : Nat) : Int) < rd P (i : Int) := fun h => hc ⟨hs, fun _ => h⟩
          have hR : ∀ X : Option Bool, (if (i : Int) > 0 then (if 0 ≤ wrap64 ((i : Int) - 1) then (if wrap64 ((i : Int) - 1) < (P.length : Int) then (if (i : Int) < (P.length : Int) then (if rd P (wrap64 ((i : Int) - 1)) ≥ rd P (i : Int) then some false else X) else none) else none) else none) else X) = some false := by
            intro X
            rw [if_pos (by omega), w64 (x := (i : Int) - 1) (by omega) (by omega), show (i : Int) - 1 = ((i - 1 : Nat) : Int) by omega, if_pos (by omega), if_pos (by omega), if_pos (by omega), if_pos (by omega)]
          rcases hs with h | h
          · rw [if_pos h, hR]
          · rw [if_neg (by omega), if_pos h, hR]
        · rw [if_neg (fun h => hs (.inl h)), if_neg (fun h => hs (.inr h))])
  exact key 0 (by omega)
theorem implIsWire_ev (L : Int) (P W : List Int) (hpl : P.length ≤ 1048576) : Ev (fun k => impl_IsWire.f k L P W) (wireV L P W) := by
  unfold impl_IsWire.f
  simp only [within_eq, Option.bind_some]
  have hno : Ev (fun k => impl_IsWire.j0 k true L P W) false := ev_now (fun k => by simp only [impl_IsWire.j0, if_true])
  by_cases h1 : inR 1 30 L = true
  · have g1 := inR_iff.1 h1
    refine ev_pos h1 ?_
    by_cases h2 : (P.length : Int) > 8
    · rw [wireV_no (by omega)]
      exact ev_pos h2 hno
    · refine ev_neg h2 ?_
      by_cases h3 : W.length = P.length
      · rw [wireV_yes ⟨g1, by omega, h3⟩]
        refine ev_pos (by omega) (Ev.bind (allWithin_ev P 0 L (by omega)) ?_)
        cases ha : inAll 0 L P with
        | true =>
          refine Ev.step (fun k => by simp only [impl_IsWire.j0, Bool.not_true, Bool.false_eq_true, if_false]; rfl) ?_
          have hl := implWire_loop L P W h3 (by omega)
          have e : allF P.length (wD P W) 0 = allF P.length (wC L P W) 0 := by
            rw [Bool.eq_iff_iff, allF_iff, allF_iff]
            have hA := inAll_iff.1 ha
            exact ⟨fun h j hj => ⟨hA _ (mem_of_rd hj), (h j hj).2, (h j hj).1⟩, fun h j hj => ⟨(h j hj).2.2, (h j hj).2.1⟩⟩
          rw [← e]
          exact hl
        | false =>
          have e : allF P.length (wC L P W) 0 = false := by
            rw [Bool.eq_false_iff]
            intro h
            have h' := allF_of h
            have : inAll 0 L P = true := inAll_iff.2 (all_of_rd (fun i hi => (h' i hi).1))
            rw [ha] at this
            exact absurd this (by decide)
          rw [e]
          exact hno
      · rw [wireV_no (by omega)]
        exact ev_neg (by omega) hno
  · rw [wireV_no (fun h => h1 (inR_iff.2 h.1))]
    exact ev_neg h1 hno

def shade (L : Int) (P W : List Int) (j : Nat) : Int := if rd W (j : Int) < 0 then rd P (j : Int) else L - rd P (j : Int)
def shades (L : Int) (P W : List Int) : List Int := tab P.length (shade L P W)
theorem shades_len (L : Int) (P W : List Int) : (shades L P W).length = P.length := tab_len _ _
theorem shade_bd {L : Int} {P W : List Int} (h : wireV L P W = true) {j : Nat} (hj : j < P.length) : 0 ≤ shade L P W j ∧ shade L P W j ≤ L := by
  have hc := (wire_of h).2.2.2 j hj
  unfold shade
  split
  · exact hc.1
  · have := hc.1; omega
theorem shade_row {L : Int} {P W : List Int} {i : Nat} (out : List Int) (h : out.length < 17592186044416) (hL : 0 ≤ L - rd P (i : Int) ∧ L - rd P (i : Int) ≤ 30) (F : List Int → Option (List Int)) :
    (if rd W (i : Int) < 0 then (if out.length < 17592186044416 then F (out ++ [rd P (i : Int)]) else none) else (if out.length < 17592186044416 then F (out ++ [wrap64 (L - rd P (i : Int))]) else none)) = F (out ++ [shade L P W i]) := by
  rw [if_pos h, if_pos h, w64 (by omega) (by omega)]
  unfold shade
  split <;> rfl
theorem implShades_ev (L : Int) (P W : List Int) (h : wireV L P W = true) : Ev (fun k => impl_Wire_shades.f k L P W) (shades L P W) := by
  have hw := wire_of h
  have key := down (P := fun i => Ev (fun k => impl_Wire_shades.l0 k (tab i (shade L P W)) P (P.length : Int) (i : Int) L P W) (shades L P W)) (n := P.length)
    (ev_now (fun k => by simp only [impl_Wire_shades.l0]; rw [if_neg (by omega)]; rfl))
    (fun i hi ih => by
      have hc := (hw.2.2.2 i hi).1
      refine Ev.step (fun k => ?_) ih
      simp only [impl_Wire_shades.l0]
      rw [if_pos (by omega), if_pos (by omega), if_pos (by omega), if_pos (by omega), w64s hi (by omega), shade_row (tab i (shade L P W)) (by rw [tab_len]; omega) (by omega) (fun o => impl_Wire_shades.l0 k o P (P.length : Int) ((i + 1 : Nat) : Int) L P W), tab_snoc i (shade L P W)])
  exact key 0 (by omega)

def srt (l : List Int) : List Int := l.mergeSort (fun a b => decide (a ≤ b))
theorem srt_perm (l : List Int) : (srt l).Perm l := List.mergeSort_perm l _
theorem srt_pw (l : List Int) : (srt l).Pairwise (· ≤ ·) := by
  have h := List.pairwise_mergeSort (le := fun a b : Int => decide (a ≤ b)) (by intro a b c; simp; omega) (by intro a b; simp; omega) l
  exact h.imp (fun h => by simpa using h)
theorem srt_of {a b : List Int} (p : a.Perm b) (h : b.Pairwise (· ≤ ·)) : srt a = b :=
  List.Perm.eq_of_pairwise (fun x y _ _ h1 h2 => Int.le_antisymm h1 h2) (srt_pw a) h ((srt_perm a).trans p)
theorem srt_congr {a b : List Int} (p : a.Perm b) : srt a = srt b := srt_of (p.trans (srt_perm b).symm) (srt_pw b)
theorem srt_len (l : List Int) : (srt l).length = l.length := (srt_perm l).length_eq
theorem srt_id {l : List Int} (h : l.Pairwise (· ≤ ·)) : srt l = l := srt_of (List.Perm.refl _) h
/-- One step of insertion from the right. -/
def insRev (x : Int) : List Int → List Int
  | [] => [x]
  | y :: r => if x < y then y :: insRev x r else x :: y :: r
def insR (x : Int) (a : List Int) : List Int := (insRev x a.reverse).reverse
theorem insRev_perm (x : Int) : ∀ r, (insRev x r).Perm (x :: r)
  | [] => List.Perm.refl _
  | y :: r => by
    unfold insRev
    split
    · exact ((insRev_perm x r).cons y).trans (List.Perm.swap x y r)
    · exact List.Perm.refl _
theorem insR_perm (x : Int) (a : List Int) : (insR x a).Perm (x :: a) :=
  (List.reverse_perm _).trans ((insRev_perm x _).trans ((List.reverse_perm a).cons x))
theorem insRev_pw (x : Int) : ∀ r : List Int, r.Pairwise (fun a b => b ≤ a) → (insRev x r).Pairwise (fun a b => b ≤ a)
  | [], _ => by simp [insRev]
  | y :: r, h => by
    unfold insRev
    rw [List.pairwise_cons] at h
    split
    · rename_i hlt
      rw [List.pairwise_cons]
      refine ⟨fun z hz => ?_, insRev_pw x r h.2⟩
      rcases List.mem_cons.1 ((insRev_perm x r).mem_iff.1 hz) with e | e
      · subst e; omega
      · exact h.1 z e
    · rename_i hlt
      rw [List.pairwise_cons]
      refine ⟨fun z hz => ?_, List.pairwise_cons.2 h⟩
      rcases List.mem_cons.1 hz with e | e
      · subst e; omega
      · have := h.1 z e; omega
theorem insR_pw (x : Int) (a : List Int) (h : a.Pairwise (· ≤ ·)) : (insR x a).Pairwise (· ≤ ·) := by
  unfold insR
  rw [List.pairwise_reverse]
  exact insRev_pw x _ (List.pairwise_reverse.2 h)
theorem insR_snoc_lt {x y : Int} (a : List Int) (h : x < y) : insR x (a ++ [y]) = insR x a ++ [y] := by
  simp [insR, insRev, h]
theorem insR_snoc_ge {x y : Int} (a : List Int) (h : ¬ x < y) : insR x (a ++ [y]) = a ++ [y] ++ [x] := by
  simp [insR, insRev, h]
theorem insR_nil (x : Int) : insR x [] = [x] := rfl
theorem srt_snoc (a : List Int) (x : Int) : srt (a ++ [x]) = insR x (srt a) :=
  srt_of ((List.perm_append_comm.trans ((srt_perm a).symm.cons x)).trans (insR_perm x _).symm) (insR_pw x _ (srt_pw a))
/-- What puts a number behind all that are less, taken from the left. -/
def putL (x : Int) : List Int → List Int
  | [] => [x]
  | y :: r => if y < x then y :: putL x r else if y = x then y :: r else x :: y :: r
theorem putL_perm (x : Int) : ∀ l : List Int, x ∉ l → (putL x l).Perm (x :: l)
  | [], _ => List.Perm.refl _
  | y :: r, h => by
    unfold putL
    simp only [List.mem_cons, not_or] at h
    split
    · exact ((putL_perm x r h.2).cons y).trans (List.Perm.swap x y r)
    · rw [if_neg (fun e => h.1 e.symm)]
theorem putL_pw (x : Int) : ∀ l : List Int, x ∉ l → l.Pairwise (· ≤ ·) → (putL x l).Pairwise (· ≤ ·)
  | [], _, _ => by simp [putL]
  | y :: r, hm, h => by
    unfold putL
    simp only [List.mem_cons, not_or] at hm
    rw [List.pairwise_cons] at h
    split
    · rename_i hlt
      rw [List.pairwise_cons]
      refine ⟨fun z hz => ?_, putL_pw x r hm.2 h.2⟩
      rcases List.mem_cons.1 ((putL_perm x r hm.2).mem_iff.1 hz) with e | e
      · subst e; omega
      · exact h.1 z e
    · rw [if_neg (fun e => hm.1 e.symm)]
      rw [List.pairwise_cons]
      refine ⟨fun z hz => ?_, List.pairwise_cons.2 h⟩
      rcases List.mem_cons.1 hz with e | e
      · subst e; omega
      · have := h.1 z e; omega
theorem srt_put {a : List Int} {x : Int} (h : x ∉ a) : srt (a ++ [x]) = putL x (srt a) :=
  srt_of ((List.perm_append_comm.trans ((srt_perm a).symm.cons x)).trans (putL_perm x _ (fun hm => h ((srt_perm a).mem_iff.1 hm))).symm) (putL_pw x _ (fun hm => h ((srt_perm a).mem_iff.1 hm)) (srt_pw a))

theorem cmpLess_eq (a b : Int) : cmp_Less_int.f a b = some (decide (a < b)) := by
  simp [cmp_Less_int.f, cmp_isNaN_int.f]
theorem rd_mid (A : List Int) (x : Int) (B : List Int) : rd (A ++ x :: B) (A.length : Int) = x := by
  simp [rd, List.getD]
theorem set_mid (A : List Int) (x v : Int) (B : List Int) : (A ++ x :: B).set A.length v = A ++ v :: B := by
  rw [List.set_append_right _ _ (Nat.le_refl _)]; simp
theorem swap_mid (A : List Int) (x y : Int) (B : List Int) : ((A ++ y :: x :: B).set (A.length + 1) y).set A.length x = A ++ x :: y :: B := by
  have h : A ++ y :: x :: B = (A ++ [y]) ++ x :: B := by simp
  rw [h, show A.length + 1 = (A ++ [y]).length by simp, set_mid, List.append_assoc, List.singleton_append, set_mid]
theorem insert_ev (n i : Int) (r : List Int) : ∀ (m : Nat) (A : List Int) (x : Int) (B : List Int), A.length = m → m + B.length + 1 ≤ 1048576 →
    Ev (fun k => slices_insertionSortOrdered_int.l0 k (insR x A ++ B) 0 n (wrap64 (i + 1))) r →
    Ev (fun k => slices_insertionSortOrdered_int.l1 k (A ++ x :: B) 0 n i (m : Int)) r := by
  intro m
  induction m with
  | zero =>
    intro A x B hA hb h
    obtain rfl := List.length_eq_zero_iff.1 hA
    refine Ev.step (fun k => ?_) h
    simp only [slices_insertionSortOrdered_int.l1]
    rw [if_neg (by omega), insR_nil]
    rfl
  | succ m ih =>
    intro A x B hA hb h
    obtain ⟨A', y, rfl⟩ := List.eq_nil_or_concat A |>.resolve_left (by intro e; subst e; simp at hA)
    simp only [List.concat_eq_append] at *
    have hA' : A'.length = m := by simpa using hA
    have e1 : rd (A' ++ [y] ++ x :: B) ((m + 1 : Nat) : Int) = x := by
      have := rd_mid (A' ++ [y]) x B
      rw [hA] at this; exact this
    have e2 : rd (A' ++ [y] ++ x :: B) ((m : Nat) : Int) = y := by
      have := rd_mid A' y (x :: B)
      rw [hA'] at this
      rw [List.append_assoc]; exact this
    have e3 : wrap64 (((m + 1 : Nat) : Int) - 1) = (m : Int) := by rw [w64 (by omega) (by omega)]; omega
    have hlen : (A' ++ [y] ++ x :: B).length = m + 1 + (B.length + 1) := by simp [hA']; omega
    by_cases hlt : x < y
    · have h2 : Ev (fun k => slices_insertionSortOrdered_int.l1 k (A' ++ x :: (y :: B)) 0 n i (m : Int)) r := by
        refine ih A' x (y :: B) hA' (by simp; omega) ?_
        rw [insR_snoc_lt A' hlt] at h
        simpa using h
      refine Ev.step (fun k => ?_) h2
      simp only [slices_insertionSortOrdered_int.l1, cmpLess_eq, Option.bind_some, e1, e2, e3, hlen]
      rw [if_pos (by omega), if_pos (by omega), if_pos (by omega), if_pos (by omega), if_pos (by omega), if_pos (by simpa using hlt)]
      congr 1
      rw [Int.toNat_natCast, Int.toNat_natCast, List.append_assoc, List.singleton_append, ← hA', swap_mid]
    · rw [insR_snoc_ge A' hlt] at h
      refine Ev.step (fun k => ?_) h
      simp only [slices_insertionSortOrdered_int.l1, cmpLess_eq, Option.bind_some, e1, e2, e3, hlen]
      rw [if_pos (by omega), if_pos (by omega), if_pos (by omega), if_pos (by omega), if_pos (by omega), if_neg (by simpa using hlt)]
      simp
theorem insertion_ev (l : List Int) (hl : l.length ≤ 1000000) : Ev (fun k => slices_insertionSortOrdered_int.f k l 0 (l.length : Int)) (srt l) := by
  have key := down (P := fun i => Ev (fun k => slices_insertionSortOrdered_int.l0 k (srt (l.take i) ++ l.drop i) 0 (l.length : Int) (i : Int)) (srt l)) (n := l.length)
    (ev_now (fun k => by simp only [slices_insertionSortOrdered_int.l0]; rw [if_neg (by omega), List.take_length, List.drop_length, List.append_nil]))
    (fun i hi ih => by
      have hd := drop_cons hi
      have ht : l.take (i + 1) = l.take i ++ [rd l (i : Int)] := by
        rw [List.take_succ_eq_append_getElem hi]
        congr 1
        simp [rd, List.getD, hi]
      rw [ht, srt_snoc] at ih
      have h2 := insert_ev (l.length : Int) (i : Int) (srt l) i (srt (l.take i)) (rd l (i : Int)) (l.drop (i + 1)) (by rw [srt_len, List.length_take]; omega) (by rw [List.length_drop]; omega) (by rw [w64s hi (by omega)]; exact ih)
      rw [hd]
      refine Ev.step (fun k => ?_) h2
      simp only [slices_insertionSortOrdered_int.l0]
      rw [if_pos (by omega)])
  unfold slices_insertionSortOrdered_int.f
  rw [show wrap64 ((0 : Int) + 1) = ((1 : Nat) : Int) by rw [w64 (by omega) (by omega)]; rfl]
  rcases Nat.lt_or_ge l.length 1 with h0 | h0
  · obtain rfl := List.length_eq_zero_iff.1 (Nat.lt_one_iff.1 h0)
    refine ev_now (fun k => ?_)
    simp only [slices_insertionSortOrdered_int.l0]
    rw [if_neg (by simp), srt_id (by simp)]
  · have k1 := key 1 h0
    have e : srt (l.take 1) ++ l.drop 1 = l := by
      rw [srt_id, List.take_append_drop]
      obtain ⟨x, t, rfl⟩ := List.exists_cons_of_length_pos h0
      simp
    rw [e] at k1
    exact k1
theorem bitsLen_small (k : Nat) {n : Nat} (h : n ≤ 12) : ∃ v, bits_Len.f k (n : Int) = some v := by
  unfold bits_Len.f
  have : ∀ m : Nat, m ≤ 12 → (lenOf (m : Int) [(0, 0), (1, 1), (2, 2), (3, 2), (4, 3), (5, 3), (6, 3), (7, 3), (8, 4), (9, 4), (10, 4), (11, 4), (12, 4)]).isSome = true := by decide
  exact Option.isSome_iff_exists.1 (this n h)
theorem sort_ev (l : List Int) (hl : l.length ≤ 12) : Ev (fun k => slices_Sort_int_int.f k l) (srt l) := by
  unfold slices_Sort_int_int.f
  rw [u64w (by omega) (by omega)]
  obtain ⟨v, hv⟩ := bitsLen_small 0 hl
  have hv' : ∀ k, bits_Len.f k (l.length : Int) = some v := fun k => by rw [show bits_Len.f k (l.length : Int) = bits_Len.f 0 (l.length : Int) from rfl]; exact hv
  refine Ev.congr (f := fun k => (slices_pdqsortOrdered_int.f k l 0 (l.length : Int) v).bind fun t => some t) (fun k => by rw [hv' k, Option.bind_some]) ?_
  refine Ev.bind (f := fun _ t => some t) ?_ (Ev.now _)
  refine Ev.step (fun k => by simp only [slices_pdqsortOrdered_int.f]; rfl) ?_
  refine Ev.step (f := fun k => (slices_insertionSortOrdered_int.f k l 0 (l.length : Int)).bind fun t => some t) (fun k => ?_) (Ev.bind (f := fun _ t => some t) (insertion_ev l (by omega)) (Ev.now _))
  simp only [slices_pdqsortOrdered_int.l0]
  rw [if_pos (by rw [w64 (by omega) (by omega)]; omega)]

theorem reverse_tab (l : List Int) : l.reverse = tab l.length (fun q => rd l ((l.length - 1 - q : Nat) : Int)) := by
  refine tab_ext (by simp) (fun q hq => ?_)
  rw [rd_nat, rd_nat, List.getD_eq_getElem?_getD, List.getD_eq_getElem?_getD, List.getElem?_reverse hq]
def rvF (l : List Int) (i q : Nat) : Int := if q < i ∨ l.length ≤ q + i then rd l ((l.length - 1 - q : Nat) : Int) else rd l (q : Int)
theorem reverse_ev (l : List Int) (hl : l.length ≤ 1152921504606846975) : Ev (fun k => slices_Reverse_int_int.f k l) l.reverse := by
  have key := down (P := fun i => Ev (fun k => slices_Reverse_int_int.l0 k (tab l.length (rvF l i)) (i : Int) ((l.length : Int) - 1 - (i : Int))) l.reverse) (n := l.length / 2)
    (ev_now (fun k => by
      simp only [slices_Reverse_int_int.l0]
      rw [if_neg (by omega), reverse_tab]
      refine congrArg some (tab_congr (fun q hq => ?_))
      unfold rvF
      by_cases h : q < l.length / 2 ∨ l.length ≤ q + l.length / 2
      · rw [if_pos h]
      · rw [if_neg h]
        have : l.length - 1 - q = q := by omega
        rw [this]))
    (fun i hi ih => by
      have e : (l.length : Int) - 1 - (i : Int) = ((l.length - 1 - i : Nat) : Int) := by omega
      refine Ev.step (fun k => ?_) ih
      simp only [slices_Reverse_int_int.l0]
      rw [e, if_pos (by omega), if_pos (by omega), tab_len, if_pos (by omega), if_pos (by omega), if_pos (by omega), w64s (n := l.length) (by omega) (by omega), w64 (by omega) (by omega), Int.toNat_natCast, Int.toNat_natCast, tab_rd (by omega), tab_rd (by omega), tab_set, tab_set]
      have e2 : ((l.length - 1 - i : Nat) : Int) - 1 = (l.length : Int) - 1 - ((i + 1 : Nat) : Int) := by omega
      rw [e2]
      refine congrArg (fun z => slices_Reverse_int_int.l0 k z _ _) (tab_congr (fun q hq => ?_))
      unfold rvF
      by_cases h1 : q = l.length - 1 - i
      · subst h1
        rw [if_pos rfl, if_neg (by omega), if_pos (by omega)]
        congr 2
        omega
      · rw [if_neg h1]
        by_cases h2 : q = i
        · subst h2
          rw [if_pos rfl, if_neg (by omega), if_pos (by omega)]
        · rw [if_neg h2]
          by_cases h3 : q < i ∨ l.length ≤ q + i
          · rw [if_pos h3, if_pos (by omega)]
          · rw [if_neg h3, if_neg (by omega)])
  refine Ev.congr (fun k => ?_) (key 0 (by omega))
  unfold slices_Reverse_int_int.f
  have e : tab l.length (rvF l 0) = l := by
    refine Eq.trans ?_ (tab_of l).symm
    refine tab_congr (fun q hq => ?_)
    unfold rvF
    rw [if_neg (by omega)]
  rw [e, w64 (by omega) (by omega)]
  simp

def goesL (W : List Int) (j : Nat) : Bool := decide (rd W (j : Int) < 0)
def fL (L : Int) (P W : List Int) (i : Nat) : List Int := ((List.range i).filter (goesL W)).map (shade L P W)
def fR (L : Int) (P W : List Int) (i : Nat) : List Int := ((List.range i).filter (fun j => !goesL W j)).map (shade L P W)
theorem fL_step (L : Int) (P W : List Int) (i : Nat) : fL L P W (i + 1) = if rd W (i : Int) < 0 then fL L P W i ++ [shade L P W i] else fL L P W i := by
  unfold fL
  rw [List.range_succ, List.filter_append, List.map_append]
  by_cases h : rd W (i : Int) < 0
  · rw [if_pos h]; simp [goesL, h]
  · rw [if_neg h]; simp [goesL, h]
theorem fR_step (L : Int) (P W : List Int) (i : Nat) : fR L P W (i + 1) = if rd W (i : Int) < 0 then fR L P W i else fR L P W i ++ [shade L P W i] := by
  unfold fR
  rw [List.range_succ, List.filter_append, List.map_append]
  by_cases h : rd W (i : Int) < 0
  · rw [if_pos h]; simp [goesL, h]
  · rw [if_neg h]; simp [goesL, h]
theorem fLR_len (L : Int) (P W : List Int) (i : Nat) : (fL L P W i).length + (fR L P W i).length = i := by
  induction i with
  | zero => rfl
  | succ i ih =>
    rw [fL_step, fR_step]
    split <;> simp <;> omega
theorem wire_lt {L : Int} {P W : List Int} (h : wireV L P W = true) : ∀ i j : Nat, i < j → j < P.length → rd P (i : Int) < rd P (j : Int) := by
  have hw := (wire_of h).2.2.2
  intro i j hij hj
  induction j with
  | zero => omega
  | succ j ih =>
    have h1 := (hw (j + 1) hj).2.1 (by omega)
    rw [show j + 1 - 1 = j by omega] at h1
    rcases Nat.lt_or_ge i j with h2 | h2
    · have := ih h2 (by omega); omega
    · obtain rfl : i = j := by omega
      exact h1
theorem fL_pw {L : Int} {P W : List Int} (h : wireV L P W = true) : (fL L P W P.length).Pairwise (· ≤ ·) := by
  unfold fL
  rw [List.pairwise_map]
  refine List.Pairwise.imp_of_mem ?_ (List.Pairwise.filter (goesL W) (List.pairwise_lt_range (n := P.length)))
  intro a b ha hb hab
  have h1 : rd W (a : Int) < 0 := by simpa [goesL] using (List.mem_filter.1 ha).2
  have h2 : rd W (b : Int) < 0 := by simpa [goesL] using (List.mem_filter.1 hb).2
  have h3 := List.mem_range.1 (List.mem_filter.1 hb).1
  have := wire_lt h a b hab h3
  unfold shade
  rw [if_pos h1, if_pos h2]
  omega
theorem fR_pw {L : Int} {P W : List Int} (h : wireV L P W = true) : (fR L P W P.length).Pairwise (fun a b => b ≤ a) := by
  unfold fR
  rw [List.pairwise_map]
  refine List.Pairwise.imp_of_mem ?_ (List.Pairwise.filter (fun j => !goesL W j) (List.pairwise_lt_range (n := P.length)))
  intro a b ha hb hab
  have h1 : ¬ rd W (a : Int) < 0 := by simpa [goesL] using (List.mem_filter.1 ha).2
  have h2 : ¬ rd W (b : Int) < 0 := by simpa [goesL] using (List.mem_filter.1 hb).2
  have h3 := List.mem_range.1 (List.mem_filter.1 hb).1
  have := wire_lt h a b hab h3
  unfold shade
  rw [if_neg h1, if_neg h2]
  omega
def fallT (L : Int) (P W : List Int) : List Int := fL L P W P.length ++ fR L P W P.length
def fallS (L : Int) (P W : List Int) : List Int := List.replicate (fL L P W P.length).length (-1) ++ List.replicate (fR L P W P.length).length 1
theorem fallT_len (L : Int) (P W : List Int) : (fallT L P W).length = P.length := by
  unfold fallT; rw [List.length_append, fLR_len]
theorem fallS_len (L : Int) (P W : List Int) : (fallS L P W).length = P.length := by
  unfold fallS; rw [List.length_append, List.length_replicate, List.length_replicate, fLR_len]
theorem rd_shades {L : Int} {P W : List Int} {i : Nat} (h : i < P.length) : rd (shades L P W) (i : Int) = shade L P W i := tab_rd h
theorem repeat_eq (k : Nat) (v : Int) (n : Nat) (h : n ≤ 24) : slices_Repeat_int_int.f k [v] (n : Int) = some (List.replicate n v) := by
  unfold slices_Repeat_int_int.f Repeat.f
  simp only []
  rw [if_pos (by omega), Int.toNat_natCast]
theorem implFalls_ev (L : Int) (P W : List Int) (h : wireV L P W = true) : Ev (fun k => impl_Wire_falls.f k L P W) (fallT L P W, fallS L P W) := by
  have hw := wire_of h
  unfold impl_Wire_falls.f
  refine Ev.bind (implShades_ev L P W h) ?_
  have hsl := shades_len L P W
  have key := down (P := fun i => Ev (fun k => impl_Wire_falls.l0 k (fL L P W i) (fR L P W i) (shades L P W) ((shades L P W).length : Int) (i : Int) L P W) (fallT L P W, fallS L P W)) (n := P.length)
    (by
      have h1 := fLR_len L P W P.length
      have e1 : srt (fL L P W P.length) = fL L P W P.length := srt_id (fL_pw h)
      have e2 : srt (fR L P W P.length) = (fR L P W P.length).reverse := srt_of (List.reverse_perm _).symm (List.pairwise_reverse.2 (fR_pw h))
      refine Ev.step (f := fun k => (slices_Sort_int_int.f k (fL L P W P.length)).bind fun t309 => ((slices_Sort_int_int.f k (fR L P W P.length)).bind fun t310 => ((slices_Reverse_int_int.f k t310).bind fun t311 => ((slices_Repeat_int_int.f k (([(-1)] : List Int)) ((fL L P W P.length).length : Int)).bind fun t315 => ((slices_Repeat_int_int.f k (([1] : List Int)) ((fR L P W P.length).length : Int)).bind fun t321 => (if t315.length + t321.length < 17592186044416 then (if t309.length + t311.length < 17592186044416 then (some ((t309 ++ t311), (t315 ++ t321))) else (none)) else (none))))))) (fun k => by simp only [impl_Wire_falls.l0]; rw [if_neg (by omega)]) ?_
      refine Ev.bind (sort_ev _ (by omega)) ?_
      refine Ev.bind (sort_ev _ (by omega)) ?_
      rw [e1, e2]
      refine Ev.bind (reverse_ev _ (by rw [List.length_reverse]; omega)) ?_
      rw [List.reverse_reverse]
      refine Ev.bind (Ev.congr (fun k => repeat_eq k _ _ (by omega)) (Ev.now _)) ?_
      refine Ev.bind (Ev.congr (fun k => repeat_eq k _ _ (by omega)) (Ev.now _)) ?_
      refine ev_pos (by simp; omega) (ev_pos (by omega) (Ev.now _)))
    (fun i hi ih => by
      obtain ⟨⟨hc1, hc2⟩, _, hc3⟩ := hw.2.2.2 i hi
      have h1 := fLR_len L P W i
      refine Ev.step (fun k => ?_) ih
      simp only [impl_Wire_falls.l0]
      rw [if_pos (by omega), if_pos (by omega), if_pos (by omega), if_pos (by omega), w64s hi (by omega), rd_shades hi, fL_step, fR_step]
      by_cases hlt : rd W (i : Int) < 0
      · rw [if_pos hlt, if_pos hlt, if_pos hlt, if_pos (by omega)]
      · rw [if_neg hlt, if_neg hlt, if_neg hlt, if_pos (by omega)])
  exact key 0 (by omega)
theorem rep_snoc (n : Nat) (v : Int) : List.replicate n v ++ [v] = List.replicate (n + 1) v := by
  rw [List.replicate_succ']
theorem specFalls_loops (L : Int) (P W : List Int) (h : wireV L P W = true) : Ev (fun k => spec_FallsOf.l0 k [] [] 0 L P W) (fallT L P W, fallS L P W, true) := by
  have hw := wire_of h
  have key1 := down (P := fun i => Ev (fun k => spec_FallsOf.l1 k (fL L P W P.length ++ fR L P W i) (List.replicate (fL L P W P.length).length (-1) ++ List.replicate (fR L P W i).length 1) (i : Int) L P W) (fallT L P W, fallS L P W, true)) (n := P.length)
    (ev_now (fun k => by simp only [spec_FallsOf.l1]; rw [if_neg (by omega)]; rfl))
    (fun i hi ih => by
      obtain ⟨⟨hc1, hc2⟩, _, hc3⟩ := hw.2.2.2 i hi
      have h1 := fLR_len L P W i
      have h2 := fLR_len L P W P.length
      refine Ev.step (fun k => ?_) ih
      simp only [spec_FallsOf.l1]
      rw [if_pos (by omega), if_pos (by omega), if_pos (by omega), w64s hi (by omega), fR_step]
      by_cases hlt : rd W (i : Int) < 0
      · rw [if_neg (by omega), if_pos hlt]
      · have hs : shade L P W i = L - rd P (i : Int) := by unfold shade; rw [if_neg hlt]
        rw [if_pos (by omega), if_neg hlt, if_pos (by rw [List.length_append]; omega), if_pos (by simp; omega), w64 (by omega) (by omega), hs, List.append_assoc, List.append_assoc, List.length_append, List.length_singleton, rep_snoc])
  have key := down (P := fun i => Ev (fun k => spec_FallsOf.l0 k (fL L P W i) (List.replicate (fL L P W i).length (-1)) (i : Int) L P W) (fallT L P W, fallS L P W, true)) (n := P.length)
    (by
      have k0 := key1 0 (by omega)
      have e : fR L P W 0 = [] := rfl
      rw [e, List.append_nil, List.length_nil, List.replicate_zero, List.append_nil] at k0
      refine Ev.step (fun k => ?_) k0
      simp only [spec_FallsOf.l0]
      rw [if_neg (by omega)]
      rfl)
    (fun i hi ih => by
      obtain ⟨⟨hc1, hc2⟩, _, hc3⟩ := hw.2.2.2 i hi
      have h1 := fLR_len L P W i
      refine Ev.step (fun k => ?_) ih
      simp only [spec_FallsOf.l0]
      rw [if_pos (by omega), if_pos (by omega), if_pos (by omega), w64s hi (by omega), fL_step]
      by_cases hlt : rd W (i : Int) < 0
      · have hs : shade L P W i = rd P (i : Int) := by unfold shade; rw [if_pos hlt]
        rw [if_pos hlt, if_pos hlt, if_pos (by omega), if_pos (by simp; omega), hs, List.length_append, List.length_singleton, rep_snoc]
      · rw [if_neg hlt, if_neg hlt])
  exact key 0 (by omega)
def fallsR (L : Int) (P W : List Int) : List Int × List Int × Bool := if wireV L P W = true then (fallT L P W, fallS L P W, true) else ([], [], false)
theorem fallsR_len (L : Int) (P W : List Int) : (fallsR L P W).1.length ≤ 8 ∧ (fallsR L P W).2.1.length ≤ 8 := by
  unfold fallsR
  split
  · rename_i h
    have := wire_of h
    simp only [fallT_len, fallS_len]
    omega
  · simp
theorem specFallsOf_ev (L : Int) (P W : List Int) : Ev (fun k => spec_FallsOf.f k L P W) (fallsR L P W) := by
  unfold spec_FallsOf.f fallsR
  simp only [Option.bind_some]
  refine Ev.bind (l8Wire_ev L P W) ?_
  cases hv : wireV L P W with
  | true => exact ev_pos rfl (specFalls_loops L P W hv)
  | false => exact ev_neg (by simp) (Ev.now _)

/-- One step of insertion from the left, behind all that are not greater. -/
def putB (x : Int) : List Int → List Int
  | [] => [x]
  | y :: r => if y ≤ x then y :: putB x r else x :: y :: r
theorem putB_perm (x : Int) : ∀ l : List Int, (putB x l).Perm (x :: l)
  | [] => List.Perm.refl _
  | y :: r => by
    unfold putB
    split
    · exact ((putB_perm x r).cons y).trans (List.Perm.swap x y r)
    · exact List.Perm.refl _
theorem putB_pw (x : Int) : ∀ l : List Int, l.Pairwise (· ≤ ·) → (putB x l).Pairwise (· ≤ ·)
  | [], _ => by simp [putB]
  | y :: r, h => by
    unfold putB
    rw [List.pairwise_cons] at h
    split
    · rename_i hlt
      rw [List.pairwise_cons]
      refine ⟨fun z hz => ?_, putB_pw x r h.2⟩
      rcases List.mem_cons.1 ((putB_perm x r).mem_iff.1 hz) with e | e
      · subst e; omega
      · exact h.1 z e
    · rename_i hlt
      rw [List.pairwise_cons]
      refine ⟨fun z hz => ?_, List.pairwise_cons.2 h⟩
      rcases List.mem_cons.1 hz with e | e
      · subst e; omega
      · have := h.1 z e; omega
theorem srt_putB (a : List Int) (x : Int) : srt (a ++ [x]) = putB x (srt a) :=
  srt_of ((List.perm_append_comm.trans ((srt_perm a).symm.cons x)).trans (putB_perm x _).symm) (putB_pw x _ (srt_pw a))
/-- The numbers of the beads that fall at t or later. -/
def bdT (F : List Int) (t : Int) (i : Nat) : List Int := ((List.range i).filter (fun (j : Nat) => decide (t ≤ rd F (j : Int)))).map (fun (j : Nat) => (j : Int))
theorem bdT_step (F : List Int) (t : Int) (i : Nat) : bdT F t (i + 1) = if t ≤ rd F (i : Int) then bdT F t i ++ [(i : Int)] else bdT F t i := by
  unfold bdT
  rw [List.range_succ, List.filter_append, List.map_append]
  by_cases h : t ≤ rd F (i : Int)
  · rw [if_pos h]; simp [h]
  · rw [if_neg h]; simp [h]
theorem bdT_len (F : List Int) (t : Int) (i : Nat) : (bdT F t i).length ≤ i := by
  unfold bdT
  rw [List.length_map]
  exact Nat.le_trans (List.length_filter_le _ _) (by simp)
def plT (L : Int) (P W : List Int) (t : Int) (i : Nat) : List Int := ((List.range i).filter (fun (j : Nat) => decide (t ≤ shade L P W j))).map (fun (j : Nat) => rd P (j : Int) + rd W (j : Int) * t)
theorem plT_step (L : Int) (P W : List Int) (t : Int) (i : Nat) : plT L P W t (i + 1) = if t ≤ shade L P W i then plT L P W t i ++ [rd P (i : Int) + rd W (i : Int) * t] else plT L P W t i := by
  unfold plT
  rw [List.range_succ, List.filter_append, List.map_append]
  by_cases h : t ≤ shade L P W i
  · rw [if_pos h]; simp [h]
  · rw [if_neg h]; simp [h]
theorem plT_len (L : Int) (P W : List Int) (t : Int) (i : Nat) : (plT L P W t i).length ≤ i := by
  unfold plT
  rw [List.length_map]
  exact Nat.le_trans (List.length_filter_le _ _) (by simp)
theorem place_eq {L : Int} {P W : List Int} {t : Int} {i : Nat} (h : wireV L P W = true) (hi : i < P.length) (h0 : 0 ≤ t) (ht : t ≤ shade L P W i) : wrap64 (rd P (i : Int) + wrap64 (rd W (i : Int) * t)) = rd P (i : Int) + rd W (i : Int) * t := by
  have hb := shade_bd h hi
  obtain ⟨⟨hc1, hc2⟩, _, hc3⟩ := (wire_of h).2.2.2 i hi
  have hL := (wire_of h).1
  rcases hc3 with e | e <;> rw [e] <;> rw [w64 (x := _ * t) (by omega) (by omega), w64 (by omega) (by omega)]
def beadsR (L : Int) (P W : List Int) (t : Int) : List Int × List Int × Bool := if wireV L P W = true ∧ 0 ≤ t then (bdT (fallT L P W) t P.length, srt (plT L P W t P.length), true) else ([], [], false)
theorem beadsR_len (L : Int) (P W : List Int) (t : Int) : (beadsR L P W t).1.length ≤ 8 ∧ (beadsR L P W t).2.1.length ≤ 8 := by
  unfold beadsR
  split
  · rename_i h
    have := wire_of h.1
    have h1 := bdT_len (fallT L P W) t P.length
    have h2 := plT_len L P W t P.length
    simp only [srt_len]
    omega
  · simp

theorem l8Shades_ev (L : Int) (P W : List Int) (h : wireV L P W = true) : Ev (fun k => spec_l8Shades.f k L P W) (shades L P W) := by
  have hw := wire_of h
  have key := down (P := fun i => Ev (fun k => spec_l8Shades.l0 k (tab i (shade L P W)) (i : Int) L P W) (shades L P W)) (n := P.length)
    (ev_now (fun k => by simp only [spec_l8Shades.l0]; rw [if_neg (by omega)]; rfl))
    (fun i hi ih => by
      have hc := (hw.2.2.2 i hi).1
      refine Ev.step (fun k => ?_) ih
      simp only [spec_l8Shades.l0]
      rw [if_pos (by omega), if_pos (by omega), if_pos (by omega), w64s hi (by omega), shade_row (tab i (shade L P W)) (by rw [tab_len]; omega) (by omega) (fun o => spec_l8Shades.l0 k o ((i + 1 : Nat) : Int) L P W), tab_snoc i (shade L P W)])
  exact key 0 (by omega)

theorem implBeadsAt_ev (L : Int) (P W : List Int) (t : Int) (hp : P.length ≤ 1048576) : Ev (fun k => impl_BeadsAt.f k L P W t) (beadsR L P W t) := by
  unfold impl_BeadsAt.f beadsR
  refine Ev.bind (implIsWire_ev L P W hp) ?_
  cases hv : wireV L P W with
  | false =>
    refine ev_neg (by simp) ?_
    refine Ev.step (fun k => by simp only [impl_BeadsAt.j0]; rfl) ?_
    exact ev_pos (by simp) (ev_const (by simp))
  | true =>
    refine ev_pos rfl ?_
    by_cases ht : 0 ≤ t
    · rw [decide_eq_false (by omega), if_pos ⟨rfl, ht⟩]
      have hw := wire_of hv
      refine Ev.step (fun k => by simp only [impl_BeadsAt.j0]; rfl) ?_
      refine ev_neg (by simp) ?_
      refine Ev.bind (implFalls_ev L P W hv) ?_
      dsimp only
      have hfl := fallT_len L P W
      have key2 := down (P := fun i => Ev (fun k => impl_BeadsAt.l1 k t (bdT (fallT L P W) t P.length) (plT L P W t i) (shades L P W) ((shades L P W).length : Int) (i : Int) L P W) (bdT (fallT L P W) t P.length, srt (plT L P W t P.length), true)) (n := P.length)
        (by
          have hl := plT_len L P W t P.length
          refine Ev.step (f := fun k => (slices_Sort_int_int.f k (plT L P W t P.length)).bind fun t357 => (some (bdT (fallT L P W) t P.length, t357, true))) (fun k => by simp only [impl_BeadsAt.l1]; rw [if_neg (by rw [shades_len]; omega)]) ?_
          exact Ev.bind (f := fun _ t357 => some (bdT (fallT L P W) t P.length, t357, true)) (sort_ev _ (by omega)) (Ev.now _))
        (fun i hi ih => by
          have hl := plT_len L P W t i
          have hsl := shades_len L P W
          refine Ev.step (fun k => ?_) ih
          simp only [impl_BeadsAt.l1]
          rw [if_pos (by omega), if_pos (by omega), if_pos (by omega), rd_shades hi, w64s hi (by omega), plT_step]
          by_cases hs : t ≤ shade L P W i
          · rw [if_pos (by omega), if_pos (by omega), if_pos (by omega), if_pos (by omega), if_pos hs, place_eq hv hi ht hs]
          · rw [if_neg (by omega), if_neg hs])
      have key1 := down (P := fun i => Ev (fun k => impl_BeadsAt.l0 k t (bdT (fallT L P W) t i) [] (fallT L P W) ((fallT L P W).length : Int) (i : Int) L P W) (bdT (fallT L P W) t P.length, srt (plT L P W t P.length), true)) (n := P.length)
        (by
          refine Ev.step (f := fun k => (impl_Wire_shades.f k L P W).bind fun t348 => (impl_BeadsAt.l1 k t (bdT (fallT L P W) t P.length) [] t348 (t348.length : Int) 0 L P W)) (fun k => by simp only [impl_BeadsAt.l0]; rw [if_neg (by omega)]) ?_
          exact Ev.bind (implShades_ev L P W hv) (key2 0 (by omega)))
        (fun i hi ih => by
          have hl := bdT_len (fallT L P W) t i
          refine Ev.step (fun k => ?_) ih
          simp only [impl_BeadsAt.l0]
          rw [if_pos (by omega), if_pos (by omega), if_pos (by omega), w64s hi (by omega), bdT_step]
          by_cases hs : t ≤ rd (fallT L P W) (i : Int)
          · rw [if_pos (by omega), if_pos (by omega), if_pos hs]
          · rw [if_neg (by omega), if_neg hs])
      exact key1 0 (by omega)
    · rw [decide_eq_true (by omega), if_neg (fun h => ht h.2)]
      refine Ev.step (fun k => by simp only [impl_BeadsAt.j0]; rfl) ?_
      exact ev_pos (by simp) (Ev.now _)
theorem ins_ev2 (L : Int) (P W X B : List Int) (t p : Int) (i : Nat) (S : List Int) (hS : S.length ≤ 1048576) (r : List Int × List Int × Bool) (h : Ev (fun k => spec_BeadsAt.l1 k t B (putB p S) X (wrap64 ((i : Int) + 1)) L P W) r) :
    Ev (fun k => spec_BeadsAt.l2 k t B S X (i : Int) p 0 L P W) r := by
  have key := down (P := fun j => Ev (fun k => spec_BeadsAt.l1 k t B (S.take j ++ putB p (S.drop j)) X (wrap64 ((i : Int) + 1)) L P W) r → Ev (fun k => spec_BeadsAt.l2 k t B S X (i : Int) p (j : Int) L P W) r) (n := S.length)
    (fun hr => by
      refine Ev.step (fun k => ?_) hr
      simp only [spec_BeadsAt.l2, spec_l1Own.f, Option.bind_some]
      rw [if_neg (by omega), if_pos (by omega), if_pos (by omega), Int.toNat_natCast]
      simp only [List.take_length, List.drop_length, putB, List.append_nil, List.nil_append]
      rw [if_pos (by simp; omega), Option.bind_some, if_pos (by simp; omega), if_pos (by simp; omega)])
    (fun j hj ih hr => by
      have hd := drop_cons hj
      rw [hd] at hr
      unfold putB at hr
      by_cases hle : rd S (j : Int) ≤ p
      · rw [if_pos hle] at hr
        have e : S.take j ++ rd S (j : Int) :: putB p (S.drop (j + 1)) = S.take (j + 1) ++ putB p (S.drop (j + 1)) := by
          rw [List.take_succ_eq_append_getElem hj, List.append_assoc]
          congr 1
          simp [rd, List.getD, hj]
        rw [e] at hr
        refine Ev.step (fun k => ?_) (ih hr)
        simp only [spec_BeadsAt.l2]
        rw [if_pos (by omega), if_pos (by omega), if_pos hle, w64s hj (by omega)]
      · rw [if_neg hle, ← hd] at hr
        refine Ev.step (fun k => ?_) hr
        simp only [spec_BeadsAt.l2, spec_l1Own.f, Option.bind_some]
        rw [if_pos (by omega), if_pos (by omega), if_neg hle, if_pos (by omega), Int.toNat_natCast]
        simp only [List.nil_append]
        rw [if_pos (by simp; omega), Option.bind_some, if_pos (by simp; omega), if_pos (by simp; omega)]
        simp)
  exact key 0 (by omega) (by simpa using h)
theorem specBeadsAt_ev (L : Int) (P W : List Int) (t : Int) : Ev (fun k => spec_BeadsAt.f k L P W t) (beadsR L P W t) := by
  unfold spec_BeadsAt.f beadsR
  simp only [Option.bind_some]
  refine Ev.bind (l8Wire_ev L P W) ?_
  cases hv : wireV L P W with
  | false =>
    refine ev_neg (by simp) ?_
    refine Ev.step (fun k => by simp only [spec_BeadsAt.j0]; rfl) ?_
    exact ev_pos (by simp) (ev_const (by simp))
  | true =>
    refine ev_pos rfl ?_
    by_cases ht : 0 ≤ t
    · rw [decide_eq_false (by omega), if_pos ⟨rfl, ht⟩]
      have hw := wire_of hv
      refine Ev.step (fun k => by simp only [spec_BeadsAt.j0]; rfl) ?_
      refine ev_neg (by simp) ?_
      have hF := specFallsOf_ev L P W
      unfold fallsR at hF
      rw [if_pos hv] at hF
      refine Ev.bind hF ?_
      dsimp only
      have hfl := fallT_len L P W
      have key2 := down (P := fun i => Ev (fun k => spec_BeadsAt.l1 k t (bdT (fallT L P W) t P.length) (srt (plT L P W t i)) (shades L P W) (i : Int) L P W) (bdT (fallT L P W) t P.length, srt (plT L P W t P.length), true)) (n := P.length)
        (ev_now (fun k => by simp only [spec_BeadsAt.l1]; rw [if_neg (by rw [shades_len]; omega)]))
        (fun i hi ih => by
          have hl := plT_len L P W t i
          have hsl := shades_len L P W
          rw [plT_step] at ih
          by_cases hs : t ≤ shade L P W i
          · rw [if_pos hs, srt_putB] at ih
            refine Ev.step (fun k => ?_) (ins_ev2 L P W (shades L P W) (bdT (fallT L P W) t P.length) t (rd P (i : Int) + rd W (i : Int) * t) i (srt (plT L P W t i)) (by rw [srt_len]; omega) _ (by rw [w64s hi (by omega)]; exact ih))
            simp only [spec_BeadsAt.l1]
            rw [if_pos (by omega), if_pos (by omega), rd_shades hi, if_neg (by omega), if_pos (by omega), if_pos (by omega), place_eq hv hi ht hs]
          · rw [if_neg hs] at ih
            refine Ev.step (fun k => ?_) ih
            simp only [spec_BeadsAt.l1]
            rw [if_pos (by omega), if_pos (by omega), rd_shades hi, if_pos (by omega), w64s hi (by omega)])
      have key1 := down (P := fun i => Ev (fun k => spec_BeadsAt.l0 k t (bdT (fallT L P W) t i) [] (fallT L P W) (i : Int) L P W) (bdT (fallT L P W) t P.length, srt (plT L P W t P.length), true)) (n := P.length)
        (by
          refine Ev.step (f := fun k => (spec_l8Shades.f k L P W).bind fun t348 => (spec_BeadsAt.l1 k t (bdT (fallT L P W) t P.length) [] t348 0 L P W)) (fun k => by simp only [spec_BeadsAt.l0]; rw [if_neg (by omega)]) ?_
          exact Ev.bind (l8Shades_ev L P W hv) (by simpa [plT, srt] using key2 0 (by omega)))
        (fun i hi ih => by
          have hl := bdT_len (fallT L P W) t i
          refine Ev.step (fun k => ?_) ih
          simp only [spec_BeadsAt.l0, Option.bind_some]
          rw [if_pos (by omega), if_pos (by omega), w64s hi (by omega), bdT_step]
          by_cases hs : t ≤ rd (fallT L P W) (i : Int)
          · rw [if_pos (by omega), if_pos (by simp; omega), if_pos hs]
          · rw [if_neg (by omega), if_neg hs])
      exact key1 0 (by omega)
    · rw [decide_eq_true (by omega), if_neg (fun h => ht h.2)]
      refine Ev.step (fun k => by simp only [spec_BeadsAt.j0]; rfl) ?_
      exact ev_pos (by simp) (Ev.now _)

theorem FnExactBeadsAt : FnExactBeadsAtLeft := by
  intro L P V t0 _ hm1 _ hm2 _ _
  refine Ev.rounds (g := fun k => laws_FnExactBeadsAt.f k L P V t0) ?_
  unfold laws_FnExactBeadsAt.f
  obtain ⟨t, ht, h⟩ := szWire_eq L P V hm1 hm2
  refine ev_bind0 ht ?_
  by_cases h0 : t < 0
  · exact ev_pos h0 (Ev.now _)
  refine ev_neg h0 ?_
  obtain ⟨hp, hv⟩ : P.length ≤ 1048576 ∧ V.length ≤ 1048576 := h.resolve_left h0
  obtain ⟨hr1, hr2⟩ := beadsR_len L P V t0
  repeat (first
    | exact Ev.now _
    | (with_reducible refine Ev.bind (toWire_ev _ _ _ hp hv) ?_; try dsimp only)
    | (with_reducible refine Ev.bind (specBeadsAt_ev _ _ _ _) ?_; try dsimp only)
    | (with_reducible refine Ev.bind (implBeadsAt_ev _ _ _ _ hp) ?_; try dsimp only)
    | (with_reducible refine Ev.bind (eqWire_self _ _ _ hp hv) ?_; try dsimp only)
    | (with_reducible refine Ev.bind (eqIntS_self _ (by omega)) ?_; try dsimp only)
    | (with_reducible refine Ev.bind (markWire_ev _ _ _ hp hv) ?_; try dsimp only)
    | (with_reducible refine Ev.bind (markIntS_ev _ _ (by omega) (by omega) (by omega)) ?_; try dsimp only)
    | (with_reducible refine Ev.bind (heldIntS_ev _ _ (by omega) (by omega) (by omega)) ?_; try dsimp only)
    | (refine ev_pos (by first | exact True.intro | rfl | assumption | omega) ?_; try dsimp only)
    | (refine ev_neg (by first | (simp; done) | omega) ?_; try dsimp only)
    | (refine Ev.step (fun k => by simp only [laws_FnExactBeadsAt.j0]; rfl) ?_)
    | (refine Ev.step (fun k => by simp only [laws_FnExactBeadsAt.j1]; rfl) ?_)
    | (refine Ev.step (fun k => by simp only [laws_FnExactBeadsAt.j2]; rfl) ?_))

end Go.Proofs.Ytciihopkgblpkaa.Pure
