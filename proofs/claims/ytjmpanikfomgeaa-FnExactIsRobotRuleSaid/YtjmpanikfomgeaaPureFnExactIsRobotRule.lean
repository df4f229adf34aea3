/- FnExactIsRobotRule: the pure statement: for every list the law answers true. No condition. -/
import Derived.Test.YtjmpanikfomgeaaPFnExactIsRobotRulex1
import Derived.Test.YtjmpanikfomgeaaBase
namespace Go.Proofs.Ytjmpanikfomgeaa.Pure
open Go.RowKit Go.Proofs.Ytjmpanikfomgeaa.PFnExactIsRobotRule Go.Proofs.YtjmpanikfomgeaaW.PrintWords Go.Proofs.YtjmpanikfomgeaaW.PrintLast Go.Proofs.Ytjmpanikfomgeaa.Base
set_option linter.unusedVariables false
set_option linter.unusedSimpArgs false

theorem toIntS_ev (l : List Int) (hl : l.length ≤ 1048576) : Ev (fun k => laws_toIntS.f k l) l := by
  have key := down (P := fun i => Ev (fun k => laws_toIntS.l0 k l (tab l.length (fun q => if q < i then rd l (q : Int) else 0)) (i : Int)) l) (n := l.length)
    (ev_now (fun k => by
      simp only [laws_toIntS.l0]
      rw [if_neg (by omega)]
      congr 1
      exact (tab_ext rfl (fun q hq => by rw [if_pos hq])).symm))
    (fun i hi ih => by
      refine Ev.step (fun k => ?_) ih
      simp only [laws_toIntS.l0]
      rw [if_pos (by omega), if_pos (by omega), if_pos (by rw [tab_len]; omega), w64s hi (by omega), Int.toNat_natCast, tab_set]
      congr 1
      refine tab_congr (fun q _ => ?_)
      by_cases e : q = i
      · subst e; rw [if_pos rfl, if_pos (by omega)]
      · rw [if_neg e]
        by_cases e2 : q < i
        · rw [if_pos e2, if_pos (by omega)]
        · rw [if_neg e2, if_neg (by omega)])
  refine Ev.congr (fun k => ?_) (key 0 (by omega))
  unfold laws_toIntS.f
  rw [if_pos (by omega), if_pos (by omega), Int.toNat_natCast, tab_rep]
  simp

theorem eqIntS_ev (a b : List Int) (hl : a.length ≤ 1152921504606846976) : Ev (fun k => laws_eqIntS.f k a b) (decide (a = b)) := by
  by_cases h : a.length = b.length
  · have key := down (P := fun i => Ev (fun k => laws_eqIntS.l0 k a b (i : Int)) (decide (a.drop i = b.drop i))) (n := a.length)
      (ev_now (fun k => by
        simp only [laws_eqIntS.l0]
        rw [if_neg (by omega)]
        simp
        omega))
      (fun i hi ih => by
        rw [drop_cons hi, drop_cons (l := b) (by omega)]
        by_cases e : rd a (i : Int) = rd b (i : Int)
        · have e2 : decide (rd a (i : Int) :: a.drop (i + 1) = rd b (i : Int) :: b.drop (i + 1)) = decide (a.drop (i + 1) = b.drop (i + 1)) := by simp [e]
          rw [e2]
          refine Ev.step (fun k => ?_) ih
          simp only [laws_eqIntS.l0]
          rw [if_pos (by omega), if_pos (by omega), if_pos (by omega), if_pos e, w64s hi hl]
        · refine ev_now (fun k => ?_)
          simp only [laws_eqIntS.l0]
          rw [if_pos (by omega), if_pos (by omega), if_pos (by omega), if_neg e]
          simp [e])
    refine Ev.congr (fun k => ?_) (key 0 (by omega))
    unfold laws_eqIntS.f
    rw [if_pos (by omega)]
    rfl
  · refine Ev.congr (fun k => ?_) (Ev.now _)
    unfold laws_eqIntS.f
    rw [if_neg (by omega)]
    simp
    intro e
    exact h (by rw [e])
theorem eqIntS_self (a : List Int) (hl : a.length ≤ 1152921504606846976) : Ev (fun k => laws_eqIntS.f k a a) true := by
  have := eqIntS_ev a a hl
  simpa using this

theorem l1In_eq (a b c : Int) : spec_l1In.f a b c = some (inR b c a) := by
  unfold spec_l1In.f inR
  by_cases h : a ≥ b
  · have h' : b ≤ a := h
    rw [if_pos h]; simp [h']
  · have h' : ¬ b ≤ a := h
    rw [if_neg h]; simp [h']

theorem within_eq (a b c : Int) : impl_within.f a b c = some (inR b c a) := by
  unfold impl_within.f inR
  by_cases h : a ≥ b
  · have h' : b ≤ a := h
    rw [if_pos h]; simp [h']
  · have h' : ¬ b ≤ a := h
    rw [if_neg h]; simp [h']

theorem allWithin_ev (l : List Int) (a b : Int) (hl : l.length ≤ 1152921504606846976) : Ev (fun k => impl_allWithin.f k l a b) (inAll a b l) := by
  have key := down (P := fun i => Ev (fun k => impl_allWithin.l0 k a b l (l.length : Int) (i : Int)) (inAll a b (l.drop i))) (n := l.length)
    (ev_now (fun k => by
      simp only [impl_allWithin.l0]
      rw [if_neg (by omega)]
      simp [inAll_nil]))
    (fun i hi ih => by
      rw [drop_cons hi, inAll_cons]
      cases hc : inR a b (rd l (i : Int)) with
      | true =>
        rw [Bool.true_and]
        refine Ev.step (fun k => ?_) ih
        simp only [impl_allWithin.l0, within_eq, Option.bind_some, hc, if_true]
        rw [if_pos (by omega), if_pos (by omega), if_pos (by omega), w64s hi hl]
      | false =>
        refine ev_now (fun k => ?_)
        simp only [impl_allWithin.l0, within_eq, Option.bind_some, hc, Bool.false_eq_true, if_false]
        rw [if_pos (by omega), if_pos (by omega), if_pos (by omega)]
        simp)
  exact key 0 (by omega)

theorem l10Rule_ev (l : List Int) : Ev (fun k => spec_l10Rule.f k l) (inAll (-1) 1 l && decide ((l.length : Int) = 6)) := by
  have key := down (P := fun i => Ev (fun k => spec_l10Rule.l0 k l (i : Int)) (inAll (-1) 1 (l.drop i) && decide ((l.length : Int) = 6))) (n := min l.length 7)
    (by
      refine Ev.step (f := fun k => spec_l10Rule.j1 k l ((min l.length 7 : Nat) : Int) false) (fun k => ?_) (ev_now (fun k => ?_))
      · simp only [spec_l10Rule.l0]
        by_cases h : l.length ≤ 7
        · rw [if_neg (by omega)]
        · rw [if_pos (by omega), decide_eq_false (by omega)]
      · simp only [spec_l10Rule.j1, Bool.false_eq_true, if_false]
        by_cases h : l.length ≤ 7
        · rw [Nat.min_eq_left h, List.drop_length, inAll_nil, Bool.true_and]; rfl
        · rw [decide_eq_false (by omega), Bool.and_false]
          congr 1
          rw [beq_eq_false_iff_ne]
          omega)
    (fun i hi ih => by
      rw [drop_cons (by omega), inAll_cons]
      refine Ev.step (f := fun k => spec_l10Rule.j1 k l (i : Int) true) (fun k => ?_) ?_
      · simp only [spec_l10Rule.l0]
        rw [if_pos (by omega), decide_eq_true (by omega)]
      cases hc : inR (-1) 1 (rd l (i : Int)) with
      | true =>
        rw [Bool.true_and]
        refine Ev.step (fun k => ?_) ih
        simp only [spec_l10Rule.j1, l1In_eq, Option.bind_some, hc, if_true]
        rw [if_pos (by omega), if_pos (by omega), w64s (n := 7) (by omega) (by omega)]
      | false =>
        refine ev_now (fun k => ?_)
        simp only [spec_l10Rule.j1, l1In_eq, Option.bind_some, hc, if_true, Bool.false_eq_true, if_false]
        rw [if_pos (by omega), if_pos (by omega)]
        simp)
  exact key 0 (by omega)
theorem specRule_ev (l : List Int) : Ev (fun k => spec_IsRobotRule.f k l) (inAll (-1) 1 l && decide ((l.length : Int) = 6)) :=
  Ev.bind (f := fun _ t => some t) (l10Rule_ev l) (Ev.now _)
theorem implRule_ev (l : List Int) (hl : l.length ≤ 1048576) : Ev (fun k => impl_IsRobotRule.f k l) (inAll (-1) 1 l && decide ((l.length : Int) = 6)) := by
  unfold impl_IsRobotRule.f
  by_cases h : (l.length : Int) = 6
  · rw [decide_eq_true h, Bool.and_true]
    exact ev_pos h (Ev.bind (allWithin_ev l (-1) 1 (by omega)) (Ev.now _))
  · rw [decide_eq_false h, Bool.and_false]
    exact ev_neg h (Ev.now _)

theorem FnExactIsRobotRule : laws_FnExactIsRobotRule.Pure := by
  intro l _ _ _
  refine Ev.rounds (g := fun k => laws_FnExactIsRobotRule.f k l) ?_
  unfold laws_FnExactIsRobotRule.f
  by_cases h : (l.length : Int) > 1048576
  · exact ev_pos h (Ev.now _)
  refine ev_neg h ?_
  have hl : l.length ≤ 1048576 := by omega
  repeat (first
    | exact Ev.now _
    | (with_reducible refine Ev.bind (toIntS_ev _ hl) ?_; try dsimp only)
    | (with_reducible refine Ev.bind (specRule_ev _) ?_; try dsimp only)
    | (with_reducible refine Ev.bind (implRule_ev _ hl) ?_; try dsimp only)
    | (with_reducible refine Ev.bind (eqIntS_self _ (by omega)) ?_; try dsimp only)
    | (refine ev_pos (by first | rfl | assumption | omega) ?_; try dsimp only)
    | (refine ev_neg (by first | (simp; done) | omega) ?_; try dsimp only))

end Go.Proofs.Ytjmpanikfomgeaa.Pure
