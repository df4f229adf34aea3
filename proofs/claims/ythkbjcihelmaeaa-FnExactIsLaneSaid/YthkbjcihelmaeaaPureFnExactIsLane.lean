/- FnExactIsLane's pure statement: for every list the law answers true. No condition. -/
import Derived.Test.YthkbjcihelmaeaaPFnExactIsLanex1
import Derived.Test.YthkbjcihelmaeaaBase
namespace Go.Proofs.Ythkbjcihelmaeaa.Pure
open Go.RowKit Go.Proofs.Ythkbjcihelmaeaa.PFnExactIsLane Go.Proofs.YthkbjcihelmaeaaW.PrintWords Go.Proofs.YthkbjcihelmaeaaW.PrintLast Go.Proofs.Ythkbjcihelmaeaa.Base

theorem toIntS_ev (l : List Int) (hl : l.length ≤ 1048576) : Ev (fun k => laws_toIntS.f k l) l := by
  have key := down (P := fun i => Ev (fun k => laws_toIntS.l0 k l (tab l.length (fun q => if q < i then rd l (q : Int) else 0)) (i : Int)) l) (n := l.length)
    (ev_now (fun k => by
      simp only [laws_toIntS.l0]
      rw [if_neg (by omega)]
      congr 1
      exact (tab_ext rfl (fun q hq => by rw [if_pos hq])).symm))
    (fun i hi ih => by
      refine Ev.step (fun k => ?_) ih
      simp only [laws_toIntS.l0]
      rw [if_pos (by omega), if_pos (by omega), if_pos (by rw [tab_len]; omega), w64s hi (by omega), Int.toNat_natCast, tab_set]
      congr 1
      refine tab_congr (fun q _ => ?_)
      by_cases e : q = i
      · subst e; rw [if_pos rfl, if_pos (by omega)]
      · rw [if_neg e]
        by_cases e2 : q < i
        · rw [if_pos e2, if_pos (by omega)]
        · rw [if_neg e2, if_neg (by omega)])
  refine Ev.congr (fun k => ?_) (key 0 (by omega))
  unfold laws_toIntS.f
  rw [if_pos (by omega), if_pos (by omega), Int.toNat_natCast, tab_rep]
  simp

theorem eqIntS_ev (a b : List Int) (hl : a.length ≤ 1152921504606846976) : Ev (fun k => laws_eqIntS.f k a b) (decide (a = b)) := by
  by_cases h : a.length = b.length
  · have key := down (P := fun i => Ev (fun k => laws_eqIntS.l0 k a b (i : Int)) (decide (a.drop i = b.drop i))) (n := a.length)
      (ev_now (fun k => by
        simp only [laws_eqIntS.l0]
        rw [if_neg (by omega)]
        simp
        omega))
      (fun i hi ih => by
        rw [drop_cons hi, drop_cons (l := b) (by omega)]
        by_cases e : rd a (i : Int) = rd b (i : Int)
        · have e2 : decide (rd a (i : Int) :: a.drop (i + 1) = rd b (i : Int) :: b.drop (i + 1)) = decide (a.drop (i + 1) = b.drop (i + 1)) := by simp [e]
          rw [e2]
          refine Ev.step (fun k => ?_) ih
          simp only [laws_eqIntS.l0]
          rw [if_pos (by omega), if_pos (by omega), if_pos (by omega), if_pos e, w64s hi hl]
        · refine ev_now (fun k => ?_)
          simp only [laws_eqIntS.l0]
          rw [if_pos (by omega), if_pos (by omega), if_pos (by omega), if_neg e]
          simp [e])
    refine Ev.congr (fun k => ?_) (key 0 (by omega))
    unfold laws_eqIntS.f
    rw [if_pos (by omega)]
    rfl
  · refine Ev.congr (fun k => ?_) (Ev.now _)
    unfold laws_eqIntS.f
    rw [if_neg (by omega)]
    simp
    intro e
    exact h (by rw [e])
theorem eqIntS_self (a : List Int) (hl : a.length ≤ 1152921504606846976) : Ev (fun k => laws_eqIntS.f k a a) true := by
  have := eqIntS_ev a a hl
  simpa using this

theorem l1In_eq (a b c : Int) : spec_l1In.f a b c = some (inR b c a) := by
  unfold spec_l1In.f inR
  by_cases h : a ≥ b
  · have h' : b ≤ a := h
    rw [if_pos h]; simp [h']
  · have h' : ¬ b ≤ a := h
    rw [if_neg h]; simp [h']

theorem l8Lane_ev (l : List Int) : Ev (fun k => spec_l8Lane.f k l) (inAll 0 1 l && inR 3 24 (l.length : Int)) := by
  have key := down (P := fun i => Ev (fun k => spec_l8Lane.l0 k l (i : Int)) (inAll 0 1 (l.drop i) && inR 3 24 (l.length : Int))) (n := min l.length 25)
    (by
      refine Ev.step (f := fun k => spec_l8Lane.j1 k l ((min l.length 25 : Nat) : Int) false) (fun k => ?_) (ev_now (fun k => ?_))
      · simp only [spec_l8Lane.l0]
        by_cases h : l.length ≤ 25
        · rw [if_neg (by omega)]
        · rw [if_pos (by omega), decide_eq_false (by omega)]
      · simp only [spec_l8Lane.j1, l1In_eq, Option.bind_some]
        by_cases h : l.length ≤ 25
        · rw [Nat.min_eq_left h]; simp [inAll_nil]
        · have : inR 3 24 (l.length : Int) = false := by unfold inR; exact decide_eq_false (by omega)
          simp [this])
    (fun i hi ih => by
      rw [drop_cons (by omega), inAll_cons]
      refine Ev.step (f := fun k => spec_l8Lane.j1 k l (i : Int) true) (fun k => ?_) ?_
      · simp only [spec_l8Lane.l0]
        rw [if_pos (by omega), decide_eq_true (by omega)]
      cases hc : inR 0 1 (rd l (i : Int)) with
      | true =>
        rw [Bool.true_and]
        refine Ev.step (fun k => ?_) ih
        simp only [spec_l8Lane.j1, l1In_eq, Option.bind_some, hc, if_true]
        rw [if_pos (by omega), if_pos (by omega), w64s (n := 25) (by omega) (by omega)]
      | false =>
        refine ev_now (fun k => ?_)
        simp only [spec_l8Lane.j1, l1In_eq, Option.bind_some, hc, if_true, Bool.false_eq_true, if_false]
        rw [if_pos (by omega), if_pos (by omega)]
        simp)
  exact key 0 (by omega)

theorem specIsLane_ev (l : List Int) : Ev (fun k => spec_IsLane.f k l) (inAll 0 1 l && inR 3 24 (l.length : Int)) :=
  Ev.bind (f := fun _ t => some t) (l8Lane_ev l) (Ev.now _)

theorem within_eq (a b c : Int) : impl_within.f a b c = some (inR b c a) := by
  unfold impl_within.f inR
  by_cases h : a ≥ b
  · have h' : b ≤ a := h
    rw [if_pos h]; simp [h']
  · have h' : ¬ b ≤ a := h
    rw [if_neg h]; simp [h']

theorem allWithin_ev (l : List Int) (a b : Int) (hl : l.length ≤ 1152921504606846976) : Ev (fun k => impl_allWithin.f k l a b) (inAll a b l) := by
  have key := down (P := fun i => Ev (fun k => impl_allWithin.l0 k a b l (l.length : Int) (i : Int)) (inAll a b (l.drop i))) (n := l.length)
    (ev_now (fun k => by
      simp only [impl_allWithin.l0]
      rw [if_neg (by omega)]
      simp [inAll_nil]))
    (fun i hi ih => by
      rw [drop_cons hi, inAll_cons]
      cases hc : inR a b (rd l (i : Int)) with
      | true =>
        rw [Bool.true_and]
        refine Ev.step (fun k => ?_) ih
        simp only [impl_allWithin.l0, within_eq, Option.bind_some, hc, if_true]
        rw [if_pos (by omega), if_pos (by omega), if_pos (by omega), w64s hi hl]
      | false =>
        refine ev_now (fun k => ?_)
        simp only [impl_allWithin.l0, within_eq, Option.bind_some, hc, Bool.false_eq_true, if_false]
        rw [if_pos (by omega), if_pos (by omega), if_pos (by omega)]
        simp)
  exact key 0 (by omega)

theorem implIsLane_ev (l : List Int) (hl : l.length ≤ 1048576) : Ev (fun k => impl_IsLane.f k l) (inAll 0 1 l && inR 3 24 (l.length : Int)) := by
  unfold impl_IsLane.f
  simp only [within_eq, Option.bind_some]
  cases h : inR 3 24 (l.length : Int) with
  | true =>
    simp only [if_true, Bool.and_true]
    exact Ev.bind (f := fun _ t => some t) (allWithin_ev l 0 1 (by omega)) (Ev.now _)
  | false =>
    simp only [Bool.false_eq_true, if_false, Bool.and_false]
    exact Ev.now _

theorem FnExactIsLane : laws_FnExactIsLane.Pure := by
  intro l _ _ _
  refine Ev.rounds (g := fun k => laws_FnExactIsLane.f k l) ?_
  unfold laws_FnExactIsLane.f
  by_cases h : (l.length : Int) > 1048576
  · simp only [if_pos h]; exact Ev.now _
  · simp only [if_neg h]
    refine Ev.bind (toIntS_ev l (by omega)) (Ev.bind (specIsLane_ev l) (Ev.bind (toIntS_ev l (by omega)) (Ev.bind (implIsLane_ev l (by omega)) ?_)))
    simp only [bne_self_eq_false, Bool.false_eq_true, if_false]
    refine Ev.bind (toIntS_ev l (by omega)) (Ev.bind (eqIntS_self l (by omega)) ?_)
    simp only [if_true]
    exact Ev.now _

end Go.Proofs.Ythkbjcihelmaeaa.Pure
