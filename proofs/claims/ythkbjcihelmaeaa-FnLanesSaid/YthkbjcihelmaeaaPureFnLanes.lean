/- FnLanes: the left statement: for every code the law answers true. No condition. -/
import Derived.Test.YthkbjcihelmaeaaQFnLanesx18
import Derived.Test.YthkbjcihelmaeaaBase
import Derived.Test.YthkbjcihelmaeaaLane
import Derived.Test.YthkbjcihelmaeaaU64
import Derived.Test.YthkbjcihelmaeaaDraw
namespace Go.Proofs.Ythkbjcihelmaeaa.Pure
open Go.RowKit Go.Proofs.Ythkbjcihelmaeaa.QFnLanes Go.Proofs.YthkbjcihelmaeaaW.PrintWords Go.Proofs.YthkbjcihelmaeaaW.PrintLast Go.Proofs.Ythkbjcihelmaeaa.Base
set_option linter.unusedVariables false
set_option linter.unusedSimpArgs false

def FnLanesLeft : Prop := ∀ (l0 : List Int), l0.length ≤ maxLen → (∀ x ∈ l0, (Lit.int .u8 x).wf = true) → ∃ k, laws_FnLanes.f k l0 = some true

theorem l1In_eq (a b c : Int) : spec_l1In.f a b c = some (inR b c a) := by
  unfold spec_l1In.f inR
  by_cases h : a ≥ b
  · have h' : b ≤ a := h
    rw [if_pos h]; simp [h']
  · have h' : ¬ b ≤ a := h
    rw [if_neg h]; simp [h']

theorem l8Lane_ev (l : List Int) : Ev (fun k => spec_l8Lane.f k l) (inAll 0 1 l && inR 3 24 (l.length : Int)) := by
  have key := down (P := fun i => Ev (fun k => spec_l8Lane.l0 k l (i : Int)) (inAll 0 1 (l.drop i) && inR 3 24 (l.length : Int))) (n := min l.length 25)
    (by
      refine Ev.step (f := fun k => spec_l8Lane.j1 k l ((min l.length 25 : Nat) : Int) false) (fun k => ?_) (ev_now (fun k => ?_))
      · simp only [spec_l8Lane.l0]
        by_cases h : l.length ≤ 25
        · rw [if_neg (by omega)]
        · rw [if_pos (by omega), decide_eq_false (by omega)]
      · simp only [spec_l8Lane.j1, l1In_eq, Option.bind_some]
        by_cases h : l.length ≤ 25
        · rw [Nat.min_eq_left h]; simp [inAll_nil]
        · have : inR 3 24 (l.length : Int) = false := by unfold inR; exact decide_eq_false (by omega)
          simp [this])
    (fun i hi ih => by
      rw [drop_cons (by omega), inAll_cons]
      refine Ev.step (f := fun k => spec_l8Lane.j1 k l (i : Int) true) (fun k => ?_) ?_
      · simp only [spec_l8Lane.l0]
        rw [if_pos (by omega), decide_eq_true (by omega)]
      cases hc : inR 0 1 (rd l (i : Int)) with
      | true =>
        rw [Bool.true_and]
        refine Ev.step (fun k => ?_) ih
        simp only [spec_l8Lane.j1, l1In_eq, Option.bind_some, hc, if_true]
        rw [if_pos (by omega), if_pos (by omega), w64s (n := 25) (by omega) (by omega)]
      | false =>
        refine ev_now (fun k => ?_)
        simp only [spec_l8Lane.j1, l1In_eq, Option.bind_some, hc, if_true, Bool.false_eq_true, if_false]
        rw [if_pos (by omega), if_pos (by omega)]
        simp)
  exact key 0 (by omega)

theorem l1Own_eq (l : List Int) (h : l.length ≤ 1048576) : spec_l1Own.f l = some l := by
  unfold spec_l1Own.f
  simp only [Option.bind_some, List.length_nil, List.nil_append]
  rw [if_pos (by omega)]

theorem l8Turn_ev (l : List Int) (hb : bit01 l) (h2 : 2 ≤ l.length) (hl : l.length ≤ 1048576) : Ev (fun k => spec_l8Turn.f k l) (nx l, fl l) := by
  have key := down (P := fun i => Ev (fun k => spec_l8Turn.l0 k l (tab l.length (spOut l i)) (fp l i) (l.length : Int) (i : Int)) (nx l, fl l)) (n := l.length)
    (ev_now (fun k => by
      simp only [spec_l8Turn.l0]
      rw [if_neg (by omega), spOut_last hb]
      rfl))
    (fun i hi ih => by
      have hn := nxt_lt hi
      have hf := fp_bound l i
      refine Ev.step (fun k => ?_) ih
      simp only [spec_l8Turn.l0]
      rw [if_pos (by omega), if_neg (by omega), if_pos (by omega), if_pos (by omega), tmod_nxt hi hl, ← cy_in hi, ← cy_nxt hi]
      by_cases hm : M l i
      · rw [if_pos hm.1, if_pos (by omega), if_pos (by omega), if_pos hm.2, if_pos (by rw [tab_len]; omega), if_pos (by rw [tab_len]; omega), w64s hi (by omega),
          w64 (by omega) (by omega), fp_succ, if_pos hm, Int.toNat_natCast, Int.toNat_natCast, tab_set, tab_set]
        congr 1
        exact tab_congr (fun q hq => spOut_move hi h2 hm q hq)
      · rw [w64s hi (by omega), fp_succ, if_neg hm, Int.add_zero, tab_congr (fun q _ => spOut_stay hm q)]
        by_cases h1 : cy l (i : Int) = 1
        · rw [if_pos h1, if_pos (by omega), if_pos (by omega), if_neg (fun h0 => hm ⟨h1, h0⟩)]
        · rw [if_neg h1])
  unfold spec_l8Turn.f
  simp only [l1Own_eq l hl, Option.bind_some]
  have k0 := key 0 (by omega)
  rw [spOut_zero] at k0
  exact k0

def turnLaneR (l : List Int) : List Int × Int × Bool := if (inAll 0 1 l && inR 3 24 (l.length : Int)) = true then (nx l, fl l, true) else ([], 0, false)
theorem specTurnLane_ev (l : List Int) (hl : l.length ≤ 1048576) : Ev (fun k => spec_TurnLane.f k l) (turnLaneR l) := by
  unfold spec_TurnLane.f turnLaneR
  refine Ev.bind (l8Lane_ev l) ?_
  cases hv : (inAll 0 1 l && inR 3 24 (l.length : Int)) with
  | true =>
    have hL := lane_of hv
    simp only [if_true]
    exact Ev.bind (l8Turn_ev l hL.1 (by omega) hl) (Ev.now _)
  | false =>
    simp only [Bool.false_eq_true, if_false]
    exact Ev.now _

theorem within_eq (a b c : Int) : impl_within.f a b c = some (inR b c a) := by
  unfold impl_within.f inR
  by_cases h : a ≥ b
  · have h' : b ≤ a := h
    rw [if_pos h]; simp [h']
  · have h' : ¬ b ≤ a := h
    rw [if_neg h]; simp [h']

theorem allWithin_ev (l : List Int) (a b : Int) (hl : l.length ≤ 1152921504606846976) : Ev (fun k => impl_allWithin.f k l a b) (inAll a b l) := by
  have key := down (P := fun i => Ev (fun k => impl_allWithin.l0 k a b l (l.length : Int) (i : Int)) (inAll a b (l.drop i))) (n := l.length)
    (ev_now (fun k => by
      simp only [impl_allWithin.l0]
      rw [if_neg (by omega)]
      simp [inAll_nil]))
    (fun i hi ih => by
      rw [drop_cons hi, inAll_cons]
      cases hc : inR a b (rd l (i : Int)) with
      | true =>
        rw [Bool.true_and]
        refine Ev.step (fun k => ?_) ih
        simp only [impl_allWithin.l0, within_eq, Option.bind_some, hc, if_true]
        rw [if_pos (by omega), if_pos (by omega), if_pos (by omega), w64s hi hl]
      | false =>
        refine ev_now (fun k => ?_)
        simp only [impl_allWithin.l0, within_eq, Option.bind_some, hc, Bool.false_eq_true, if_false]
        rw [if_pos (by omega), if_pos (by omega), if_pos (by omega)]
        simp)
  exact key 0 (by omega)

theorem implIsLane_ev (l : List Int) (hl : l.length ≤ 1048576) : Ev (fun k => impl_IsLane.f k l) (inAll 0 1 l && inR 3 24 (l.length : Int)) := by
  unfold impl_IsLane.f
  simp only [within_eq, Option.bind_some]
  cases h : inR 3 24 (l.length : Int) with
  | true =>
    simp only [if_true, Bool.and_true]
    exact Ev.bind (f := fun _ t => some t) (allWithin_ev l 0 1 (by omega)) (Ev.now _)
  | false =>
    simp only [Bool.false_eq_true, if_false, Bool.and_false]
    exact Ev.now _

theorem turn_ev (l : List Int) (hb : bit01 l) (h2 : 2 ≤ l.length) (hl : l.length ≤ 1048576) : Ev (fun k => impl_turn.f k l) (nx l, tab l.length (too l), fl l) := by
  have key := down (P := fun i => Ev (fun k => impl_turn.l0 k l (tab l.length (imOut l i)) (tab l.length (imTo l i)) (fp l i) l (l.length : Int) (i : Int)) (nx l, tab l.length (too l), fl l)) (n := l.length)
    (ev_now (fun k => by
      simp only [impl_turn.l0]
      rw [if_neg (by omega), imOut_last hb, imTo_last]
      rfl))
    (fun i hi ih => by
      have hn := nxt_lt hi
      have hf := fp_bound l i
      refine Ev.step (fun k => ?_) ih
      simp only [impl_turn.l0]
      rw [if_pos (by omega), if_pos (by omega), if_pos (by omega), if_pos (by rw [tab_len]; omega), tmod_nxt hi hl, ← cy_in hi, ← cy_nxt hi]
      simp only [Option.bind_some, Int.toNat_natCast, tab_set, tab_rd hi, if_true, tab_len]
      rw [w64s hi (by omega)]
      have eT : ∀ v, v = too l i → tab l.length (fun q => if q = i then v else imTo l i q) = tab l.length (imTo l (i + 1)) := by
        intro v hv
        refine tab_congr (fun q _ => ?_)
        unfold imTo
        by_cases e : q = i
        · subst e; rw [if_pos rfl, if_pos (by omega), hv]
        · rw [if_neg e]
          by_cases e2 : q < i
          · rw [if_pos e2, if_pos (by omega)]
          · rw [if_neg e2, if_neg (by omega)]
      rcases hb (i : Int) with h0 | h1
      · have hm : ¬ M l i := fun a => by have := a.1; rw [h0] at this; exact absurd this (by decide)
        rw [if_pos h0, fp_succ, if_neg hm, Int.add_zero, eT _ (by unfold too; rw [if_neg hm]), tab_congr (fun q _ => imOut_free h0 q)]
      · rw [if_neg (by omega), if_neg (by omega), if_pos (by omega), if_pos (by omega)]
        have eO := tab_congr (n := l.length) (fun q hq => imOut_car hi h1 q hq)
        by_cases hm : M l i
        · have et : too l i = ((nxt l.length i : Nat) : Int) := by unfold too; rw [if_pos hm]
          rw [et, Int.toNat_natCast] at eO
          rw [if_pos hm.2, if_pos (by omega), if_pos (by omega), w64 (by omega) (by omega), fp_succ, if_pos hm, eO]
          congr 1
          rw [← eT _ et.symm]
          refine tab_congr (fun q _ => ?_)
          by_cases e : q = i
          · rw [if_pos e, if_pos e]
          · rw [if_neg e, if_neg e, if_neg e]
        · have et : too l i = (i : Int) := by unfold too; rw [if_neg hm]
          rw [et, Int.toNat_natCast] at eO
          rw [if_neg (fun h0 => hm ⟨h1, h0⟩), if_pos (by omega), if_pos (by omega), fp_succ, if_neg hm, Int.add_zero, eO, eT _ et.symm])
  unfold impl_turn.f
  simp only [if_pos (show (0 : Int) ≤ (l.length : Int) by omega), Int.toNat_natCast, if_pos (show l.length ≤ 35184372088832 by omega), tab_rep]
  have k0 := key 0 (by omega)
  have e1 : tab l.length (imOut l 0) = tab l.length (fun _ => 0) := tab_congr (fun q _ => by unfold imOut; rw [if_neg (by omega)])
  have e2 : tab l.length (imTo l 0) = tab l.length (fun _ => 0) := tab_congr (fun q _ => by unfold imTo; rw [if_neg (by omega)])
  rw [e1, e2] at k0
  exact k0

theorem implTurnLane_ev (l : List Int) (hl : l.length ≤ 1048576) : Ev (fun k => impl_TurnLane.f k l) (turnLaneR l) := by
  unfold impl_TurnLane.f turnLaneR
  refine Ev.bind (implIsLane_ev l hl) ?_
  cases hv : (inAll 0 1 l && inR 3 24 (l.length : Int)) with
  | true =>
    have hL := lane_of hv
    simp only [if_true]
    exact Ev.bind (turn_ev l hL.1 (by omega) hl) (Ev.now _)
  | false =>
    simp only [Bool.false_eq_true, if_false]
    exact Ev.now _
theorem turnLaneR_len (l : List Int) : (turnLaneR l).1.length ≤ 1048576 := by
  unfold turnLaneR
  split
  · rename_i h
    have := lane_of h
    simp only [nx_len]
    omega
  · simp

theorem l8Cars_ev (l : List Int) (hb : bit01 l) (hl : l.length ≤ 1048576) : Ev (fun k => spec_l8Cars.f k l) (cars l) := by
  have key := down (P := fun i => Ev (fun k => spec_l8Cars.l0 k l (sm i (fun p => cy l (p : Int))) (i : Int)) (cars l)) (n := l.length)
    (ev_now (fun k => by
      simp only [spec_l8Cars.l0]
      rw [if_neg (by omega)]
      rfl))
    (fun i hi ih => by
      have hc := cars_bound hb i
      refine Ev.step (fun k => ?_) ih
      have h1 := hb (i : Int)
      simp only [spec_l8Cars.l0]
      rw [if_pos (by omega), if_pos (by omega), w64s hi (by omega), ← cy_in hi, w64 (by omega) (by omega)]
      rfl)
  exact key 0 (by omega)

theorem l1Least_eq (a b : Int) : spec_l1Least.f a b = some (mn a b) := by
  unfold spec_l1Least.f mn
  by_cases h : a < b
  · rw [if_pos h, if_neg (by omega)]
  · rw [if_neg h]
    by_cases h2 : b < a
    · rw [if_pos h2]
    · rw [if_neg h2]; congr 1; omega

theorem l8Last_ev (l : List Int) (hb : bit01 l) (hl : l.length ≤ 1048576) : Ev (fun k => spec_l8Last.f k l) (mn (cars l) ((l.length : Int) - cars l)) := by
  have hc : 0 ≤ cars l ∧ cars l ≤ l.length := cars_bound hb l.length
  unfold spec_l8Last.f
  refine Ev.bind (l8Cars_ev l hb hl) (Ev.bind (l8Cars_ev l hb hl) ?_)
  simp only [l1Least_eq, Option.bind_some]
  rw [w64 (by omega) (by omega)]
  exact Ev.now _

def lastFlowR (l : List Int) : Int × Bool := if (inAll 0 1 l && inR 3 24 (l.length : Int)) = true then (mn (cars l) ((l.length : Int) - cars l), true) else (0, false)
theorem specLastFlow_ev (l : List Int) : Ev (fun k => spec_LastFlow.f k l) (lastFlowR l) := by
  unfold spec_LastFlow.f lastFlowR
  refine Ev.bind (l8Lane_ev l) ?_
  cases hv : (inAll 0 1 l && inR 3 24 (l.length : Int)) with
  | true =>
    have hL := lane_of hv
    simp only [if_true]
    exact Ev.bind (l8Last_ev l hL.1 (by omega)) (Ev.now _)
  | false =>
    simp only [Bool.false_eq_true, if_false]
    exact Ev.now _

theorem lastFlow_ev (l : List Int) (hb : bit01 l) (hl : l.length ≤ 1048576) : Ev (fun k => impl_lastFlow.f k l) (mn (cars l) ((l.length : Int) - cars l)) := by
  have hcc : 0 ≤ cars l ∧ cars l ≤ l.length := cars_bound hb l.length
  have key := down (P := fun i => Ev (fun k => impl_lastFlow.l0 k l (sm i (fun p => cy l (p : Int))) l (l.length : Int) (i : Int)) (mn (cars l) ((l.length : Int) - cars l))) (n := l.length)
    (ev_now (fun k => by
      have e : sm l.length (fun p => cy l (p : Int)) = cars l := rfl
      simp only [impl_lastFlow.l0]
      rw [if_neg (by omega), e, w64 (by omega) (by omega)]))
    (fun i hi ih => by
      have hc := cars_bound hb i
      refine Ev.step (fun k => ?_) ih
      have h1 := hb (i : Int)
      simp only [impl_lastFlow.l0]
      rw [if_pos (by omega), if_pos (by omega), if_pos (by omega), w64s hi (by omega), ← cy_in hi, w64 (by omega) (by omega)]
      rfl)
  exact key 0 (by omega)

theorem implLastFlow_ev (l : List Int) (hl : l.length ≤ 1048576) : Ev (fun k => impl_LastFlow.f k l) (lastFlowR l) := by
  unfold impl_LastFlow.f lastFlowR
  refine Ev.bind (implIsLane_ev l hl) ?_
  cases hv : (inAll 0 1 l && inR 3 24 (l.length : Int)) with
  | true =>
    have hL := lane_of hv
    simp only [if_true]
    exact Ev.bind (lastFlow_ev l hL.1 (by omega)) (Ev.now _)
  | false =>
    simp only [Bool.false_eq_true, if_false]
    exact Ev.now _

theorem calm_turn {l : List Int} (hb : bit01 l) (h0 : 0 < l.length) : ∃ m : Nat, 2 * m ≤ l.length ∧ fl (itn m l) = mn (cars l) ((l.length : Int) - cars l) ∧ ∀ j, j < m → fl (itn j l) ≠ mn (cars l) ((l.length : Int) - cars l) := by
  obtain ⟨m, h1, h2, h3⟩ := least_of (P := fun t => fl (itn t l) = mn (cars l) ((l.length : Int) - cars l)) (l.length / 2) (fl_last h0 hb _ (by omega))
  exact ⟨m, by omega, h2, h3⟩
theorem specCalm_loop (l : List Int) (hL : bit01 l ∧ 3 ≤ l.length ∧ l.length ≤ 24) {m : Nat} (h1 : 2 * m ≤ l.length) (h2 : fl (itn m l) = mn (cars l) ((l.length : Int) - cars l)) (h3 : ∀ j, j < m → fl (itn j l) ≠ mn (cars l) ((l.length : Int) - cars l)) :
    Ev (fun k => spec_CalmTurn.l0 k l l 0) ((m : Int), true) := by
  have key := down (P := fun i => Ev (fun k => spec_CalmTurn.l0 k l (itn i l) (i : Int)) ((m : Int), true)) (n := m)
    (by
      refine Ev.step (fun k => by simp only [spec_CalmTurn.l0]; rfl) ?_
      refine Ev.bind (l8Turn_ev _ (bits_itn (by omega) hL.1 m) (by rw [itn_len]; omega) (by rw [itn_len]; omega)) (Ev.bind (l8Last_ev l hL.1 (by omega)) ?_)
      simp only [if_pos h2]
      exact Ev.now _)
    (fun i hi ih => by
      refine Ev.step (fun k => by simp only [spec_CalmTurn.l0]; rfl) ?_
      refine Ev.bind (l8Turn_ev _ (bits_itn (by omega) hL.1 i) (by rw [itn_len]; omega) (by rw [itn_len]; omega)) (Ev.bind (l8Last_ev l hL.1 (by omega)) ?_)
      simp only [if_neg (h3 i hi), w64s hi (show m ≤ 1152921504606846976 by omega)]
      exact ih)
  exact key 0 (by omega)
theorem implCalm_loop (l : List Int) (hL : bit01 l ∧ 3 ≤ l.length ∧ l.length ≤ 24) {m : Nat} (h1 : 2 * m ≤ l.length) (h2 : fl (itn m l) = mn (cars l) ((l.length : Int) - cars l)) (h3 : ∀ j, j < m → fl (itn j l) ≠ mn (cars l) ((l.length : Int) - cars l)) :
    Ev (fun k => impl_CalmTurn.l0 k l (mn (cars l) ((l.length : Int) - cars l)) 0) ((m : Int), true) := by
  have key := down (P := fun i => Ev (fun k => impl_CalmTurn.l0 k (itn i l) (mn (cars l) ((l.length : Int) - cars l)) (i : Int)) ((m : Int), true)) (n := m)
    (by
      refine Ev.step (fun k => by simp only [impl_CalmTurn.l0]; rfl) ?_
      refine Ev.bind (turn_ev _ (bits_itn (by omega) hL.1 m) (by rw [itn_len]; omega) (by rw [itn_len]; omega)) ?_
      simp only [if_pos h2]
      exact Ev.now _)
    (fun i hi ih => by
      refine Ev.step (fun k => by simp only [impl_CalmTurn.l0]; rfl) ?_
      refine Ev.bind (turn_ev _ (bits_itn (by omega) hL.1 i) (by rw [itn_len]; omega) (by rw [itn_len]; omega)) ?_
      simp only [if_neg (h3 i hi), w64s hi (show m ≤ 1152921504606846976 by omega)]
      exact ih)
  exact key 0 (by omega)
theorem calm_both (l : List Int) (hl : l.length ≤ 1048576) : ∃ r : Int × Bool, Ev (fun k => spec_CalmTurn.f k l) r ∧ Ev (fun k => impl_CalmTurn.f k l) r ∧ (r.2 = (inAll 0 1 l && inR 3 24 (l.length : Int))) ∧ 2 * r.1 ≤ l.length ∧ 0 ≤ r.1 := by
  cases hv : (inAll 0 1 l && inR 3 24 (l.length : Int)) with
  | true =>
    have hL := lane_of hv
    obtain ⟨m, h1, h2, h3⟩ := calm_turn hL.1 (by omega)
    refine ⟨((m : Int), true), ?_, ?_, rfl, by simp only; omega, Int.natCast_nonneg m⟩
    · unfold spec_CalmTurn.f
      refine Ev.bind (l8Lane_ev l) ?_
      simp only [hv, if_true, l1Own_eq l hl, Option.bind_some]
      exact specCalm_loop l hL h1 h2 h3
    · unfold impl_CalmTurn.f
      refine Ev.bind (implIsLane_ev l hl) ?_
      simp only [hv, if_true]
      refine Ev.bind (lastFlow_ev l hL.1 hl) ?_
      exact implCalm_loop l hL h1 h2 h3
  | false =>
    refine ⟨(0, false), ?_, ?_, rfl, by simp only; omega, Int.le_refl 0⟩
    · unfold spec_CalmTurn.f
      refine Ev.bind (l8Lane_ev l) ?_
      simp only [hv, Bool.false_eq_true, if_false]
      exact Ev.now _
    · unfold impl_CalmTurn.f
      refine Ev.bind (implIsLane_ev l hl) ?_
      simp only [hv, Bool.false_eq_true, if_false]
      exact Ev.now _

theorem mapped_ev (g : Int → Option Int) (h : Int → Int) (l : List Int) (hl : l.length ≤ 1048576) (hg : ∀ x ∈ l, g x = some (h x)) : Ev (fun k => Mapped.f g k l) (l.map h) := by
  have e : l.map h = tab l.length (fun q => h (rd l (q : Int))) := by
    refine tab_ext (by simp) (fun q hq => ?_)
    rw [rd_nat, rd_nat, List.getD_eq_getElem?_getD, List.getD_eq_getElem?_getD, List.getElem?_map, List.getElem?_eq_getElem hq]
    rfl
  rw [e]
  have key := down (P := fun i => Ev (fun k => Mapped.l0 g k (tab i (fun q => h (rd l (q : Int)))) l (l.length : Int) (i : Int)) (tab l.length (fun q => h (rd l (q : Int))))) (n := l.length)
    (ev_now (fun k => by simp only [Mapped.l0]; rw [if_neg (by omega)]))
    (fun i hi ih => by
      refine Ev.step (fun k => ?_) ih
      simp only [Mapped.l0]
      rw [if_pos (by omega), if_pos (by omega), if_pos (by omega), hg _ (mem_of_rd hi), Option.bind_some, tab_len, if_pos (by omega), w64s hi (by omega), tab_snoc i (fun q => h (rd l (q : Int)))])
  exact key 0 (by omega)

theorem reverse_tab (l : List Int) : l.reverse = tab l.length (fun q => rd l ((l.length - 1 - q : Nat) : Int)) := by
  refine tab_ext (by simp) (fun q hq => ?_)
  rw [rd_nat, rd_nat, List.getD_eq_getElem?_getD, List.getD_eq_getElem?_getD, List.getElem?_reverse hq]
def rvF (l : List Int) (i q : Nat) : Int := if q < i ∨ l.length ≤ q + i then rd l ((l.length - 1 - q : Nat) : Int) else rd l (q : Int)
theorem reverse_ev (l : List Int) (hl : l.length ≤ 1152921504606846975) : Ev (fun k => slices_Reverse_int_int.f k l) l.reverse := by
  have key := down (P := fun i => Ev (fun k => slices_Reverse_int_int.l0 k (tab l.length (rvF l i)) (i : Int) ((l.length : Int) - 1 - (i : Int))) l.reverse) (n := l.length / 2)
    (ev_now (fun k => by
      simp only [slices_Reverse_int_int.l0]
      rw [if_neg (by omega), reverse_tab]
      refine congrArg some (tab_congr (fun q hq => ?_))
      unfold rvF
      by_cases h : q < l.length / 2 ∨ l.length ≤ q + l.length / 2
      · rw [if_pos h]
      · rw [if_neg h]
        have : l.length - 1 - q = q := by omega
        rw [this]))
    (fun i hi ih => by
      have e : (l.length : Int) - 1 - (i : Int) = ((l.length - 1 - i : Nat) : Int) := by omega
      refine Ev.step (fun k => ?_) ih
      simp only [slices_Reverse_int_int.l0]
      rw [e, if_pos (by omega), if_pos (by omega), tab_len, if_pos (by omega), if_pos (by omega), if_pos (by omega), w64s (n := l.length) (by omega) (by omega), w64 (by omega) (by omega), Int.toNat_natCast, Int.toNat_natCast, tab_rd (by omega), tab_rd (by omega), tab_set, tab_set]
      have e2 : ((l.length - 1 - i : Nat) : Int) - 1 = (l.length : Int) - 1 - ((i + 1 : Nat) : Int) := by omega
      rw [e2]
      refine congrArg (fun z => slices_Reverse_int_int.l0 k z _ _) (tab_congr (fun q hq => ?_))
      unfold rvF
      by_cases h1 : q = l.length - 1 - i
      · subst h1
        rw [if_pos rfl, if_neg (by omega), if_pos (by omega)]
        congr 2
        omega
      · rw [if_neg h1]
        by_cases h2 : q = i
        · subst h2
          rw [if_pos rfl, if_neg (by omega), if_pos (by omega)]
        · rw [if_neg h2]
          by_cases h3 : q < i ∨ l.length ≤ q + i
          · rw [if_pos h3, if_pos (by omega)]
          · rw [if_neg h3, if_neg (by omega)])
  refine Ev.congr (fun k => ?_) (key 0 (by omega))
  unfold slices_Reverse_int_int.f
  have e : tab l.length (rvF l 0) = l := by
    refine Eq.trans ?_ (tab_of l).symm
    refine tab_congr (fun q hq => ?_)
    unfold rvF
    rw [if_neg (by omega)]
  rw [e, w64 (by omega) (by omega)]
  simp

def turnedL (l : List Int) : List Int := tab l.length (fun q => wrap64 (1 - rd l ((l.length - 1 - q : Nat) : Int)))
def turnAroundR (l : List Int) : List Int × Bool := if (inAll 0 1 l && inR 3 24 (l.length : Int)) = true then (turnedL l, true) else ([], false)
theorem turnAroundR_len (l : List Int) (hl : l.length ≤ 1048576) : (turnAroundR l).1.length ≤ 1048576 := by
  unfold turnAroundR
  split
  · simpa only [turnedL, tab_len] using hl
  · simp
theorem specTurnAround_ev (l : List Int) : Ev (fun k => spec_TurnAround.f k l) (turnAroundR l) := by
  unfold spec_TurnAround.f turnAroundR
  simp only [Option.bind_some]
  refine Ev.bind (l8Lane_ev l) ?_
  cases hv : (inAll 0 1 l && inR 3 24 (l.length : Int)) with
  | true =>
    have hL := lane_of hv
    simp only [if_true]
    have key := down (P := fun i => Ev (fun k => spec_TurnAround.l0 k l (tab i (fun q => wrap64 (1 - rd l ((l.length - 1 - q : Nat) : Int)))) ((l.length : Int) - 1 - (i : Int))) (turnedL l, true)) (n := l.length)
      (ev_now (fun k => by simp only [spec_TurnAround.l0]; rw [if_neg (by omega)]; rfl))
      (fun i hi ih => by
        have e : (l.length : Int) - 1 - (i : Int) = ((l.length - 1 - i : Nat) : Int) := by omega
        refine Ev.step (fun k => ?_) ih
        simp only [spec_TurnAround.l0]
        rw [e, if_pos (by omega), if_pos (by omega), if_pos (by omega), tab_len, if_pos (by omega), w64 (x := ((l.length - 1 - i : Nat) : Int) - 1) (by omega) (by omega), tab_snoc i (fun q => wrap64 (1 - rd l ((l.length - 1 - q : Nat) : Int)))]
        have e2 : ((l.length - 1 - i : Nat) : Int) - 1 = (l.length : Int) - 1 - ((i + 1 : Nat) : Int) := by omega
        rw [e2])
    have k0 := key 0 (by omega)
    rw [w64 (by omega) (by omega)]
    simpa [tab_zero] using k0
  | false =>
    simp only [Bool.false_eq_true, if_false]
    exact Ev.now _
theorem turnedL_eq (l : List Int) : (l.map (fun x => wrap64 (1 - x))).reverse = turnedL l := by
  rw [reverse_tab]
  unfold turnedL
  rw [List.length_map]
  refine tab_congr (fun q hq => ?_)
  rw [rd_nat, rd_nat, List.getD_eq_getElem?_getD, List.getD_eq_getElem?_getD, List.getElem?_map, List.getElem?_eq_getElem (by omega)]
  rfl
theorem implTurnAround_ev (l : List Int) (hl : l.length ≤ 1048576) : Ev (fun k => impl_TurnAround.f k l) (turnAroundR l) := by
  unfold impl_TurnAround.f turnAroundR
  refine Ev.bind (implIsLane_ev l hl) ?_
  cases hv : (inAll 0 1 l && inR 3 24 (l.length : Int)) with
  | true =>
    have hL := lane_of hv
    simp only [if_true]
    refine Ev.bind (g := fun k => mapped_46.f k l) (mapped_ev _ (fun x => wrap64 (1 - x)) l hl (fun x _ => rfl)) (Ev.bind (reverse_ev _ (by simp; omega)) ?_)
    rw [turnedL_eq]
    exact Ev.now _
  | false =>
    simp only [Bool.false_eq_true, if_false]
    exact Ev.now _

def jams (l : List Int) (i : Nat) : List Int := ((List.range i).filter (fun p : Nat => decide (cy l (p : Int) = 1 ∧ cy l ((p : Int) + 1) = 1))).map (fun p : Nat => (p : Int))
theorem jams_succ (l : List Int) (i : Nat) : jams l (i + 1) = if cy l (i : Int) = 1 ∧ cy l ((i : Int) + 1) = 1 then jams l i ++ [(i : Int)] else jams l i := by
  unfold jams
  rw [List.range_succ, List.filter_append, List.map_append]
  by_cases h : cy l (i : Int) = 1 ∧ cy l ((i : Int) + 1) = 1
  · rw [if_pos h]; simp [h]
  · rw [if_neg h]; simp [h]
theorem jams_len (l : List Int) (i : Nat) : (jams l i).length ≤ i := by
  unfold jams
  rw [List.length_map]
  have := List.length_filter_le (fun p : Nat => decide (cy l (p : Int) = 1 ∧ cy l ((p : Int) + 1) = 1)) (List.range i)
  rw [List.length_range] at this
  exact this
def jamsR (l : List Int) : List Int × Bool := if (inAll 0 1 l && inR 3 24 (l.length : Int)) = true then (jams l l.length, true) else ([], false)
theorem jamsR_len (l : List Int) : (jamsR l).1.length ≤ 1048576 := by
  unfold jamsR
  split
  · rename_i h
    have := lane_of h
    have := jams_len l l.length
    simp only
    omega
  · simp
theorem specJams_ev (l : List Int) : Ev (fun k => spec_JamsOf.f k l) (jamsR l) := by
  unfold spec_JamsOf.f jamsR
  simp only [Option.bind_some]
  refine Ev.bind (l8Lane_ev l) ?_
  cases hv : (inAll 0 1 l && inR 3 24 (l.length : Int)) with
  | true =>
    have hL := lane_of hv
    simp only [if_true]
    have key := down (P := fun i => Ev (fun k => spec_JamsOf.l0 k l (jams l i) (i : Int)) (jams l l.length, true)) (n := l.length)
      (ev_now (fun k => by simp only [spec_JamsOf.l0]; rw [if_neg (by omega)]))
      (fun i hi ih => by
        have hn := nxt_lt hi
        have hj := jams_len l i
        refine Ev.step (fun k => ?_) ih
        simp only [spec_JamsOf.l0]
        rw [if_pos (by omega), if_pos (by omega), tmod_nxt hi (by omega), ← cy_in hi, ← cy_nxt hi, w64s hi (by omega), jams_succ]
        by_cases h1 : cy l (i : Int) = 1
        · rw [if_pos h1, if_neg (by omega), if_pos (by omega), if_pos (by omega)]
          by_cases h2 : cy l ((i : Int) + 1) = 1
          · rw [if_pos h2, if_pos (by omega), if_pos ⟨h1, h2⟩]
          · rw [if_neg h2, if_neg (fun a => h2 a.2)]
        · rw [if_neg h1, if_neg (fun a => h1 a.1)])
    exact key 0 (by omega)
  | false =>
    simp only [Bool.false_eq_true, if_false]
    exact Ev.now _

theorem implJams_ev (l : List Int) (hl : l.length ≤ 1048576) : Ev (fun k => impl_JamsOf.f k l) (jamsR l) := by
  unfold impl_JamsOf.f jamsR
  refine Ev.bind (implIsLane_ev l hl) ?_
  cases hv : (inAll 0 1 l && inR 3 24 (l.length : Int)) with
  | true =>
    have hL := lane_of hv
    simp only [if_true]
    refine Ev.bind (turn_ev l hL.1 (by omega) hl) ?_
    have key := down (P := fun i => Ev (fun k => impl_JamsOf.l0 k (jams l i) (tab l.length (too l)) l (l.length : Int) (i : Int)) (jams l l.length, true)) (n := l.length)
      (ev_now (fun k => by simp only [impl_JamsOf.l0]; rw [if_neg (by omega)]))
      (fun i hi ih => by
        have hn := nxt_ne hi (by omega)
        have hj := jams_len l i
        refine Ev.step (fun k => ?_) ih
        simp only [impl_JamsOf.l0]
        rw [if_pos (by omega), if_pos (by omega), if_pos (by omega), ← cy_in hi, w64s hi (by omega), jams_succ, tab_rd hi]
        by_cases h1 : cy l (i : Int) = 1
        · rw [if_pos h1, if_pos (by rw [tab_len]; omega)]
          by_cases h2 : cy l ((i : Int) + 1) = 1
          · have hm : ¬ M l i := fun a => by have := a.2; omega
            rw [if_pos (by unfold too; rw [if_neg hm]), if_pos (by omega), if_pos ⟨h1, h2⟩]
          · have hm : M l i := ⟨h1, by have := hL.1 ((i : Int) + 1); omega⟩
            rw [if_neg (by unfold too; rw [if_pos hm]; omega), if_neg (fun a => h2 a.2)]
        · rw [if_neg h1, if_neg (fun a => h1 a.1)])
    exact key 0 (by omega)
  | false =>
    simp only [Bool.false_eq_true, if_false]
    exact Ev.now _

def turnsV (l : List Int) (t : Int) : Bool := (inAll 0 1 l && inR 3 24 (l.length : Int)) && inR 0 60 t
theorem l8Turns_ev (l : List Int) (t : Int) : Ev (fun k => spec_l8Turns.f k l t) (turnsV l t) := by
  unfold spec_l8Turns.f turnsV
  refine Ev.bind (l8Lane_ev l) ?_
  cases (inAll 0 1 l && inR 3 24 (l.length : Int)) with
  | true => simp only [if_true, l1In_eq, Option.bind_some, Bool.true_and]; exact Ev.now _
  | false => simp only [Bool.false_eq_true, if_false, Bool.false_and]; exact Ev.now _

theorem isTurns_ev (l : List Int) (t : Int) (hl : l.length ≤ 1048576) : Ev (fun k => impl_isTurns.f k l t) (turnsV l t) := by
  unfold impl_isTurns.f turnsV
  refine Ev.bind (implIsLane_ev l hl) ?_
  cases (inAll 0 1 l && inR 3 24 (l.length : Int)) with
  | true => simp only [if_true, within_eq, Option.bind_some, Bool.true_and]; exact Ev.now _
  | false => simp only [Bool.false_eq_true, if_false, Bool.false_and]; exact Ev.now _
theorem turns_of {l : List Int} {t : Int} (h : turnsV l t = true) : (bit01 l ∧ 3 ≤ l.length ∧ l.length ≤ 24) ∧ ∃ n : Nat, t = n ∧ n ≤ 60 := by
  unfold turnsV at h
  rw [Bool.and_eq_true] at h
  refine ⟨lane_of h.1, t.toNat, ?_, ?_⟩
  · have := inR_iff.1 h.2; omega
  · have := inR_iff.1 h.2; omega

theorem copied_eq (l : List Int) (h : l.length ≤ 1048576) : impl_copied.f l = some l := by
  unfold impl_copied.f
  simp only [Option.bind_some, List.length_nil, List.nil_append]
  rw [if_pos (by omega)]

def laneAfterR (l : List Int) (t : Int) : List Int × Bool := if turnsV l t = true then (itn t.toNat l, true) else ([], false)
theorem laneAfterR_len (l : List Int) (t : Int) : (laneAfterR l t).1.length ≤ 1048576 := by
  unfold laneAfterR
  split
  · rename_i h
    have := turns_of h
    simp only [itn_len]
    omega
  · simp
theorem specLaneAfter_ev (l : List Int) (t : Int) (hl : l.length ≤ 1048576) : Ev (fun k => spec_LaneAfter.f k l t) (laneAfterR l t) := by
  unfold spec_LaneAfter.f laneAfterR
  refine Ev.bind (l8Turns_ev l t) ?_
  cases hv : turnsV l t with
  | true =>
    obtain ⟨hL, n, rfl, hn⟩ := turns_of hv
    simp only [if_true, l1Own_eq l hl, Option.bind_some, Int.toNat_natCast]
    have key := down (P := fun i => Ev (fun k => spec_LaneAfter.l0 k (n : Int) (itn i l) (i : Int)) (itn n l, true)) (n := n)
      (ev_now (fun k => by simp only [spec_LaneAfter.l0]; rw [if_neg (by omega)]))
      (fun i hi ih => by
        have hi2 : (i : Int) < (n : Int) := by omega
        refine Ev.step (f := fun k => (spec_l8Turn.f k (itn i l)).bind fun b => spec_LaneAfter.l0 k (n : Int) b.1 (wrap64 ((i : Int) + 1))) (fun k => by simp only [spec_LaneAfter.l0]; rw [if_pos hi2]) ?_
        refine Ev.bind (l8Turn_ev _ (bits_itn (by omega) hL.1 i) (by rw [itn_len]; omega) (by rw [itn_len]; omega)) ?_
        simp only [w64s hi (show n ≤ 1152921504606846976 by omega)]
        exact ih)
    exact key 0 (by omega)
  | false =>
    simp only [Bool.false_eq_true, if_false]
    exact Ev.now _
theorem implLaneAfter_ev (l : List Int) (t : Int) (hl : l.length ≤ 1048576) : Ev (fun k => impl_LaneAfter.f k l t) (laneAfterR l t) := by
  unfold impl_LaneAfter.f laneAfterR
  refine Ev.bind (isTurns_ev l t hl) ?_
  cases hv : turnsV l t with
  | true =>
    obtain ⟨hL, n, rfl, hn⟩ := turns_of hv
    simp only [if_true, copied_eq l hl, Option.bind_some, Int.toNat_natCast]
    have key := down (P := fun i => Ev (fun k => impl_LaneAfter.l0 k (itn i l) (n : Int) (i : Int)) (itn n l, true)) (n := n)
      (ev_now (fun k => by simp only [impl_LaneAfter.l0]; rw [if_neg (by omega)]))
      (fun i hi ih => by
        have hi2 : (i : Int) < (n : Int) := by omega
        refine Ev.step (f := fun k => (impl_turn.f k (itn i l)).bind fun b => impl_LaneAfter.l0 k b.1 (n : Int) (wrap64 ((i : Int) + 1))) (fun k => by simp only [impl_LaneAfter.l0]; rw [if_pos hi2]) ?_
        refine Ev.bind (turn_ev _ (bits_itn (by omega) hL.1 i) (by rw [itn_len]; omega) (by rw [itn_len]; omega)) ?_
        simp only [w64s hi (show n ≤ 1152921504606846976 by omega)]
        exact ih)
    exact key 0 (by omega)
  | false =>
    simp only [Bool.false_eq_true, if_false]
    exact Ev.now _

def flowsOf (l : List Int) (n : Nat) : List Int := tab n (fun t => fl (itn t l))
def flowsR (l : List Int) (t : Int) : List Int × Bool := if turnsV l t = true then (flowsOf l t.toNat, true) else ([], false)
theorem flowsR_len (l : List Int) (t : Int) : (flowsR l t).1.length ≤ 1048576 := by
  unfold flowsR
  split
  · rename_i h
    have := turns_of h
    obtain ⟨_, n, rfl, hn⟩ := this
    unfold flowsOf
    simp only [tab_len, Int.toNat_natCast]
    omega
  · simp
theorem flowsOf_succ (l : List Int) (i : Nat) : flowsOf l i ++ [fl (itn i l)] = flowsOf l (i + 1) := tab_snoc i (fun t => fl (itn t l))
theorem specFlows_ev (l : List Int) (t : Int) (hl : l.length ≤ 1048576) : Ev (fun k => spec_FlowsOf.f k l t) (flowsR l t) := by
  unfold spec_FlowsOf.f flowsR
  simp only [Option.bind_some]
  refine Ev.bind (l8Turns_ev l t) ?_
  cases hv : turnsV l t with
  | true =>
    obtain ⟨hL, n, rfl, hn⟩ := turns_of hv
    simp only [if_true, l1Own_eq l hl, Option.bind_some, Int.toNat_natCast]
    have key := down (P := fun i => Ev (fun k => spec_FlowsOf.l0 k (n : Int) (flowsOf l i) (itn i l) (i : Int)) (flowsOf l n, true)) (n := n)
      (ev_now (fun k => by simp only [spec_FlowsOf.l0]; rw [if_neg (by omega)]))
      (fun i hi ih => by
        have hi2 : (i : Int) < (n : Int) := by omega
        have hlen : (flowsOf l i).length < 17592186044416 := by unfold flowsOf; rw [tab_len]; omega
        refine Ev.step (f := fun k => (spec_l8Turn.f k (itn i l)).bind fun b => spec_FlowsOf.l0 k (n : Int) (flowsOf l i ++ [b.2]) b.1 (wrap64 ((i : Int) + 1))) (fun k => by simp only [spec_FlowsOf.l0]; rw [if_pos hi2]; simp only [if_pos hlen]) ?_
        refine Ev.bind (l8Turn_ev _ (bits_itn (by omega) hL.1 i) (by rw [itn_len]; omega) (by rw [itn_len]; omega)) ?_
        simp only [w64s hi (show n ≤ 1152921504606846976 by omega), flowsOf_succ]
        exact ih)
    exact key 0 (by omega)
  | false =>
    simp only [Bool.false_eq_true, if_false]
    exact Ev.now _
theorem implFlows_ev (l : List Int) (t : Int) (hl : l.length ≤ 1048576) : Ev (fun k => impl_FlowsOf.f k l t) (flowsR l t) := by
  unfold impl_FlowsOf.f flowsR
  refine Ev.bind (isTurns_ev l t hl) ?_
  cases hv : turnsV l t with
  | true =>
    obtain ⟨hL, n, rfl, hn⟩ := turns_of hv
    simp only [if_true, Int.toNat_natCast]
    have key := down (P := fun i => Ev (fun k => impl_FlowsOf.l0 k (itn i l) (flowsOf l i) (n : Int) (i : Int)) (flowsOf l n, true)) (n := n)
      (ev_now (fun k => by simp only [impl_FlowsOf.l0]; rw [if_neg (by omega)]))
      (fun i hi ih => by
        have hi2 : (i : Int) < (n : Int) := by omega
        have hlen : (flowsOf l i).length < 17592186044416 := by unfold flowsOf; rw [tab_len]; omega
        refine Ev.step (f := fun k => (impl_turn.f k (itn i l)).bind fun b => impl_FlowsOf.l0 k b.1 (flowsOf l i ++ [b.2.2]) (n : Int) (wrap64 ((i : Int) + 1))) (fun k => by simp only [impl_FlowsOf.l0]; rw [if_pos hi2]; simp only [if_pos hlen]) ?_
        refine Ev.bind (turn_ev _ (bits_itn (by omega) hL.1 i) (by rw [itn_len]; omega) (by rw [itn_len]; omega)) ?_
        simp only [w64s hi (show n ≤ 1152921504606846976 by omega), flowsOf_succ]
        exact ih)
    exact key 0 (by omega)
  | false =>
    simp only [Bool.false_eq_true, if_false]
    exact Ev.now _

def plc (l : List Int) (i : Nat) : List Int := ((List.range i).filter (fun p : Nat => decide (cy l (p : Int) = 1))).map (fun p : Nat => (p : Int))
theorem plc_succ (l : List Int) (i : Nat) : plc l (i + 1) = if cy l (i : Int) = 1 then plc l i ++ [(i : Int)] else plc l i := by
  unfold plc
  rw [List.range_succ, List.filter_append, List.map_append]
  by_cases h : cy l (i : Int) = 1
  · rw [if_pos h]; simp [h]
  · rw [if_neg h]; simp [h]
theorem plc_len (l : List Int) (i : Nat) : (plc l i).length ≤ i := by
  unfold plc
  rw [List.length_map]
  have := List.length_filter_le (fun p : Nat => decide (cy l (p : Int) = 1)) (List.range i)
  rw [List.length_range] at this
  exact this
/-- Every entry is a place of a car. -/
def carsAt (l out : List Int) : Prop := ∀ x ∈ out, ∃ p : Nat, x = (p : Int) ∧ p < l.length ∧ cy l (p : Int) = 1
theorem plc_cars (l : List Int) : carsAt l (plc l l.length) := by
  intro x hx
  unfold plc at hx
  simp only [List.mem_map, List.mem_filter, List.mem_range, decide_eq_true_eq] at hx
  obtain ⟨p, ⟨h1, h2⟩, rfl⟩ := hx
  exact ⟨p, rfl, h1, h2⟩
def stepC (l out : List Int) : List Int := out.map (fun x => too l x.toNat)
theorem stepC_len (l out : List Int) : (stepC l out).length = out.length := by simp [stepC]
theorem stepC_cars {l out : List Int} (hb : bit01 l) (h : carsAt l out) : carsAt (nx l) (stepC l out) := by
  intro x hx
  unfold stepC at hx
  simp only [List.mem_map] at hx
  obtain ⟨y, hy, rfl⟩ := hx
  obtain ⟨p, rfl, hp, hc⟩ := h y hy
  have h0 : 0 < l.length := by omega
  rw [Int.toNat_natCast]
  unfold too
  by_cases hM : M l p
  · rw [if_pos hM]
    refine ⟨nxt l.length p, rfl, by rw [nx_len]; exact nxt_lt hp, ?_⟩
    have e : cy l ((nxt l.length p : Nat) : Int) = cy l ((p : Int) + 1) := by rw [cy_nxt hp, cy_in (nxt_lt hp)]
    have e2 : cy l (((nxt l.length p : Nat) : Int) - 1) = cy l (p : Int) := by
      have := (cy_prv (l := l) (q := nxt l.length p) (nxt_lt hp)).1
      rw [prv_nxt hp] at this
      exact this.symm
    rw [cy_nx h0, if_neg (by rw [e]; have := hM.2; omega), e2]
    exact hc
  · rw [if_neg hM]
    refine ⟨p, rfl, by rw [nx_len]; exact hp, ?_⟩
    rw [cy_nx h0, if_pos hc]
    rcases hb ((p : Int) + 1) with a | a
    · exact absurd ⟨hc, a⟩ hM
    · exact a
def cpi : Nat → List Int → List Int → List Int
  | 0, _, o => o
  | t + 1, l, o => stepC (itn t l) (cpi t l o)
theorem cpi_len (t : Nat) (l o : List Int) : (cpi t l o).length = o.length := by
  induction t with
  | zero => rfl
  | succ t ih => show (stepC _ _).length = _; rw [stepC_len, ih]
theorem cpi_cars {l o : List Int} (h0 : 0 < l.length) (hb : bit01 l) (h : carsAt l o) (t : Nat) : carsAt (itn t l) (cpi t l o) := by
  induction t with
  | zero => exact h
  | succ t ih => exact stepC_cars (bits_itn h0 hb t) ih
def carsR (l : List Int) (t : Int) : List Int × Bool := if turnsV l t = true then (cpi t.toNat l (plc l l.length), true) else ([], false)
theorem carsR_len (l : List Int) (t : Int) : (carsR l t).1.length ≤ 1048576 := by
  unfold carsR
  split
  · rename_i h
    have := turns_of h
    have := plc_len l l.length
    simp only [cpi_len]
    omega
  · simp
/-- One turn's loop over the cars. -/
theorem specStep (l out : List Int) (hb : bit01 l) (h2 : 2 ≤ l.length) (hl : l.length ≤ 1048576) (ho : out.length ≤ 1048576) (hc : carsAt l out) (T i R) (hR : Ev (fun k => (spec_l8Turn.f k l).bind fun b => spec_CarPlaces.l1 k T (stepC l out) b.1 (l.length : Int) (wrap64 (i + 1))) R) :
    Ev (fun k => spec_CarPlaces.l2 k T out l (l.length : Int) i 0) R := by
  have key := down (P := fun j => Ev (fun k => spec_CarPlaces.l2 k T (tab out.length (fun q => if q < j then too l (rd out (q : Int)).toNat else rd out (q : Int))) l (l.length : Int) i (j : Int)) R) (n := out.length)
    (by
      refine Ev.step (fun k => ?_) hR
      simp only [spec_CarPlaces.l2, tab_len]
      rw [if_neg (by omega)]
      have e : tab out.length (fun q => if q < out.length then too l (rd out (q : Int)).toNat else rd out (q : Int)) = stepC l out := by
        unfold stepC
        refine Eq.symm (tab_ext (by simp) (fun q hq => ?_))
        rw [if_pos hq, rd_nat, rd_nat, List.getD_eq_getElem?_getD, List.getD_eq_getElem?_getD, List.getElem?_map, List.getElem?_eq_getElem hq]
        rfl
      rw [e])
    (fun j hj ih => by
      obtain ⟨p, e, hp, hc1⟩ := hc _ (mem_of_rd hj)
      have hn := nxt_lt hp
      refine Ev.step (fun k => ?_) ih
      simp only [spec_CarPlaces.l2, tab_len]
      rw [if_pos (by omega), if_pos (by omega), if_neg (by omega), tab_rd hj, if_neg (Nat.lt_irrefl j), e, tmod_nxt hp hl, if_pos (by omega), if_pos (by omega), ← cy_nxt hp, w64s hj (by omega)]
      have key2 : ∀ v : Int, v = too l p → (tab out.length (fun q => if q < j then too l (rd out (q : Int)).toNat else rd out (q : Int))).set j v = tab out.length (fun q => if q < j + 1 then too l (rd out (q : Int)).toNat else rd out (q : Int)) := by
        intro v hv
        rw [tab_set]
        refine tab_congr (fun q hq => ?_)
        by_cases h1 : q = j
        · subst h1; rw [if_pos rfl, if_pos (by omega), e, Int.toNat_natCast]; exact hv
        · rw [if_neg h1]
          by_cases h3 : q < j
          · rw [if_pos h3, if_pos (by omega)]
          · rw [if_neg h3, if_neg (by omega)]
      by_cases hM : cy l ((p : Int) + 1) = 0
      · rw [if_pos hM, Int.toNat_natCast, key2 _ (by unfold too; rw [if_pos (show M l p from ⟨hc1, hM⟩)])]
      · rw [if_neg hM]
        refine congrArg (fun z => spec_CarPlaces.l2 k T z _ _ _ _) ?_
        refine tab_congr (fun q hq => ?_)
        by_cases h1 : q = j
        · subst h1; rw [if_neg (by omega), if_pos (by omega), e, Int.toNat_natCast]; unfold too; rw [if_neg (fun a => hM a.2)]
        · by_cases h3 : q < j
          · rw [if_pos h3, if_pos (by omega)]
          · rw [if_neg h3, if_neg (by omega)])
  have k0 := key 0 (by omega)
  have e0 : tab out.length (fun q => if q < 0 then too l (rd out (q : Int)).toNat else rd out (q : Int)) = out := by
    refine Eq.trans (tab_congr (fun q _ => ?_)) (tab_of out).symm
    rw [if_neg (by omega)]
  rw [e0] at k0
  exact k0
theorem specCars_ev (l : List Int) (t : Int) (hl : l.length ≤ 1048576) : Ev (fun k => spec_CarPlaces.f k l t) (carsR l t) := by
  unfold spec_CarPlaces.f carsR
  simp only [Option.bind_some]
  refine Ev.bind (l8Turns_ev l t) ?_
  cases hv : turnsV l t with
  | true =>
    obtain ⟨hL, n, rfl, hn⟩ := turns_of hv
    have hpl := plc_len l l.length
    simp only [if_true, Int.toNat_natCast]
    have key2 := down (P := fun i => Ev (fun k => spec_CarPlaces.l1 k (n : Int) (cpi i l (plc l l.length)) (itn i l) (l.length : Int) (i : Int)) (cpi n l (plc l l.length), true)) (n := n)
      (ev_now (fun k => by simp only [spec_CarPlaces.l1]; rw [if_neg (by omega)]))
      (fun i hi ih => by
        refine Ev.step (f := fun k => spec_CarPlaces.l2 k (n : Int) (cpi i l (plc l l.length)) (itn i l) (l.length : Int) (i : Int) 0) (fun k => by simp only [spec_CarPlaces.l1]; rw [if_pos (show (i : Int) < (n : Int) by omega)]) ?_
        have hb := bits_itn (by omega) hL.1 i
        have s := specStep (itn i l) (cpi i l (plc l l.length)) hb (by rw [itn_len]; omega) (by rw [itn_len]; omega) (by rw [cpi_len]; omega) (cpi_cars (by omega) hL.1 (plc_cars l) i) (n : Int) (i : Int) (cpi n l (plc l l.length), true)
          (Ev.bind (l8Turn_ev _ hb (by rw [itn_len]; omega) (by rw [itn_len]; omega)) (by
            simp only [w64s hi (show n ≤ 1152921504606846976 by omega), itn_len]
            exact ih))
        rw [itn_len] at s
        exact s)
    have key := down (P := fun i => Ev (fun k => spec_CarPlaces.l0 k l (n : Int) (plc l i) (i : Int)) (cpi n l (plc l l.length), true)) (n := l.length)
      (by
        refine Ev.step (fun k => ?_) (key2 0 (by omega))
        simp only [spec_CarPlaces.l0]
        rw [if_neg (by omega), l1Own_eq l hl, Option.bind_some]
        rfl)
      (fun i hi ih => by
        have hj := plc_len l i
        refine Ev.step (fun k => ?_) ih
        simp only [spec_CarPlaces.l0]
        rw [if_pos (by omega), if_pos (by omega), ← cy_in hi, w64s hi (by omega), plc_succ]
        by_cases h1 : cy l (i : Int) = 1
        · rw [if_pos h1, if_pos h1, if_pos (by omega)]
        · rw [if_neg h1, if_neg h1])
    exact key 0 (by omega)
  | false =>
    simp only [Bool.false_eq_true, if_false]
    exact Ev.now _
theorem implCars_ev (l : List Int) (t : Int) (hl : l.length ≤ 1048576) : Ev (fun k => impl_CarPlaces.f k l t) (carsR l t) := by
  unfold impl_CarPlaces.f carsR
  refine Ev.bind (isTurns_ev l t hl) ?_
  cases hv : turnsV l t with
  | true =>
    obtain ⟨hL, n, rfl, hn⟩ := turns_of hv
    have hpl := plc_len l l.length
    simp only [if_true, Int.toNat_natCast]
    have key2 := down (P := fun i => Ev (fun k => impl_CarPlaces.l1 k (itn i l) (cpi i l (plc l l.length)) (n : Int) (i : Int)) (cpi n l (plc l l.length), true)) (n := n)
      (ev_now (fun k => by simp only [impl_CarPlaces.l1]; rw [if_neg (by omega)]))
      (fun i hi ih => by
        refine Ev.step (f := fun k => (impl_turn.f k (itn i l)).bind fun b => (mapped_54.f k (cpi i l (plc l l.length)) b.2.1).bind fun c => impl_CarPlaces.l1 k b.1 c (n : Int) (wrap64 ((i : Int) + 1))) (fun k => by simp only [impl_CarPlaces.l1]; rw [if_pos (show (i : Int) < (n : Int) by omega)]) ?_
        refine Ev.bind (turn_ev _ (bits_itn (by omega) hL.1 i) (by rw [itn_len]; omega) (by rw [itn_len]; omega)) ?_
        refine Ev.bind (g := fun k => mapped_54.f k (cpi i l (plc l l.length)) (tab (itn i l).length (too (itn i l)))) (mapped_ev _ (fun x => too (itn i l) x.toNat) _ (by rw [cpi_len]; omega) (fun x hx => ?_)) ?_
        · obtain ⟨p, rfl, hp, _⟩ := cpi_cars (by omega) hL.1 (plc_cars l) i x hx
          unfold atG
          rw [tab_len, if_pos ⟨by omega, by omega⟩, tab_rd hp, Int.toNat_natCast]
        · simp only [w64s hi (show n ≤ 1152921504606846976 by omega)]
          exact ih)
    have key := down (P := fun i => Ev (fun k => impl_CarPlaces.l0 k l (n : Int) (plc l i) l (l.length : Int) (i : Int)) (cpi n l (plc l l.length), true)) (n := l.length)
      (by
        refine Ev.step (fun k => ?_) (key2 0 (by omega))
        simp only [impl_CarPlaces.l0]
        rw [if_neg (by omega)]
        rfl)
      (fun i hi ih => by
        have hj := plc_len l i
        refine Ev.step (fun k => ?_) ih
        simp only [impl_CarPlaces.l0]
        rw [if_pos (by omega), if_pos (by omega), if_pos (by omega), ← cy_in hi, w64s hi (by omega), plc_succ]
        by_cases h1 : cy l (i : Int) = 1
        · rw [if_pos h1, if_pos h1, if_pos (by omega)]
        · rw [if_neg h1, if_neg h1])
    exact key 0 (by omega)
  | false =>
    simp only [Bool.false_eq_true, if_false]
    exact Ev.now _

theorem and255w (x : Int) : 0 ≤ wrap64 (Go.bits .and .u64 (IntKind.u64.wrap x / 1099511627776) 255) ∧ wrap64 (Go.bits .and .u64 (IntKind.u64.wrap x / 1099511627776) 255) ≤ 255 := by
  have := and255 x
  rw [w64 (by omega) (by omega)]
  exact this
theorem cur_next {l : List Int} (hb : ∀ x ∈ l, 0 ≤ x ∧ x ≤ 255) (s1 s2 : Int) (h0 : 0 ≤ s1) (h1 : s1 ≤ 1000000) : ∃ v s, spec_l1Cur_next.f l s1 s2 = some (v, s1 + 1, s) ∧ 0 ≤ v ∧ v ≤ 255 := by
  unfold spec_l1Cur_next.f
  rw [w64 (x := s1 + 1) (by omega) (by omega)]
  by_cases c : s1 < (l.length : Int)
  · have hm : rd l s1 ∈ l := by
      obtain ⟨n, rfl⟩ := Int.eq_ofNat_of_zero_le h0
      unfold rd
      rw [Int.toNat_natCast, List.getD_eq_getElem?_getD, List.getElem?_eq_getElem (by omega)]
      exact List.getElem_mem _
    have hv := hb _ hm
    rw [if_pos c, if_pos h0, if_pos (by omega)]
    exact ⟨_, _, rfl, by rw [w64 (by omega) (by omega)]; exact hv⟩
  · rw [if_neg c, if_neg (by omega)]
    exact ⟨_, _, rfl, and255w _⟩
theorem cur_pick {l : List Int} (hb : ∀ x ∈ l, 0 ≤ x ∧ x ≤ 255) (s1 s2 a : Int) (h0 : 0 ≤ s1) (h1 : s1 ≤ 1000000) (ha : 2 ≤ a ∧ a ≤ 200) : ∃ v s, spec_l1Cur_pick.f l s1 s2 a = some (v, s1 + 1, s) ∧ 0 ≤ v ∧ v < a := by
  obtain ⟨v, s, h, v0, v1⟩ := cur_next hb s1 s2 h0 h1
  unfold spec_l1Cur_pick.f
  rw [if_neg (by omega), h]
  simp only [Option.bind_some]
  rw [if_neg (by omega), if_neg (by omega)]
  exact ⟨_, _, rfl, Int.tmod_nonneg _ v0, Int.tmod_lt_of_pos _ (by omega)⟩
theorem cur_among {l : List Int} (hb : ∀ x ∈ l, 0 ≤ x ∧ x ≤ 255) (s1 s2 : Int) (L : List Int) (h0 : 0 ≤ s1) (h1 : s1 ≤ 1000000) (ha : 2 ≤ L.length ∧ L.length ≤ 200) : ∃ v s, spec_l1Cur_among.f l s1 s2 L = some (v, s1 + 1, s) ∧ v ∈ L := by
  obtain ⟨v, s, h, v0, v1⟩ := cur_pick hb s1 s2 (L.length : Int) h0 h1 (by omega)
  unfold spec_l1Cur_among.f
  rw [h]
  simp only [Option.bind_some]
  rw [if_pos v0, if_pos v1]
  refine ⟨_, _, rfl, ?_⟩
  obtain ⟨n, rfl⟩ := Int.eq_ofNat_of_zero_le v0
  unfold rd
  rw [Int.toNat_natCast, List.getD_eq_getElem?_getD, List.getElem?_eq_getElem (by omega)]
  exact List.getElem_mem _
theorem cur_one {l : List Int} (hb : ∀ x ∈ l, 0 ≤ x ∧ x ≤ 255) (s1 s2 a : Int) (h0 : 0 ≤ s1) (h1 : s1 ≤ 1000000) (ha : 2 ≤ a ∧ a ≤ 200) : ∃ b s, spec_l1Cur_one.f l s1 s2 a = some (b, s1 + 1, s) := by
  obtain ⟨v, s, h, v0, v1⟩ := cur_pick hb s1 s2 a h0 h1 ha
  unfold spec_l1Cur_one.f
  rw [h]
  exact ⟨_, _, rfl⟩

def lnOk (f : Nat → Option (List Int × Int × Int)) : Prop := ∃ r, Ev f r ∧ r.1.length ≤ 1000 ∧ 0 ≤ r.2.1 ∧ r.2.1 ≤ 1000
theorem ln_l2 (l : List Int) (s1 s2 : Int) (h0 : 0 ≤ s1 ∧ s1 ≤ 1000) : ∀ (m : Nat) (x : List Int), x.length ≤ 100 → 25 - x.length ≤ m → lnOk (fun k => spec_l1Cur_lane.l2 k x l s1 s2)
  | 0, x, hl, hm => ⟨(x, s1, s2), ev_now (fun k => by simp only [spec_l1Cur_lane.l2]; rw [if_neg (by omega)]), by simp only; omega, h0⟩
  | m + 1, x, hl, hm => by
    by_cases c : (x.length : Int) < 25
    · obtain ⟨r, h, hr⟩ := ln_l2 l s1 s2 h0 m (x ++ [0]) (by simp; omega) (by simp; omega)
      exact ⟨r, Ev.step (fun k => by simp only [spec_l1Cur_lane.l2]; rw [if_pos c, if_pos (by omega)]) h, hr⟩
    · exact ⟨(x, s1, s2), ev_now (fun k => by simp only [spec_l1Cur_lane.l2]; rw [if_neg c]), by simp only; omega, h0⟩
theorem ln_j2 {l : List Int} (hb : ∀ x ∈ l, 0 ≤ x ∧ x ≤ 255) (x : List Int) (hx : 2 ≤ x.length ∧ x.length ≤ 100) (s1 s2 : Int) (h0 : 0 ≤ s1 ∧ s1 ≤ 900) : lnOk (fun k => spec_l1Cur_lane.j2 k x l s1 s2) := by
  obtain ⟨v, s, hp, v0, v1⟩ := cur_pick hb s1 s2 50 h0.1 (by omega) (by omega)
  by_cases c0 : v = 0
  · obtain ⟨u, t, ha, _⟩ := cur_among hb (s1 + 1) s [2, (-1)] (by omega) (by omega) (by simp)
    exact ⟨(x.set (0 : Int).toNat u, s1 + 1 + 1, t), ev_now (fun k => by
      simp only [spec_l1Cur_lane.j2, hp, Option.bind_some]
      rw [if_pos c0, ha]
      simp only [Option.bind_some]
      rw [if_pos (by omega)]), by rw [List.length_set]; omega, by simp only; omega⟩
  · by_cases c1 : v = 1
    · exact ⟨(x.take (2 : Int).toNat, s1 + 1, s), ev_now (fun k => by
        simp only [spec_l1Cur_lane.j2, hp, Option.bind_some]
        rw [if_neg c0, if_pos c1, if_pos (by omega)]), by rw [List.length_take]; omega, by simp only; omega⟩
    · by_cases c2 : v = 2
      · obtain ⟨r, h, hr⟩ := ln_l2 l (s1 + 1) s (by omega) 25 x hx.2 (by omega)
        exact ⟨r, Ev.step (fun k => by
          simp only [spec_l1Cur_lane.j2, hp, Option.bind_some]
          rw [if_neg c0, if_neg c1, if_pos c2]) h, hr⟩
      · exact ⟨(x, s1 + 1, s), ev_now (fun k => by
          simp only [spec_l1Cur_lane.j2, hp, Option.bind_some]
          rw [if_neg c0, if_neg c1, if_neg c2]), by simp only; omega, by simp only; omega⟩
theorem ln_l1 {l : List Int} (hb : ∀ x ∈ l, 0 ≤ x ∧ x ≤ 255) (s1 s2 : Int) (h0 : 0 ≤ s1 ∧ s1 ≤ 900) : ∀ (m : Nat) (x : List Int) (i : Nat), (2 ≤ x.length ∧ x.length ≤ 100) → x.length - i ≤ m → lnOk (fun k => spec_l1Cur_lane.l1 k x (i : Int) l s1 s2)
  | 0, x, i, hx, hm => by
    obtain ⟨r, h, hr⟩ := ln_j2 hb x hx s1 s2 h0
    exact ⟨r, Ev.step (fun k => by simp only [spec_l1Cur_lane.l1]; rw [if_neg (by omega)]) h, hr⟩
  | m + 1, x, i, hx, hm => by
    by_cases c : i < x.length
    · obtain ⟨r, h, hr⟩ := ln_l1 hb s1 s2 h0 m (x.set (i : Int).toNat (wrap64 (1 - rd x (i : Int)))) (i + 1) (by rw [List.length_set]; exact hx) (by rw [List.length_set]; omega)
      exact ⟨r, Ev.step (fun k => by simp only [spec_l1Cur_lane.l1]; rw [if_pos (by omega), if_pos (by omega), w64s c (by omega)]) h, hr⟩
    · obtain ⟨r, h, hr⟩ := ln_j2 hb x hx s1 s2 h0
      exact ⟨r, Ev.step (fun k => by simp only [spec_l1Cur_lane.l1]; rw [if_neg (by omega)]) h, hr⟩
theorem ln_l0 {l : List Int} (hb : ∀ x ∈ l, 0 ≤ x ∧ x ≤ 255) (a : Int) (ha : 2 ≤ a ∧ a ≤ 200) : ∀ (c : Nat) (x : List Int) (s1 s2 : Int), (2 ≤ x.length + c ∧ x.length + c ≤ 100) → 0 ≤ s1 → s1 + c ≤ 800 → lnOk (fun k => spec_l1Cur_lane.l0 k x a (c : Int) l s1 s2)
  | 0, x, s1, s2, hx, h0, h1 => by
    obtain ⟨b, s, ho⟩ := cur_one hb s1 s2 3 h0 (by omega) (by omega)
    cases b with
    | true =>
      obtain ⟨r, h, hr⟩ := ln_l1 hb (s1 + 1) s (by omega) x.length x 0 (by omega) (by omega)
      exact ⟨r, Ev.step (fun k => by
        simp only [spec_l1Cur_lane.l0, ho, Option.bind_some]
        rw [if_neg (by omega), if_pos True.intro]
        first | done | rfl) h, hr⟩
    | false =>
      obtain ⟨r, h, hr⟩ := ln_j2 hb x (by omega) (s1 + 1) s (by omega)
      exact ⟨r, Ev.step (fun k => by
        simp only [spec_l1Cur_lane.l0, ho, Option.bind_some]
        rw [if_neg (by omega), if_neg (by simp)]) h, hr⟩
  | c + 1, x, s1, s2, hx, h0, h1 => by
    obtain ⟨b, s, ho⟩ := cur_one hb s1 s2 a h0 (by omega) ha
    have e : wrap64 (((c + 1 : Nat) : Int) - 1) = (c : Int) := by rw [w64 (by omega) (by omega)]; omega
    cases b with
    | true =>
      obtain ⟨r, h, hr⟩ := ln_l0 hb a ha c (x ++ [1]) (s1 + 1) s (by simp; omega) (by omega) (by omega)
      exact ⟨r, Ev.step (fun k => by
        simp only [spec_l1Cur_lane.l0, ho, Option.bind_some, e]
        rw [if_pos (by omega), if_pos True.intro, if_pos (by omega)]) h, hr⟩
    | false =>
      obtain ⟨r, h, hr⟩ := ln_l0 hb a ha c (x ++ [0]) (s1 + 1) s (by simp; omega) (by omega) (by omega)
      exact ⟨r, Ev.step (fun k => by
        simp only [spec_l1Cur_lane.l0, ho, Option.bind_some, e]
        rw [if_pos (by omega), if_neg (by simp), if_pos (by omega)]) h, hr⟩
theorem lane_ok {l : List Int} (hb : ∀ x ∈ l, 0 ≤ x ∧ x ≤ 255) : lnOk (fun k => spec_l1Cur_lane.f k l 0 0) := by
  obtain ⟨v, s, hp, v0, v1⟩ := cur_pick hb 0 0 3 (by omega) (by omega) (by omega)
  obtain ⟨u, t, ha, hu⟩ := cur_among hb (0 + 1) s [6, 8, 5, 10, 3, 4, 13, 24] (by omega) (by omega) (by simp)
  have hu2 : 3 ≤ u ∧ u ≤ 24 := by
    simp only [List.mem_cons, List.not_mem_nil, or_false] at hu
    omega
  obtain ⟨n, rfl⟩ := Int.eq_ofNat_of_zero_le (show 0 ≤ u by omega)
  obtain ⟨r, h, hr⟩ := ln_l0 hb (wrap64 (2 + v)) (by rw [w64 (by omega) (by omega)]; omega) n [] (0 + 1 + 1) t (by simp; omega) (by omega) (by omega)
  refine ⟨r, ?_, hr⟩
  unfold spec_l1Cur_lane.f
  simp only [hp, ha, Option.bind_some]
  exact h
theorem drawTurnLane_ok {l : List Int} (hb : ∀ x ∈ l, 0 ≤ x ∧ x ≤ 255) : ∃ r : List Int, Ev (fun k => spec_DrawTurnLane.f k l) r ∧ r.length ≤ 1000 := by
  obtain ⟨r, h, hr, _⟩ := lane_ok hb
  refine ⟨r.1, ?_, hr⟩
  unfold spec_DrawTurnLane.f spec_DrawIsLane.f
  exact Ev.bind (Ev.bind h (Ev.now _)) (Ev.now _)
theorem drawLaneAfter_ok {l : List Int} (hb : ∀ x ∈ l, 0 ≤ x ∧ x ≤ 255) : ∃ r : List Int × Int, Ev (fun k => spec_DrawLaneAfter.f k l) r ∧ r.1.length ≤ 1000 := by
  obtain ⟨r, h, hr, h0, h1⟩ := lane_ok hb
  obtain ⟨u, t, ha, hu⟩ := cur_among hb r.2.1 r.2.2 [3, 5, 8, 1, 0, 12, 60, 61, (-1), 30] h0 (by omega) (by simp)
  refine ⟨(r.1, u), ?_, hr⟩
  unfold spec_DrawLaneAfter.f spec_l1Cur_turns.f
  refine Ev.bind h ?_
  simp only [ha, Option.bind_some]
  exact Ev.now _

theorem rInts_self (l : List Int) (hl : l.length ≤ 1048576) : Ev (fun k => laws_rInts.f k l l) true := by
  unfold laws_rInts.f
  refine ev_pos rfl ?_
  have key := down (P := fun i => Ev (fun k => laws_rInts.l0 k l l (i : Int)) true) (n := l.length)
    (ev_now (fun k => by simp only [laws_rInts.l0]; rw [if_neg (by omega)]))
    (fun i hi ih => Ev.step (fun k => by
      simp only [laws_rInts.l0]
      rw [if_pos (by omega), if_pos (by omega), if_pos (by omega), w64s hi (by omega)]
      simp) ih)
  exact key 0 (by omega)
theorem rSum_ev (l : List Int) (hb : bit01 l) (hl : l.length ≤ 1000) : Ev (fun k => laws_rSum.f k l) (cars l) := by
  unfold laws_rSum.f
  have key := down (P := fun i => Ev (fun k => laws_rSum.l0 k l (sm i (fun p => cy l (p : Int))) (i : Int)) (cars l)) (n := l.length)
    (ev_now (fun k => by simp only [laws_rSum.l0]; rw [if_neg (by omega)]; rfl))
    (fun i hi ih => Ev.step (fun k => by
      have h1 := cars_bound hb i
      have h2 := hb (i : Int)
      simp only [laws_rSum.l0]
      rw [if_pos (by omega), if_pos (by omega), w64s hi (by omega), ← cy_in hi, w64 (by omega) (by omega)]
      rfl) ih)
  exact key 0 (by omega)
theorem V_of {a : List Int} (hb : bit01 a) (h3 : 3 ≤ a.length) (h4 : a.length ≤ 24) : (inAll 0 1 a && inR 3 24 (a.length : Int)) = true := by
  rw [Bool.and_eq_true, inAll_iff, inR_iff]
  refine ⟨fun x hx => ?_, by omega, by omega⟩
  obtain ⟨i, hi, rfl⟩ := rd_of_mem hx
  rw [← cy_in hi]
  rcases hb (i : Int) with h | h <;> rw [h] <;> omega
theorem cy_turned {l : List Int} (hb : bit01 l) (h0 : 0 < l.length) (q : Int) : cy (turnedL l) q = 1 - cy l (-1 - q) := by
  have h1 := Int.emod_nonneg q (b := (l.length : Int)) (by omega)
  have h2 := Int.emod_lt_of_pos q (b := (l.length : Int)) (by omega)
  have h3 := Int.emod_add_mul_ediv q (l.length : Int)
  obtain ⟨i, hi⟩ := Int.eq_ofNat_of_zero_le h1
  have e : cy (turnedL l) q = rd (turnedL l) (q % (l.length : Int)) := by unfold cy; rw [show (turnedL l).length = l.length from tab_len _ _]
  rw [e, hi]
  unfold turnedL
  rw [tab_rd (by omega), ← cy_in (by omega)]
  have e2 : cy l ((l.length - 1 - i : Nat) : Int) = cy l (-1 - q) := by
    rw [← cy_add l (-1 - q) (q / (l.length : Int) + 1)]
    congr 1
    rw [Int.add_mul, Int.mul_comm (q / (l.length : Int))]
    omega
  rw [e2]
  rcases hb (-1 - q) with h | h <;> rw [h] <;> exact w64 (by omega) (by omega)
theorem bits_turned {l : List Int} (hb : bit01 l) (h0 : 0 < l.length) : bit01 (turnedL l) := by
  intro p
  rw [cy_turned hb h0]
  rcases hb (-1 - p) with h | h <;> rw [h] <;> omega
theorem turned_len (l : List Int) : (turnedL l).length = l.length := tab_len _ _
theorem eq_of_cy {a b : List Int} (hl : a.length = b.length) (h : ∀ q : Nat, q < a.length → cy a (q : Int) = cy b (q : Int)) : a = b := by
  have ha := tab_of a
  have hb := tab_of b
  refine ha.trans (Eq.trans ?_ hb.symm)
  rw [hl]
  exact tab_congr (fun q hq => by rw [← cy_in (by omega), ← cy_in hq, h q (by omega)])
theorem turned_nx {l : List Int} (hb : bit01 l) (h0 : 0 < l.length) : nx (turnedL l) = turnedL (nx l) := by
  refine eq_of_cy (by rw [nx_len, turned_len, turned_len, nx_len]) (fun q hq => ?_)
  rw [cy_nx (by rw [turned_len]; exact h0), cy_turned (bits_nx h0 hb) (by rw [nx_len]; exact h0), cy_turned hb h0, cy_turned hb h0, cy_turned hb h0, cy_nx h0]
  rw [show (-1 - ((q : Int) + 1)) = -1 - (q : Int) - 1 by omega, show (-1 - ((q : Int) - 1)) = -1 - (q : Int) + 1 by omega]
  rcases hb (-1 - (q : Int)) with h | h <;> rw [h] <;> simp
theorem sm_front (n : Nat) (f : Nat → Int) : sm (n + 1) f = f 0 + sm n (fun p => f (p + 1)) := by
  rw [sm_shift, sm_succ]
  omega
theorem sm_rev : ∀ (n : Nat) (f : Nat → Int), sm n (fun p => f (n - 1 - p)) = sm n f
  | 0, _ => rfl
  | n + 1, f => by
    rw [sm_front, sm_succ, ← sm_rev n f]
    have e : sm n (fun p => f (n + 1 - 1 - (p + 1))) = sm n (fun p => f (n - 1 - p)) := sm_congr (fun q _ => by rw [show n + 1 - 1 - (q + 1) = n - 1 - q by omega])
    rw [e]
    have e2 : f (n + 1 - 1 - 0) = f n := by rw [show n + 1 - 1 - 0 = n by omega]
    rw [e2]
    omega
def mvF (l : List Int) (x : Int) : Int := if cy l x = 1 ∧ cy l (x + 1) = 0 then 1 else 0
theorem mvF_per (l : List Int) (x k : Int) : mvF l (x + k * (l.length : Int)) = mvF l x := by
  unfold mvF
  rw [cy_add, show x + k * (l.length : Int) + 1 = (x + 1) + k * (l.length : Int) by omega, cy_add]
theorem fl_turned {l : List Int} (hb : bit01 l) (h0 : 0 < l.length) : fl (turnedL l) = fl l := by
  have a1 : fl (turnedL l) = sm l.length (fun p => mvF l (-2 - (p : Int))) := by
    unfold fl
    rw [turned_len]
    refine sm_congr (fun q _ => ?_)
    rw [cy_turned hb h0, cy_turned hb h0, show (-1 - ((q : Int) + 1)) = -2 - (q : Int) by omega]
    unfold mvF
    rw [show -2 - (q : Int) + 1 = -1 - (q : Int) by omega]
    rcases hb (-1 - (q : Int)) with h | h <;> rcases hb (-2 - (q : Int)) with h' | h' <;> rw [h, h'] <;> simp
  have a2 : sm l.length (fun p => mvF l (-2 - (p : Int))) = sm l.length (fun p : Nat => mvF l ((p : Int) - 1)) := by
    rw [← sm_rev l.length (fun p => mvF l (-2 - (p : Int)))]
    refine sm_congr (fun q hq => ?_)
    rw [← mvF_per l (-2 - ((l.length - 1 - q : Nat) : Int)) 1]
    congr 1
    omega
  have a3 := sm_cy_shift l (fun x => mvF l (x - 1)) (by
    have := mvF_per l (0 - 1) 1
    rw [show (l.length : Int) - 1 = 0 - 1 + 1 * (l.length : Int) by omega]
    exact this)
  rw [a1, a2, ← a3]
  refine sm_congr (fun q _ => ?_)
  rw [show (q : Int) + 1 - 1 = (q : Int) by omega]
  rfl
theorem jams_sm (l : List Int) : ∀ i, ((jams l i).length : Int) = sm i (fun p => jm l (p : Int))
  | 0 => rfl
  | i + 1 => by
    rw [jams_succ, sm_succ, ← jams_sm l i]
    unfold jm
    split
    · rw [List.length_append, List.length_singleton]; omega
    · omega
theorem fl_jams {m : List Int} (hm : bit01 m) : ((jams m m.length).length : Int) + fl m = cars m := by
  rw [jams_sm]
  unfold cars fl
  rw [← sm_add]
  refine sm_congr (fun q _ => ?_)
  rcases hm (q : Int) with x | x <;> rcases hm ((q : Int) + 1) with y | y <;> simp [jm, x, y]
theorem plc_sm {l : List Int} (hb : bit01 l) : ∀ i, ((plc l i).length : Int) = sm i (fun p => cy l (p : Int))
  | 0 => rfl
  | i + 1 => by
    rw [plc_succ, sm_succ, ← plc_sm hb i]
    rcases hb (i : Int) with h | h
    · rw [h, if_neg (by omega)]; omega
    · rw [h, if_pos rfl, List.length_append, List.length_singleton]; omega
theorem fl_top {l : List Int} (h0 : 0 < l.length) (hb : bit01 l) (t : Nat) : fl (itn t l) ≤ mn (cars l) ((l.length : Int) - cars l) := by
  have h1 := fl_le_cars (bits_itn h0 hb t)
  have h2 := fl_le_free (bits_itn h0 hb t)
  rw [cars_itn h0 hb] at h1 h2
  rw [itn_len] at h2
  have := mn_le (cars l) ((l.length : Int) - cars l)
  omega

theorem lanes_j11 (l : List Int) (n : Int) (hl : l.length ≤ 1000) (c : Int) (hc : 2 * c ≤ l.length ∧ 0 ≤ c) : Ev (fun k => laws_FnLanes.j11 k l (turnLaneR l).1 (turnLaneR l).2.1 (turnLaneR l).2.2 c (turnAroundR l).1 (jamsR l).1) true := by
  cases hv : (inAll 0 1 l && inR 3 24 (l.length : Int)) with
  | false =>
    have e : (turnLaneR l).2.2 = false := by unfold turnLaneR; rw [hv]; rfl
    rw [e]
    exact ev_now (fun k => by simp only [laws_FnLanes.j11]; rw [if_neg (by simp)])
  | true =>
    obtain ⟨hb, h3, h4⟩ := lane_of hv
    have h0 : 0 < l.length := by omega
    have e1 : turnLaneR l = (nx l, fl l, true) := by unfold turnLaneR; rw [hv]; rfl
    have e2 : turnAroundR l = (turnedL l, true) := by unfold turnAroundR; rw [hv]; rfl
    have e3 : jamsR l = (jams l l.length, true) := by unfold jamsR; rw [hv]; rfl
    have e4 : turnLaneR (turnedL l) = (nx (turnedL l), fl (turnedL l), true) := by unfold turnLaneR; rw [V_of (bits_turned hb h0) (by rw [turned_len]; exact h3) (by rw [turned_len]; exact h4)]; rfl
    have e5 : turnAroundR (nx l) = (turnedL (nx l), true) := by unfold turnAroundR; rw [V_of (bits_nx h0 hb) (by rw [nx_len]; exact h3) (by rw [nx_len]; exact h4)]; rfl
    rw [e1, e2, e3]
    have t1 := implTurnLane_ev (turnedL l) (by rw [turned_len]; omega)
    have t2 := implTurnAround_ev (nx l) (by rw [nx_len]; omega)
    rw [e4, turned_nx hb h0, fl_turned hb h0] at t1
    rw [e5] at t2
    refine Ev.step (fun k => by simp only [laws_FnLanes.j11]; rw [if_pos True.intro]) ?_
    refine Ev.bind t1 (Ev.bind t2 ?_)
    refine ev_pos rfl (ev_pos rfl (ev_pos rfl ?_))
    refine Ev.bind (rInts_self _ (by rw [turned_len, nx_len]; omega)) (ev_pos rfl ?_)
    refine Ev.bind (rSum_ev l hb hl) ?_
    have hj := fl_jams hb
    have hj2 := jams_len l l.length
    have hf := fp_bound l l.length
    have hcb := cars_bound hb l.length
    refine ev_pos (by rw [hj, w64 (by unfold cars; omega) (by unfold cars; omega)]) ?_
    refine Ev.bind (rSum_ev (nx l) (bits_nx h0 hb) (by rw [nx_len]; exact hl)) (Ev.bind (rSum_ev l hb hl) ?_)
    refine ev_pos (cars_nx h0 hb) ?_
    rw [w64 (by omega) (by omega), decide_eq_true hc.1]
    exact Ev.now _
theorem lanes_l1 (l : List Int) (hb : bit01 l) (h0 : 0 < l.length) (hl : l.length ≤ 1000) (n : Nat) (hn : n ≤ 60) (x3 x4 : List Int) (x5 : Int) (x6 : Bool) (x14 : Int) (x18 x22 : List Int) (h : Ev (fun k => laws_FnLanes.j11 k x3 x4 x5 x6 x14 x18 x22) true) :
    Ev (fun k => laws_FnLanes.l1 k x3 x4 x5 x6 x14 x18 x22 l (flowsOf l n) (mn (cars l) ((l.length : Int) - cars l)) 0) true := by
  have e0 : (flowsOf l n).length = n := tab_len _ _
  have er : ∀ t : Nat, t < n → rd (flowsOf l n) (t : Int) = fl (itn t l) := fun t ht => tab_rd ht
  have key := down (P := fun i => Ev (fun k => laws_FnLanes.l1 k x3 x4 x5 x6 x14 x18 x22 l (flowsOf l n) (mn (cars l) ((l.length : Int) - cars l)) (i : Int)) true) (n := n)
    (Ev.step (fun k => by simp only [laws_FnLanes.l1]; rw [if_neg (by omega)]) h)
    (fun i hi ih => by
      have e2 : wrap64 (2 * (i : Int)) = 2 * (i : Int) := w64 (by omega) (by omega)
      refine Ev.step (fun k => ?_) ih
      simp only [laws_FnLanes.l1]
      rw [if_pos (by omega), if_pos (by omega), er i hi, if_neg (by have := fl_top h0 hb i; omega), e2, w64s hi (by omega)]
      have hlast : 2 * (i : Int) ≥ (l.length : Int) → fl (itn i l) = mn (cars l) ((l.length : Int) - cars l) := fun hh => fl_last h0 hb i (by omega)
      have hend : (if 2 * (i : Int) ≥ (l.length : Int) then (if fl (itn i l) = mn (cars l) ((l.length : Int) - cars l) then laws_FnLanes.l1 k x3 x4 x5 x6 x14 x18 x22 l (flowsOf l n) (mn (cars l) ((l.length : Int) - cars l)) ((i + 1 : Nat) : Int) else some false) else laws_FnLanes.l1 k x3 x4 x5 x6 x14 x18 x22 l (flowsOf l n) (mn (cars l) ((l.length : Int) - cars l)) ((i + 1 : Nat) : Int)) = laws_FnLanes.l1 k x3 x4 x5 x6 x14 x18 x22 l (flowsOf l n) (mn (cars l) ((l.length : Int) - cars l)) ((i + 1 : Nat) : Int) := by
        by_cases hh : 2 * (i : Int) ≥ (l.length : Int)
        · rw [if_pos hh, if_pos (hlast hh)]
        · rw [if_neg hh]
      by_cases hi0 : i = 0
      · subst hi0
        rw [if_neg (by omega)]
        exact hend
      · obtain ⟨j, rfl⟩ : ∃ j, i = j + 1 := ⟨i - 1, by omega⟩
        have e3 : wrap64 (((j + 1 : Nat) : Int) - 1) = (j : Int) := by rw [w64 (by omega) (by omega)]; omega
        have hmono : fl (itn j l) ≤ fl (itn (j + 1) l) := fl_mono (by rw [itn_len]; exact h0) (bits_itn h0 hb j)
        rw [if_pos (by omega), e3, if_pos (by omega), if_pos (by omega), er j (by omega), if_neg (by omega)]
        exact hend)
  exact key 0 (by omega)
theorem lanes_l0 (l : List Int) (hb : bit01 l) (h0 : 0 < l.length) (hl : l.length ≤ 1000) (n m : Nat) (x3 x4 : List Int) (x5 : Int) (x6 : Bool) (x14 : Int) (x18 x22 x32 : List Int) (x40 : Int) (h : Ev (fun k => laws_FnLanes.l1 k x3 x4 x5 x6 x14 x18 x22 l x32 x40 0) true) :
    Ev (fun k => laws_FnLanes.l0 k x3 x4 x5 x6 x14 x18 x22 l (itn n l) x32 (cpi n l (plc l l.length)) x40 0) true := by
  have hc := cpi_cars h0 hb (plc_cars l) n
  have hlen : (cpi n l (plc l l.length)).length ≤ l.length := by rw [cpi_len]; exact plc_len _ _
  have key := down (P := fun i => Ev (fun k => laws_FnLanes.l0 k x3 x4 x5 x6 x14 x18 x22 l (itn n l) x32 (cpi n l (plc l l.length)) x40 (i : Int)) true) (n := (cpi n l (plc l l.length)).length)
    (Ev.step (fun k => by simp only [laws_FnLanes.l0]; rw [if_neg (by omega)]) h)
    (fun i hi ih => by
      obtain ⟨p, hp, hpl, hcy⟩ := hc (rd (cpi n l (plc l l.length)) (i : Int)) (mem_of_rd hi)
      refine Ev.step (fun k => ?_) ih
      simp only [laws_FnLanes.l0]
      rw [if_pos (by omega), if_pos (by omega), hp, if_pos (by omega), if_pos (by omega), ← cy_in hpl, if_pos hcy, w64s hi (by omega)])
  exact key 0 (by omega)
theorem FnLanes : FnLanesLeft := by
  intro code _ hwf
  have hb : ∀ x ∈ code, 0 ≤ x ∧ x ≤ 255 := fun x hx => by
    have := hwf x hx
    simp [Lit.wf, IntKind.min, IntKind.max, IntKind.signed, IntKind.bits] at this
    omega
  refine Ev.rounds (g := fun k => laws_FnLanes.f k code) ?_
  unfold laws_FnLanes.f laws_rBig.f
  simp only [Option.bind_some]
  by_cases hbig : (code.length : Int) > 65536
  · exact ev_pos (decide_eq_true hbig) (Ev.now _)
  refine ev_neg (by rw [decide_eq_false hbig]; simp) ?_
  obtain ⟨l, hdl, hl⟩ := drawTurnLane_ok hb
  obtain ⟨⟨r, t⟩, hdr, hr⟩ := drawLaneAfter_ok hb
  have hl2 : l.length ≤ 1048576 := by omega
  have hr' : r.length ≤ 1000 := hr
  have hr2 : r.length ≤ 1048576 := by omega
  obtain ⟨cm, hc1, hc2, hcv, hc3, hc4⟩ := calm_both l hl2
  have hV1 : (turnLaneR l).2.2 = (inAll 0 1 l && inR 3 24 (l.length : Int)) := by unfold turnLaneR; cases (inAll 0 1 l && inR 3 24 (l.length : Int)) <;> rfl
  have hV2 : (lastFlowR l).2 = (inAll 0 1 l && inR 3 24 (l.length : Int)) := by unfold lastFlowR; cases (inAll 0 1 l && inR 3 24 (l.length : Int)) <;> rfl
  have hV3 : (turnAroundR l).2 = (inAll 0 1 l && inR 3 24 (l.length : Int)) := by unfold turnAroundR; cases (inAll 0 1 l && inR 3 24 (l.length : Int)) <;> rfl
  have hV4 : (jamsR l).2 = (inAll 0 1 l && inR 3 24 (l.length : Int)) := by unfold jamsR; cases (inAll 0 1 l && inR 3 24 (l.length : Int)) <;> rfl
  have hW1 : (flowsR r t).2 = (laneAfterR r t).2 := by unfold flowsR laneAfterR; cases turnsV r t <;> rfl
  have hW2 : (carsR r t).2 = (laneAfterR r t).2 := by unfold carsR laneAfterR; cases turnsV r t <;> rfl
  have hend := lanes_j11 l 0 hl cm.1 ⟨hc3, hc4⟩
  have hTl : (turnLaneR l).1.length ≤ 1048576 := by unfold turnLaneR; split <;> simp [nx_len] <;> omega
  refine Ev.bind hdl ?_
  refine Ev.bind (implTurnLane_ev l hl2) (Ev.bind (specTurnLane_ev l hl2) ?_)
  refine ev_pos rfl (ev_neg (by simp) ?_)
  refine Ev.bind (implIsLane_ev l hl2) (ev_neg (by rw [hV1]; simp) ?_)
  refine Ev.bind (rInts_self _ hTl) ?_
  refine Ev.step (fun k => by simp only [laws_FnLanes.j0]; rw [if_neg (by simp)]) ?_
  refine Ev.bind (implLastFlow_ev l hl2) (Ev.bind (specLastFlow_ev l) ?_)
  refine ev_pos rfl (ev_neg (by simp) ?_)
  refine Ev.step (fun k => by simp only [laws_FnLanes.j1]; rw [if_neg (by rw [hV1, hV2]; simp)]) ?_
  refine Ev.bind hc2 (Ev.bind hc1 ?_)
  refine ev_pos rfl (ev_neg (by simp) ?_)
  refine Ev.step (fun k => by simp only [laws_FnLanes.j2]; rw [if_neg (by rw [hcv, hV1]; simp)]) ?_
  refine Ev.bind (implTurnAround_ev l hl2) (Ev.bind (specTurnAround_ev l) ?_)
  refine ev_neg (by simp) (ev_neg (by rw [hV3, hV1]; simp) ?_)
  refine Ev.bind (rInts_self _ (turnAroundR_len l hl2)) ?_
  refine Ev.step (fun k => by simp only [laws_FnLanes.j3]; rw [if_neg (by simp)]) ?_
  refine Ev.bind (implJams_ev l hl2) (Ev.bind (specJams_ev l) ?_)
  refine ev_neg (by simp) (ev_neg (by rw [hV4, hV1]; simp) ?_)
  refine Ev.bind (rInts_self _ (jamsR_len l)) ?_
  refine Ev.step (fun k => by simp only [laws_FnLanes.j4]; rw [if_neg (by simp)]) ?_
  refine Ev.bind hdr ?_
  refine Ev.bind (implLaneAfter_ev r t hr2) (Ev.bind (specLaneAfter_ev r t hr2) ?_)
  refine ev_neg (by simp) ?_
  refine Ev.bind (rInts_self _ (laneAfterR_len r t)) ?_
  refine Ev.step (fun k => by simp only [laws_FnLanes.j5]; rw [if_neg (by simp)]) ?_
  refine Ev.bind (implFlows_ev r t hr2) (Ev.bind (specFlows_ev r t hr2) ?_)
  refine ev_neg (by simp) (ev_neg (by rw [hW1]; simp) ?_)
  refine Ev.bind (rInts_self _ (flowsR_len r t)) ?_
  refine Ev.step (fun k => by simp only [laws_FnLanes.j6]; rw [if_neg (by simp)]) ?_
  refine Ev.bind (implCars_ev r t hr2) (Ev.bind (specCars_ev r t hr2) ?_)
  refine ev_neg (by simp) (ev_neg (by rw [hW2]; simp) ?_)
  refine Ev.bind (rInts_self _ (carsR_len r t)) ?_
  cases hv : turnsV r t with
  | false =>
    have e : (laneAfterR r t).2 = false := by unfold laneAfterR; rw [hv]; rfl
    rw [e]
    exact Ev.step (fun k => by simp only [laws_FnLanes.j7]; rw [if_neg (by simp), if_neg (by simp)]) hend
  | true =>
    obtain ⟨hL, n, rfl, hn⟩ := turns_of hv
    have hbr := hL.1
    have h0 : 0 < r.length := by omega
    have e1 : laneAfterR r (n : Int) = (itn n r, true) := by unfold laneAfterR; rw [hv]; rfl
    have e2 : flowsR r (n : Int) = (flowsOf r n, true) := by unfold flowsR; rw [hv]; rfl
    have e3 : carsR r (n : Int) = (cpi n r (plc r r.length), true) := by unfold carsR; rw [hv]; rfl
    have e4 : lastFlowR r = (mn (cars r) ((r.length : Int) - cars r), true) := by unfold lastFlowR; rw [V_of hbr (by omega) (by omega)]; rfl
    have t1 := implLastFlow_ev r hr2
    rw [e4] at t1
    rw [e1, e2, e3]
    refine Ev.step (fun k => by simp only [laws_FnLanes.j7]; rw [if_neg (by simp), if_pos True.intro]) ?_
    refine Ev.bind t1 (ev_pos rfl ?_)
    refine Ev.bind (rSum_ev (itn n r) (bits_itn h0 hbr n) (by rw [itn_len]; exact hr')) (Ev.bind (rSum_ev r hbr hr') ?_)
    refine ev_pos (cars_itn h0 hbr n) ?_
    refine Ev.bind (rSum_ev r hbr hr') ?_
    have ec : ((cpi n r (plc r r.length)).length : Int) = cars r := by rw [cpi_len, plc_sm hbr]; rfl
    refine Ev.step (fun k => by simp only [laws_FnLanes.j8]; rw [if_neg (by rw [ec]; simp)]) ?_
    exact lanes_l0 r hbr h0 hr' n 0 _ _ _ _ _ _ _ _ _ (lanes_l1 r hbr h0 hr' n hn _ _ _ _ _ _ _ hend)

end Go.Proofs.Ythkbjcihelmaeaa.Pure
