/- FnExactJamsOf: the pure statement: for every input the law answers true. No condition. -/
import Derived.Test.YthkbjcihelmaeaaPFnExactJamsOfx3
import Derived.Test.YthkbjcihelmaeaaBase
import Derived.Test.YthkbjcihelmaeaaLane
namespace Go.Proofs.Ythkbjcihelmaeaa.Pure
open Go.RowKit Go.Proofs.Ythkbjcihelmaeaa.PFnExactJamsOf Go.Proofs.YthkbjcihelmaeaaW.PrintWords Go.Proofs.YthkbjcihelmaeaaW.PrintLast Go.Proofs.Ythkbjcihelmaeaa.Base
set_option linter.unusedVariables false
set_option linter.unusedSimpArgs false

theorem toIntS_ev (l : List Int) (hl : l.length ≤ 1048576) : Ev (fun k => laws_toIntS.f k l) l := by
  have key := down (P := fun i => Ev (fun k => laws_toIntS.l0 k l (tab l.length (fun q => if q < i then rd l (q : Int) else 0)) (i : Int)) l) (n := l.length)
    (ev_now (fun k => by
      simp only [laws_toIntS.l0]
      rw [if_neg (by omega)]
      congr 1
      exact (tab_ext rfl (fun q hq => by rw [if_pos hq])).symm))
    (fun i hi ih => by
      refine Ev.step (fun k => ?_) ih
      simp only [laws_toIntS.l0]
      rw [if_pos (by omega), if_pos (by omega), if_pos (by rw [tab_len]; omega), w64s hi (by omega), Int.toNat_natCast, tab_set]
      congr 1
      refine tab_congr (fun q _ => ?_)
      by_cases e : q = i
      · subst e; rw [if_pos rfl, if_pos (by omega)]
      · rw [if_neg e]
        by_cases e2 : q < i
        · rw [if_pos e2, if_pos (by omega)]
        · rw [if_neg e2, if_neg (by omega)])
  refine Ev.congr (fun k => ?_) (key 0 (by omega))
  unfold laws_toIntS.f
  rw [if_pos (by omega), if_pos (by omega), Int.toNat_natCast, tab_rep]
  simp

theorem eqIntS_ev (a b : List Int) (hl : a.length ≤ 1152921504606846976) : Ev (fun k => laws_eqIntS.f k a b) (decide (a = b)) := by
  by_cases h : a.length = b.length
  · have key := down (P := fun i => Ev (fun k => laws_eqIntS.l0 k a b (i : Int)) (decide (a.drop i = b.drop i))) (n := a.length)
      (ev_now (fun k => by
        simp only [laws_eqIntS.l0]
        rw [if_neg (by omega)]
        simp
        omega))
      (fun i hi ih => by
        rw [drop_cons hi, drop_cons (l := b) (by omega)]
        by_cases e : rd a (i : Int) = rd b (i : Int)
        · have e2 : decide (rd a (i : Int) :: a.drop (i + 1) = rd b (i : Int) :: b.drop (i + 1)) = decide (a.drop (i + 1) = b.drop (i + 1)) := by simp [e]
          rw [e2]
          refine Ev.step (fun k => ?_) ih
          simp only [laws_eqIntS.l0]
          rw [if_pos (by omega), if_pos (by omega), if_pos (by omega), if_pos e, w64s hi hl]
        · refine ev_now (fun k => ?_)
          simp only [laws_eqIntS.l0]
          rw [if_pos (by omega), if_pos (by omega), if_pos (by omega), if_neg e]
          simp [e])
    refine Ev.congr (fun k => ?_) (key 0 (by omega))
    unfold laws_eqIntS.f
    rw [if_pos (by omega)]
    rfl
  · refine Ev.congr (fun k => ?_) (Ev.now _)
    unfold laws_eqIntS.f
    rw [if_neg (by omega)]
    simp
    intro e
    exact h (by rw [e])
theorem eqIntS_self (a : List Int) (hl : a.length ≤ 1152921504606846976) : Ev (fun k => laws_eqIntS.f k a a) true := by
  have := eqIntS_ev a a hl
  simpa using this

theorem markIntS_ev (l : List Int) (a : Int) (hl : l.length ≤ 1048576) (ha : 0 ≤ a) (ha2 : a ≤ 1152921504606846976) : Ev (fun k => laws_markIntS.f k l a) (a + (l.length : Int), cnt a l.length) := by
  have key := down (P := fun i => Ev (fun k => laws_markIntS.l0 k (tab l.length (fun q => if q < i then a + q else rd l (q : Int))) (a + (i : Int)) (i : Int)) (a + (l.length : Int), cnt a l.length)) (n := l.length)
    (ev_now (fun k => by
      simp only [laws_markIntS.l0]
      rw [if_neg (by rw [tab_len]; omega)]
      congr 2
      exact tab_congr (fun q hq => by rw [if_pos hq])))
    (fun i hi ih => by
      refine Ev.step (fun k => ?_) ih
      simp only [laws_markIntS.l0]
      rw [if_pos (by rw [tab_len]; omega), if_pos (by omega), w64s hi (by omega), Int.toNat_natCast, tab_set, w64 (by omega) (by omega)]
      congr 1
      · refine tab_congr (fun q _ => ?_)
        by_cases e : q = i
        · subst e; rw [if_pos rfl, if_pos (by omega)]
        · rw [if_neg e]
          by_cases e2 : q < i
          · rw [if_pos e2, if_pos (by omega)]
          · rw [if_neg e2, if_neg (by omega)]
      · omega)
  refine Ev.congr (fun k => ?_) (key 0 (by omega))
  unfold laws_markIntS.f
  congr 1
  · rw [← tab_ext rfl (fun q _ => by rw [if_neg (by omega)])]
  · simp

theorem heldIntS_ev (n : Nat) (a : Int) (hl : n ≤ 1048576) (ha : 0 ≤ a) (ha2 : a ≤ 1152921504606846976) : Ev (fun k => laws_heldIntS.f k (cnt a n) a) (a + (n : Int)) := by
  have key := down (P := fun i => Ev (fun k => laws_heldIntS.l0 k (cnt a n) (a + (i : Int)) (i : Int)) (a + (n : Int))) (n := n)
    (ev_now (fun k => by
      simp only [laws_heldIntS.l0]
      rw [if_neg (by rw [cnt_len]; omega)]))
    (fun i hi ih => by
      refine Ev.step (fun k => ?_) ih
      simp only [laws_heldIntS.l0]
      rw [if_pos (by rw [cnt_len]; omega), if_pos (by omega), if_pos (by unfold cnt; rw [tab_rd hi]), w64s hi (by omega), w64 (by omega) (by omega)]
      congr 1
      omega)
  refine Ev.congr (fun k => ?_) (key 0 (by omega))
  unfold laws_heldIntS.f
  simp

theorem l1In_eq (a b c : Int) : spec_l1In.f a b c = some (inR b c a) := by
  unfold spec_l1In.f inR
  by_cases h : a ≥ b
  · have h' : b ≤ a := h
    rw [if_pos h]; simp [h']
  · have h' : ¬ b ≤ a := h
    rw [if_neg h]; simp [h']

theorem l8Lane_ev (l : List Int) : Ev (fun k => spec_l8Lane.f k l) (inAll 0 1 l && inR 3 24 (l.length : Int)) := by
  have key := down (P := fun i => Ev (fun k => spec_l8Lane.l0 k l (i : Int)) (inAll 0 1 (l.drop i) && inR 3 24 (l.length : Int))) (n := min l.length 25)
    (by
      refine Ev.step (f := fun k => spec_l8Lane.j1 k l ((min l.length 25 : Nat) : Int) false) (fun k => ?_) (ev_now (fun k => ?_))
      · simp only [spec_l8Lane.l0]
        by_cases h : l.length ≤ 25
        · rw [if_neg (by omega)]
        · rw [if_pos (by omega), decide_eq_false (by omega)]
      · simp only [spec_l8Lane.j1, l1In_eq, Option.bind_some]
        by_cases h : l.length ≤ 25
        · rw [Nat.min_eq_left h]; simp [inAll_nil]
        · have : inR 3 24 (l.length : Int) = false := by unfold inR; exact decide_eq_false (by omega)
          simp [this])
    (fun i hi ih => by
      rw [drop_cons (by omega), inAll_cons]
      refine Ev.step (f := fun k => spec_l8Lane.j1 k l (i : Int) true) (fun k => ?_) ?_
      · simp only [spec_l8Lane.l0]
        rw [if_pos (by omega), decide_eq_true (by omega)]
      cases hc : inR 0 1 (rd l (i : Int)) with
      | true =>
        rw [Bool.true_and]
        refine Ev.step (fun k => ?_) ih
        simp only [spec_l8Lane.j1, l1In_eq, Option.bind_some, hc, if_true]
        rw [if_pos (by omega), if_pos (by omega), w64s (n := 25) (by omega) (by omega)]
      | false =>
        refine ev_now (fun k => ?_)
        simp only [spec_l8Lane.j1, l1In_eq, Option.bind_some, hc, if_true, Bool.false_eq_true, if_false]
        rw [if_pos (by omega), if_pos (by omega)]
        simp)
  exact key 0 (by omega)

def jams (l : List Int) (i : Nat) : List Int := ((List.range i).filter (fun p : Nat => decide (cy l (p : Int) = 1 ∧ cy l ((p : Int) + 1) = 1))).map (fun p : Nat => (p : Int))
theorem jams_succ (l : List Int) (i : Nat) : jams l (i + 1) = if cy l (i : Int) = 1 ∧ cy l ((i : Int) + 1) = 1 then jams l i ++ [(i : Int)] else jams l i := by
  unfold jams
  rw [List.range_succ, List.filter_append, List.map_append]
  by_cases h : cy l (i : Int) = 1 ∧ cy l ((i : Int) + 1) = 1
  · rw [if_pos h]; simp [h]
  · rw [if_neg h]; simp [h]
theorem jams_len (l : List Int) (i : Nat) : (jams l i).length ≤ i := by
  unfold jams
  rw [List.length_map]
  have := List.length_filter_le (fun p : Nat => decide (cy l (p : Int) = 1 ∧ cy l ((p : Int) + 1) = 1)) (List.range i)
  rw [List.length_range] at this
  exact this
def jamsR (l : List Int) : List Int × Bool := if (inAll 0 1 l && inR 3 24 (l.length : Int)) = true then (jams l l.length, true) else ([], false)
theorem jamsR_len (l : List Int) : (jamsR l).1.length ≤ 1048576 := by
  unfold jamsR
  split
  · rename_i h
    have := lane_of h
    have := jams_len l l.length
    simp only
    omega
  · simp
theorem specJams_ev (l : List Int) : Ev (fun k => spec_JamsOf.f k l) (jamsR l) := by
  unfold spec_JamsOf.f jamsR
  simp only [Option.bind_some]
  refine Ev.bind (l8Lane_ev l) ?_
  cases hv : (inAll 0 1 l && inR 3 24 (l.length : Int)) with
  | true =>
    have hL := lane_of hv
    simp only [if_true]
    have key := down (P := fun i => Ev (fun k => spec_JamsOf.l0 k l (jams l i) (i : Int)) (jams l l.length, true)) (n := l.length)
      (ev_now (fun k => by simp only [spec_JamsOf.l0]; rw [if_neg (by omega)]))
      (fun i hi ih => by
        have hn := nxt_lt hi
        have hj := jams_len l i
        refine Ev.step (fun k => ?_) ih
        simp only [spec_JamsOf.l0]
        rw [if_pos (by omega), if_pos (by omega), tmod_nxt hi (by omega), ← cy_in hi, ← cy_nxt hi, w64s hi (by omega), jams_succ]
        by_cases h1 : cy l (i : Int) = 1
        · rw [if_pos h1, if_neg (by omega), if_pos (by omega), if_pos (by omega)]
          by_cases h2 : cy l ((i : Int) + 1) = 1
          · rw [if_pos h2, if_pos (by omega), if_pos ⟨h1, h2⟩]
          · rw [if_neg h2, if_neg (fun a => h2 a.2)]
        · rw [if_neg h1, if_neg (fun a => h1 a.1)])
    exact key 0 (by omega)
  | false =>
    simp only [Bool.false_eq_true, if_false]
    exact Ev.now _

theorem within_eq (a b c : Int) : impl_within.f a b c = some (inR b c a) := by
  unfold impl_within.f inR
  by_cases h : a ≥ b
  · have h' : b ≤ a := h
    rw [if_pos h]; simp [h']
  · have h' : ¬ b ≤ a := h
    rw [if_neg h]; simp [h']

theorem allWithin_ev (l : List Int) (a b : Int) (hl : l.length ≤ 1152921504606846976) : Ev (fun k => impl_allWithin.f k l a b) (inAll a b l) := by
  have key := down (P := fun i => Ev (fun k => impl_allWithin.l0 k a b l (l.length : Int) (i : Int)) (inAll a b (l.drop i))) (n := l.length)
    (ev_now (fun k => by
      simp only [impl_allWithin.l0]
      rw [if_neg (by omega)]
      simp [inAll_nil]))
    (fun i hi ih => by
      rw [drop_cons hi, inAll_cons]
      cases hc : inR a b (rd l (i : Int)) with
      | true =>
        rw [Bool.true_and]
        refine Ev.step (fun k => ?_) ih
        simp only [impl_allWithin.l0, within_eq, Option.bind_some, hc, if_true]
        rw [if_pos (by omega), if_pos (by omega), if_pos (by omega), w64s hi hl]
      | false =>
        refine ev_now (fun k => ?_)
        simp only [impl_allWithin.l0, within_eq, Option.bind_some, hc, Bool.false_eq_true, if_false]
        rw [if_pos (by omega), if_pos (by omega), if_pos (by omega)]
        simp)
  exact key 0 (by omega)

theorem implIsLane_ev (l : List Int) (hl : l.length ≤ 1048576) : Ev (fun k => impl_IsLane.f k l) (inAll 0 1 l && inR 3 24 (l.length : Int)) := by
  unfold impl_IsLane.f
  simp only [within_eq, Option.bind_some]
  cases h : inR 3 24 (l.length : Int) with
  | true =>
    simp only [if_true, Bool.and_true]
    exact Ev.bind (f := fun _ t => some t) (allWithin_ev l 0 1 (by omega)) (Ev.now _)
  | false =>
    simp only [Bool.false_eq_true, if_false, Bool.and_false]
    exact Ev.now _

theorem turn_ev (l : List Int) (hb : bit01 l) (h2 : 2 ≤ l.length) (hl : l.length ≤ 1048576) : Ev (fun k => impl_turn.f k l) (nx l, tab l.length (too l), fl l) := by
  have key := down (P := fun i => Ev (fun k => impl_turn.l0 k l (tab l.length (imOut l i)) (tab l.length (imTo l i)) (fp l i) l (l.length : Int) (i : Int)) (nx l, tab l.length (too l), fl l)) (n := l.length)
    (ev_now (fun k => by
      simp only [impl_turn.l0]
      rw [if_neg (by omega), imOut_last hb, imTo_last]
      rfl))
    (fun i hi ih => by
      have hn := nxt_lt hi
      have hf := fp_bound l i
      refine Ev.step (fun k => ?_) ih
      simp only [impl_turn.l0]
      rw [if_pos (by omega), if_pos (by omega), if_pos (by omega), if_pos (by rw [tab_len]; omega), tmod_nxt hi hl, ← cy_in hi, ← cy_nxt hi]
      simp only [Option.bind_some, Int.toNat_natCast, tab_set, tab_rd hi, if_true, tab_len]
      rw [w64s hi (by omega)]
      have eT : ∀ v, v = too l i → tab l.length (fun q => if q = i then v else imTo l i q) = tab l.length (imTo l (i + 1)) := by
        intro v hv
        refine tab_congr (fun q _ => ?_)
        unfold imTo
        by_cases e : q = i
        · subst e; rw [if_pos rfl, if_pos (by omega), hv]
        · rw [if_neg e]
          by_cases e2 : q < i
          · rw [if_pos e2, if_pos (by omega)]
          · rw [if_neg e2, if_neg (by omega)]
      rcases hb (i : Int) with h0 | h1
      · have hm : ¬ M l i := fun a => by have := a.1; rw [h0] at this; exact absurd this (by decide)
        rw [if_pos h0, fp_succ, if_neg hm, Int.add_zero, eT _ (by unfold too; rw [if_neg hm]), tab_congr (fun q _ => imOut_free h0 q)]
      · rw [if_neg (by omega), if_neg (by omega), if_pos (by omega), if_pos (by omega)]
        have eO := tab_congr (n := l.length) (fun q hq => imOut_car hi h1 q hq)
        by_cases hm : M l i
        · have et : too l i = ((nxt l.length i : Nat) : Int) := by unfold too; rw [if_pos hm]
          rw [et, Int.toNat_natCast] at eO
          rw [if_pos hm.2, if_pos (by omega), if_pos (by omega), w64 (by omega) (by omega), fp_succ, if_pos hm, eO]
          congr 1
          rw [← eT _ et.symm]
          refine tab_congr (fun q _ => ?_)
          by_cases e : q = i
          · rw [if_pos e, if_pos e]
          · rw [if_neg e, if_neg e, if_neg e]
        · have et : too l i = (i : Int) := by unfold too; rw [if_neg hm]
          rw [et, Int.toNat_natCast] at eO
          rw [if_neg (fun h0 => hm ⟨h1, h0⟩), if_pos (by omega), if_pos (by omega), fp_succ, if_neg hm, Int.add_zero, eO, eT _ et.symm])
  unfold impl_turn.f
  simp only [if_pos (show (0 : Int) ≤ (l.length : Int) by omega), Int.toNat_natCast, if_pos (show l.length ≤ 35184372088832 by omega), tab_rep]
  have k0 := key 0 (by omega)
  have e1 : tab l.length (imOut l 0) = tab l.length (fun _ => 0) := tab_congr (fun q _ => by unfold imOut; rw [if_neg (by omega)])
  have e2 : tab l.length (imTo l 0) = tab l.length (fun _ => 0) := tab_congr (fun q _ => by unfold imTo; rw [if_neg (by omega)])
  rw [e1, e2] at k0
  exact k0

theorem implJams_ev (l : List Int) (hl : l.length ≤ 1048576) : Ev (fun k => impl_JamsOf.f k l) (jamsR l) := by
  unfold impl_JamsOf.f jamsR
  refine Ev.bind (implIsLane_ev l hl) ?_
  cases hv : (inAll 0 1 l && inR 3 24 (l.length : Int)) with
  | true =>
    have hL := lane_of hv
    simp only [if_true]
    refine Ev.bind (turn_ev l hL.1 (by omega) hl) ?_
    have key := down (P := fun i => Ev (fun k => impl_JamsOf.l0 k (jams l i) (tab l.length (too l)) l (l.length : Int) (i : Int)) (jams l l.length, true)) (n := l.length)
      (ev_now (fun k => by simp only [impl_JamsOf.l0]; rw [if_neg (by omega)]))
      (fun i hi ih => by
        have hn := nxt_ne hi (by omega)
        have hj := jams_len l i
        refine Ev.step (fun k => ?_) ih
        simp only [impl_JamsOf.l0]
        rw [if_pos (by omega), if_pos (by omega), if_pos (by omega), ← cy_in hi, w64s hi (by omega), jams_succ, tab_rd hi]
        by_cases h1 : cy l (i : Int) = 1
        · rw [if_pos h1, if_pos (by rw [tab_len]; omega)]
          by_cases h2 : cy l ((i : Int) + 1) = 1
          · have hm : ¬ M l i := fun a => by have := a.2; omega
            rw [if_pos (by unfold too; rw [if_neg hm]), if_pos (by omega), if_pos ⟨h1, h2⟩]
          · have hm : M l i := ⟨h1, by have := hL.1 ((i : Int) + 1); omega⟩
            rw [if_neg (by unfold too; rw [if_pos hm]; omega), if_neg (fun a => h2 a.2)]
        · rw [if_neg h1, if_neg (fun a => h1 a.1)])
    exact key 0 (by omega)
  | false =>
    simp only [Bool.false_eq_true, if_false]
    exact Ev.now _

theorem FnExactJamsOf : laws_FnExactJamsOf.Pure := by
  intro l _ _ _
  refine Ev.rounds (g := fun k => laws_FnExactJamsOf.f k l) ?_
  unfold laws_FnExactJamsOf.f
  by_cases h : (l.length : Int) > 1048576
  · simp only [if_pos h]; exact Ev.now _
  · simp only [if_neg h]
    have hl : l.length ≤ 1048576 := by omega
    have hr : (jamsR l).1.length ≤ 1048576 := jamsR_len l
    refine Ev.bind (toIntS_ev l hl) (Ev.bind (specJams_ev l) (Ev.bind (toIntS_ev l hl) (Ev.bind (implJams_ev l hl) (Ev.bind (eqIntS_self _ (by omega)) ?_))))
    simp only [if_true, bne_self_eq_false]
    refine Ev.step (fun k => by simp only [laws_FnExactJamsOf.j0]; rfl) ?_
    simp only [Bool.false_eq_true, if_false]
    refine Ev.bind (toIntS_ev l hl) (Ev.bind (eqIntS_self _ (by omega)) ?_)
    simp only [if_true]
    refine Ev.bind (markIntS_ev l 1 hl (by omega) (by omega)) ?_
    simp only [if_neg (show ¬ (1 + (l.length : Int) < 0) by omega)]
    refine Ev.bind (eqIntS_self _ (by omega)) ?_
    simp only [if_true, bne_self_eq_false]
    refine Ev.step (fun k => by simp only [laws_FnExactJamsOf.j1]; rfl) ?_
    simp only [Bool.false_eq_true, if_false]
    refine Ev.bind (markIntS_ev _ 1 hr (by omega) (by omega)) (Ev.bind (heldIntS_ev _ 1 hr (by omega) (by omega)) ?_)
    simp only [if_neg (show ¬ (1 + ((jamsR l).1.length : Int) < 0) by omega), if_true]
    refine Ev.bind (toIntS_ev l hl) (Ev.bind (implJams_ev l hl) (Ev.bind (eqIntS_self _ (by omega)) ?_))
    simp only [if_true, bne_self_eq_false]
    refine Ev.step (fun k => by simp only [laws_FnExactJamsOf.j2]; rfl) ?_
    simp only [Bool.false_eq_true, if_false]
    refine Ev.bind (heldIntS_ev _ 1 hr (by omega) (by omega)) ?_
    simp only [if_neg (show ¬ (1 + ((jamsR l).1.length : Int) < 0) by omega), if_true]
    exact Ev.now _

end Go.Proofs.Ythkbjcihelmaeaa.Pure
