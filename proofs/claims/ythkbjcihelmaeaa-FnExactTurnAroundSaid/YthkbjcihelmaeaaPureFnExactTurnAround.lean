/- FnExactTurnAround: the left statement: for every list the law answers true. No condition. -/
import Derived.Test.YthkbjcihelmaeaaQFnExactTurnAroundx3
import Derived.Test.YthkbjcihelmaeaaBase
import Derived.Test.YthkbjcihelmaeaaLane
namespace Go.Proofs.Ythkbjcihelmaeaa.Pure
open Go.RowKit Go.Proofs.Ythkbjcihelmaeaa.QFnExactTurnAround Go.Proofs.YthkbjcihelmaeaaW.PrintWords Go.Proofs.YthkbjcihelmaeaaW.PrintLast Go.Proofs.Ythkbjcihelmaeaa.Base
set_option linter.unusedVariables false
set_option linter.unusedSimpArgs false

def FnExactTurnAroundLeft : Prop := ∀ (l0 : List Int), l0.length ≤ maxLen → (∀ x ∈ l0, (Lit.int .i64 x).wf = true) → ∃ k, laws_FnExactTurnAround.f k l0 = some true

theorem toIntS_ev (l : List Int) (hl : l.length ≤ 1048576) : Ev (fun k => laws_toIntS.f k l) l := by
  have key := down (P := fun i => Ev (fun k => laws_toIntS.l0 k l (tab l.length (fun q => if q < i then rd l (q : Int) else 0)) (i : Int)) l) (n := l.length)
    (ev_now (fun k => by
      simp only [laws_toIntS.l0]
      rw [if_neg (by omega)]
      congr 1
      exact (tab_ext rfl (fun q hq => by rw [if_pos hq])).symm))
    (fun i hi ih => by
      refine Ev.step (fun k => ?_) ih
      simp only [laws_toIntS.l0]
      rw [if_pos (by omega), if_pos (by omega), if_pos (by rw [tab_len]; omega), w64s hi (by omega), Int.toNat_natCast, tab_set]
      congr 1
      refine tab_congr (fun q _ => ?_)
      by_cases e : q = i
      · subst e; rw [if_pos rfl, if_pos (by omega)]
      · rw [if_neg e]
        by_cases e2 : q < i
        · rw [if_pos e2, if_pos (by omega)]
        · rw [if_neg e2, if_neg (by omega)])
  refine Ev.congr (fun k => ?_) (key 0 (by omega))
  unfold laws_toIntS.f
  rw [if_pos (by omega), if_pos (by omega), Int.toNat_natCast, tab_rep]
  simp

theorem eqIntS_ev (a b : List Int) (hl : a.length ≤ 1152921504606846976) : Ev (fun k => laws_eqIntS.f k a b) (decide (a = b)) := by
  by_cases h : a.length = b.length
  · have key := down (P := fun i => Ev (fun k => laws_eqIntS.l0 k a b (i : Int)) (decide (a.drop i = b.drop i))) (n := a.length)
      (ev_now (fun k => by
        simp only [laws_eqIntS.l0]
        rw [if_neg (by omega)]
        simp
        omega))
      (fun i hi ih => by
        rw [drop_cons hi, drop_cons (l := b) (by omega)]
        by_cases e : rd a (i : Int) = rd b (i : Int)
        · have e2 : decide (rd a (i : Int) :: a.drop (i + 1) = rd b (i : Int) :: b.drop (i + 1)) = decide (a.drop (i + 1) = b.drop (i + 1)) := by simp [e]
          rw [e2]
          refine Ev.step (fun k => ?_) ih
          simp only [laws_eqIntS.l0]
          rw [if_pos (by omega), if_pos (by omega), if_pos (by omega), if_pos e, w64s hi hl]
        · refine ev_now (fun k => ?_)
          simp only [laws_eqIntS.l0]
          rw [if_pos (by omega), if_pos (by omega), if_pos (by omega), if_neg e]
          simp [e])
    refine Ev.congr (fun k => ?_) (key 0 (by omega))
    unfold laws_eqIntS.f
    rw [if_pos (by omega)]
    rfl
  · refine Ev.congr (fun k => ?_) (Ev.now _)
    unfold laws_eqIntS.f
    rw [if_neg (by omega)]
    simp
    intro e
    exact h (by rw [e])
theorem eqIntS_self (a : List Int) (hl : a.length ≤ 1152921504606846976) : Ev (fun k => laws_eqIntS.f k a a) true := by
  have := eqIntS_ev a a hl
  simpa using this

theorem markIntS_ev (l : List Int) (a : Int) (hl : l.length ≤ 1048576) (ha : 0 ≤ a) (ha2 : a ≤ 1152921504606846976) : Ev (fun k => laws_markIntS.f k l a) (a + (l.length : Int), cnt a l.length) := by
  have key := down (P := fun i => Ev (fun k => laws_markIntS.l0 k (tab l.length (fun q => if q < i then a + q else rd l (q : Int))) (a + (i : Int)) (i : Int)) (a + (l.length : Int), cnt a l.length)) (n := l.length)
    (ev_now (fun k => by
      simp only [laws_markIntS.l0]
      rw [if_neg (by rw [tab_len]; omega)]
      congr 2
      exact tab_congr (fun q hq => by rw [if_pos hq])))
    (fun i hi ih => by
      refine Ev.step (fun k => ?_) ih
      simp only [laws_markIntS.l0]
      rw [if_pos (by rw [tab_len]; omega), if_pos (by omega), w64s hi (by omega), Int.toNat_natCast, tab_set, w64 (by omega) (by omega)]
      congr 1
      · refine tab_congr (fun q _ => ?_)
        by_cases e : q = i
        · subst e; rw [if_pos rfl, if_pos (by omega)]
        · rw [if_neg e]
          by_cases e2 : q < i
          · rw [if_pos e2, if_pos (by omega)]
          · rw [if_neg e2, if_neg (by omega)]
      · omega)
  refine Ev.congr (fun k => ?_) (key 0 (by omega))
  unfold laws_markIntS.f
  congr 1
  · rw [← tab_ext rfl (fun q _ => by rw [if_neg (by omega)])]
  · simp

theorem heldIntS_ev (n : Nat) (a : Int) (hl : n ≤ 1048576) (ha : 0 ≤ a) (ha2 : a ≤ 1152921504606846976) : Ev (fun k => laws_heldIntS.f k (cnt a n) a) (a + (n : Int)) := by
  have key := down (P := fun i => Ev (fun k => laws_heldIntS.l0 k (cnt a n) (a + (i : Int)) (i : Int)) (a + (n : Int))) (n := n)
    (ev_now (fun k => by
      simp only [laws_heldIntS.l0]
      rw [if_neg (by rw [cnt_len]; omega)]))
    (fun i hi ih => by
      refine Ev.step (fun k => ?_) ih
      simp only [laws_heldIntS.l0]
      rw [if_pos (by rw [cnt_len]; omega), if_pos (by omega), if_pos (by unfold cnt; rw [tab_rd hi]), w64s hi (by omega), w64 (by omega) (by omega)]
      congr 1
      omega)
  refine Ev.congr (fun k => ?_) (key 0 (by omega))
  unfold laws_heldIntS.f
  simp

theorem l1In_eq (a b c : Int) : spec_l1In.f a b c = some (inR b c a) := by
  unfold spec_l1In.f inR
  by_cases h : a ≥ b
  · have h' : b ≤ a := h
    rw [if_pos h]; simp [h']
  · have h' : ¬ b ≤ a := h
    rw [if_neg h]; simp [h']

theorem l8Lane_ev (l : List Int) : Ev (fun k => spec_l8Lane.f k l) (inAll 0 1 l && inR 3 24 (l.length : Int)) := by
  have key := down (P := fun i => Ev (fun k => spec_l8Lane.l0 k l (i : Int)) (inAll 0 1 (l.drop i) && inR 3 24 (l.length : Int))) (n := min l.length 25)
    (by
      refine Ev.step (f := fun k => spec_l8Lane.j1 k l ((min l.length 25 : Nat) : Int) false) (fun k => ?_) (ev_now (fun k => ?_))
      · simp only [spec_l8Lane.l0]
        by_cases h : l.length ≤ 25
        · rw [if_neg (by omega)]
        · rw [if_pos (by omega), decide_eq_false (by omega)]
      · simp only [spec_l8Lane.j1, l1In_eq, Option.bind_some]
        by_cases h : l.length ≤ 25
        · rw [Nat.min_eq_left h]; simp [inAll_nil]
        · have : inR 3 24 (l.length : Int) = false := by unfold inR; exact decide_eq_false (by omega)
          simp [this])
    (fun i hi ih => by
      rw [drop_cons (by omega), inAll_cons]
      refine Ev.step (f := fun k => spec_l8Lane.j1 k l (i : Int) true) (fun k => ?_) ?_
      · simp only [spec_l8Lane.l0]
        rw [if_pos (by omega), decide_eq_true (by omega)]
      cases hc : inR 0 1 (rd l (i : Int)) with
      | true =>
        rw [Bool.true_and]
        refine Ev.step (fun k => ?_) ih
        simp only [spec_l8Lane.j1, l1In_eq, Option.bind_some, hc, if_true]
        rw [if_pos (by omega), if_pos (by omega), w64s (n := 25) (by omega) (by omega)]
      | false =>
        refine ev_now (fun k => ?_)
        simp only [spec_l8Lane.j1, l1In_eq, Option.bind_some, hc, if_true, Bool.false_eq_true, if_false]
        rw [if_pos (by omega), if_pos (by omega)]
        simp)
  exact key 0 (by omega)

theorem within_eq (a b c : Int) : impl_within.f a b c = some (inR b c a) := by
  unfold impl_within.f inR
  by_cases h : a ≥ b
  · have h' : b ≤ a := h
    rw [if_pos h]; simp [h']
  · have h' : ¬ b ≤ a := h
    rw [if_neg h]; simp [h']

theorem allWithin_ev (l : List Int) (a b : Int) (hl : l.length ≤ 1152921504606846976) : Ev (fun k => impl_allWithin.f k l a b) (inAll a b l) := by
  have key := down (P := fun i => Ev (fun k => impl_allWithin.l0 k a b l (l.length : Int) (i : Int)) (inAll a b (l.drop i))) (n := l.length)
    (ev_now (fun k => by
      simp only [impl_allWithin.l0]
      rw [if_neg (by omega)]
      simp [inAll_nil]))
    (fun i hi ih => by
      rw [drop_cons hi, inAll_cons]
      cases hc : inR a b (rd l (i : Int)) with
      | true =>
        rw [Bool.true_and]
        refine Ev.step (fun k => ?_) ih
        simp only [impl_allWithin.l0, within_eq, Option.bind_some, hc, if_true]
        rw [if_pos (by omega), if_pos (by omega), if_pos (by omega), w64s hi hl]
      | false =>
        refine ev_now (fun k => ?_)
        simp only [impl_allWithin.l0, within_eq, Option.bind_some, hc, Bool.false_eq_true, if_false]
        rw [if_pos (by omega), if_pos (by omega), if_pos (by omega)]
        simp)
  exact key 0 (by omega)

theorem implIsLane_ev (l : List Int) (hl : l.length ≤ 1048576) : Ev (fun k => impl_IsLane.f k l) (inAll 0 1 l && inR 3 24 (l.length : Int)) := by
  unfold impl_IsLane.f
  simp only [within_eq, Option.bind_some]
  cases h : inR 3 24 (l.length : Int) with
  | true =>
    simp only [if_true, Bool.and_true]
    exact Ev.bind (f := fun _ t => some t) (allWithin_ev l 0 1 (by omega)) (Ev.now _)
  | false =>
    simp only [Bool.false_eq_true, if_false, Bool.and_false]
    exact Ev.now _

theorem mapped_ev (g : Int → Option Int) (h : Int → Int) (l : List Int) (hl : l.length ≤ 1048576) (hg : ∀ x ∈ l, g x = some (h x)) : Ev (fun k => Mapped.f g k l) (l.map h) := by
  have e : l.map h = tab l.length (fun q => h (rd l (q : Int))) := by
    refine tab_ext (by simp) (fun q hq => ?_)
    rw [rd_nat, rd_nat, List.getD_eq_getElem?_getD, List.getD_eq_getElem?_getD, List.getElem?_map, List.getElem?_eq_getElem hq]
    rfl
  rw [e]
  have key := down (P := fun i => Ev (fun k => Mapped.l0 g k (tab i (fun q => h (rd l (q : Int)))) l (l.length : Int) (i : Int)) (tab l.length (fun q => h (rd l (q : Int))))) (n := l.length)
    (ev_now (fun k => by simp only [Mapped.l0]; rw [if_neg (by omega)]))
    (fun i hi ih => by
      refine Ev.step (fun k => ?_) ih
      simp only [Mapped.l0]
      rw [if_pos (by omega), if_pos (by omega), if_pos (by omega), hg _ (mem_of_rd hi), Option.bind_some, tab_len, if_pos (by omega), w64s hi (by omega), tab_snoc i (fun q => h (rd l (q : Int)))])
  exact key 0 (by omega)

theorem reverse_tab (l : List Int) : l.reverse = tab l.length (fun q => rd l ((l.length - 1 - q : Nat) : Int)) := by
  refine tab_ext (by simp) (fun q hq => ?_)
  rw [rd_nat, rd_nat, List.getD_eq_getElem?_getD, List.getD_eq_getElem?_getD, List.getElem?_reverse hq]
def rvF (l : List Int) (i q : Nat) : Int := if q < i ∨ l.length ≤ q + i then rd l ((l.length - 1 - q : Nat) : Int) else rd l (q : Int)
theorem reverse_ev (l : List Int) (hl : l.length ≤ 1152921504606846975) : Ev (fun k => slices_Reverse_int_int.f k l) l.reverse := by
  have key := down (P := fun i => Ev (fun k => slices_Reverse_int_int.l0 k (tab l.length (rvF l i)) (i : Int) ((l.length : Int) - 1 - (i : Int))) l.reverse) (n := l.length / 2)
    (ev_now (fun k => by
      simp only [slices_Reverse_int_int.l0]
      rw [if_neg (by omega), reverse_tab]
      refine congrArg some (tab_congr (fun q hq => ?_))
      unfold rvF
      by_cases h : q < l.length / 2 ∨ l.length ≤ q + l.length / 2
      · rw [if_pos h]
      · rw [if_neg h]
        have : l.length - 1 - q = q := by omega
        rw [this]))
    (fun i hi ih => by
      have e : (l.length : Int) - 1 - (i : Int) = ((l.length - 1 - i : Nat) : Int) := by omega
      refine Ev.step (fun k => ?_) ih
      simp only [slices_Reverse_int_int.l0]
      rw [e, if_pos (by omega), if_pos (by omega), tab_len, if_pos (by omega), if_pos (by omega), if_pos (by omega), w64s (n := l.length) (by omega) (by omega), w64 (by omega) (by omega), Int.toNat_natCast, Int.toNat_natCast, tab_rd (by omega), tab_rd (by omega), tab_set, tab_set]
      have e2 : ((l.length - 1 - i : Nat) : Int) - 1 = (l.length : Int) - 1 - ((i + 1 : Nat) : Int) := by omega
      rw [e2]
      refine congrArg (fun z => slices_Reverse_int_int.l0 k z _ _) (tab_congr (fun q hq => ?_))
      unfold rvF
      by_cases h1 : q = l.length - 1 - i
      · subst h1
        rw [if_pos rfl, if_neg (by omega), if_pos (by omega)]
        congr 2
        omega
      · rw [if_neg h1]
        by_cases h2 : q = i
        · subst h2
          rw [if_pos rfl, if_neg (by omega), if_pos (by omega)]
        · rw [if_neg h2]
          by_cases h3 : q < i ∨ l.length ≤ q + i
          · rw [if_pos h3, if_pos (by omega)]
          · rw [if_neg h3, if_neg (by omega)])
  refine Ev.congr (fun k => ?_) (key 0 (by omega))
  unfold slices_Reverse_int_int.f
  have e : tab l.length (rvF l 0) = l := by
    refine Eq.trans ?_ (tab_of l).symm
    refine tab_congr (fun q hq => ?_)
    unfold rvF
    rw [if_neg (by omega)]
  rw [e, w64 (by omega) (by omega)]
  simp

def turnedL (l : List Int) : List Int := tab l.length (fun q => wrap64 (1 - rd l ((l.length - 1 - q : Nat) : Int)))
def turnAroundR (l : List Int) : List Int × Bool := if (inAll 0 1 l && inR 3 24 (l.length : Int)) = true then (turnedL l, true) else ([], false)
theorem turnAroundR_len (l : List Int) (hl : l.length ≤ 1048576) : (turnAroundR l).1.length ≤ 1048576 := by
  unfold turnAroundR
  split
  · simpa only [turnedL, tab_len] using hl
  · simp
theorem specTurnAround_ev (l : List Int) : Ev (fun k => spec_TurnAround.f k l) (turnAroundR l) := by
  unfold spec_TurnAround.f turnAroundR
  simp only [Option.bind_some]
  refine Ev.bind (l8Lane_ev l) ?_
  cases hv : (inAll 0 1 l && inR 3 24 (l.length : Int)) with
  | true =>
    have hL := lane_of hv
    simp only [if_true]
    have key := down (P := fun i => Ev (fun k => spec_TurnAround.l0 k l (tab i (fun q => wrap64 (1 - rd l ((l.length - 1 - q : Nat) : Int)))) ((l.length : Int) - 1 - (i : Int))) (turnedL l, true)) (n := l.length)
      (ev_now (fun k => by simp only [spec_TurnAround.l0]; rw [if_neg (by omega)]; rfl))
      (fun i hi ih => by
        have e : (l.length : Int) - 1 - (i : Int) = ((l.length - 1 - i : Nat) : Int) := by omega
        refine Ev.step (fun k => ?_) ih
        simp only [spec_TurnAround.l0]
        rw [e, if_pos (by omega), if_pos (by omega), if_pos (by omega), tab_len, if_pos (by omega), w64 (x := ((l.length - 1 - i : Nat) : Int) - 1) (by omega) (by omega), tab_snoc i (fun q => wrap64 (1 - rd l ((l.length - 1 - q : Nat) : Int)))]
        have e2 : ((l.length - 1 - i : Nat) : Int) - 1 = (l.length : Int) - 1 - ((i + 1 : Nat) : Int) := by omega
        rw [e2])
    have k0 := key 0 (by omega)
    rw [w64 (by omega) (by omega)]
    simpa [tab_zero] using k0
  | false =>
    simp only [Bool.false_eq_true, if_false]
    exact Ev.now _
theorem turnedL_eq (l : List Int) : (l.map (fun x => wrap64 (1 - x))).reverse = turnedL l := by
  rw [reverse_tab]
  unfold turnedL
  rw [List.length_map]
  refine tab_congr (fun q hq => ?_)
  rw [rd_nat, rd_nat, List.getD_eq_getElem?_getD, List.getD_eq_getElem?_getD, List.getElem?_map, List.getElem?_eq_getElem (by omega)]
  rfl
theorem implTurnAround_ev (l : List Int) (hl : l.length ≤ 1048576) : Ev (fun k => impl_TurnAround.f k l) (turnAroundR l) := by
  unfold impl_TurnAround.f turnAroundR
  refine Ev.bind (implIsLane_ev l hl) ?_
  cases hv : (inAll 0 1 l && inR 3 24 (l.length : Int)) with
  | true =>
    have hL := lane_of hv
    simp only [if_true]
    refine Ev.bind (g := fun k => mapped_46.f k l) (mapped_ev _ (fun x => wrap64 (1 - x)) l hl (fun x _ => rfl)) (Ev.bind (reverse_ev _ (by simp; omega)) ?_)
    rw [turnedL_eq]
    exact Ev.now _
  | false =>
    simp only [Bool.false_eq_true, if_false]
    exact Ev.now _

theorem FnExactTurnAround : FnExactTurnAroundLeft := by
  intro l _ _
  refine Ev.rounds (g := fun k => laws_FnExactTurnAround.f k l) ?_
  unfold laws_FnExactTurnAround.f
  by_cases h : (l.length : Int) > 1048576
  · exact ev_pos h (Ev.now _)
  refine ev_neg h ?_
  have hl : l.length ≤ 1048576 := by omega
  have hr := turnAroundR_len l hl
  repeat (first
    | exact Ev.now _
    | (with_reducible refine Ev.bind (toIntS_ev _ hl) ?_; try dsimp only)
    | (with_reducible refine Ev.bind (specTurnAround_ev _) ?_; try dsimp only)
    | (with_reducible refine Ev.bind (implTurnAround_ev _ hl) ?_; try dsimp only)
    | (with_reducible refine Ev.bind (markIntS_ev _ _ hl (by omega) (by omega)) ?_; try dsimp only)
    | (with_reducible refine Ev.bind (markIntS_ev _ _ hr (by omega) (by omega)) ?_; try dsimp only)
    | (with_reducible refine Ev.bind (heldIntS_ev _ _ hr (by omega) (by omega)) ?_; try dsimp only)
    | (with_reducible refine Ev.bind (eqIntS_self _ (by omega)) ?_; try dsimp only)
    | (refine ev_pos (by first | exact True.intro | rfl | assumption | omega) ?_; try dsimp only)
    | (refine ev_neg (by first | (simp; done) | omega) ?_; try dsimp only)
    | (refine Ev.step (fun k => by simp only [laws_FnExactTurnAround.j0]; rfl) ?_)
    | (refine Ev.step (fun k => by simp only [laws_FnExactTurnAround.j1]; rfl) ?_)
    | (refine Ev.step (fun k => by simp only [laws_FnExactTurnAround.j2]; rfl) ?_))

end Go.Proofs.Ythkbjcihelmaeaa.Pure
