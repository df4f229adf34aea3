/- FnExactCarPlaces: the left statement: for every list and number the law answers true. No condition. -/
import Derived.Test.YthkbjcihelmaeaaQFnExactCarPlacesx4
import Derived.Test.YthkbjcihelmaeaaBase
import Derived.Test.YthkbjcihelmaeaaLane
namespace Go.Proofs.Ythkbjcihelmaeaa.Pure
open Go.RowKit Go.Proofs.Ythkbjcihelmaeaa.QFnExactCarPlaces Go.Proofs.YthkbjcihelmaeaaW.PrintWords Go.Proofs.YthkbjcihelmaeaaW.PrintLast Go.Proofs.Ythkbjcihelmaeaa.Base
set_option linter.unusedVariables false
set_option linter.unusedSimpArgs false

def FnExactCarPlacesLeft : Prop := ∀ (l0 : List Int) (a1 : Int), l0.length ≤ maxLen → (∀ x ∈ l0, (Lit.int .i64 x).wf = true) → (Lit.int .i64 a1).wf = true → ∃ k, laws_FnExactCarPlaces.f k l0 a1 = some true

theorem toIntS_ev (l : List Int) (hl : l.length ≤ 1048576) : Ev (fun k => laws_toIntS.f k l) l := by
  have key := down (P := fun i => Ev (fun k => laws_toIntS.l0 k l (tab l.length (fun q => if q < i then rd l (q : Int) else 0)) (i : Int)) l) (n := l.length)
    (ev_now (fun k => by
      simp only [laws_toIntS.l0]
      rw [if_neg (by omega)]
      congr 1
      exact (tab_ext rfl (fun q hq => by rw [if_pos hq])).symm))
    (fun i hi ih => by
      refine Ev.step (fun k => ?_) ih
      simp only [laws_toIntS.l0]
      rw [if_pos (by omega), if_pos (by omega), if_pos (by rw [tab_len]; omega), w64s hi (by omega), Int.toNat_natCast, tab_set]
      congr 1
      refine tab_congr (fun q _ => ?_)
      by_cases e : q = i
      · subst e; rw [if_pos rfl, if_pos (by omega)]
      · rw [if_neg e]
        by_cases e2 : q < i
        · rw [if_pos e2, if_pos (by omega)]
        · rw [if_neg e2, if_neg (by omega)])
  refine Ev.congr (fun k => ?_) (key 0 (by omega))
  unfold laws_toIntS.f
  rw [if_pos (by omega), if_pos (by omega), Int.toNat_natCast, tab_rep]
  simp

theorem eqIntS_ev (a b : List Int) (hl : a.length ≤ 1152921504606846976) : Ev (fun k => laws_eqIntS.f k a b) (decide (a = b)) := by
  by_cases h : a.length = b.length
  · have key := down (P := fun i => Ev (fun k => laws_eqIntS.l0 k a b (i : Int)) (decide (a.drop i = b.drop i))) (n := a.length)
      (ev_now (fun k => by
        simp only [laws_eqIntS.l0]
        rw [if_neg (by omega)]
        simp
        omega))
      (fun i hi ih => by
        rw [drop_cons hi, drop_cons (l := b) (by omega)]
        by_cases e : rd a (i : Int) = rd b (i : Int)
        · have e2 : decide (rd a (i : Int) :: a.drop (i + 1) = rd b (i : Int) :: b.drop (i + 1)) = decide (a.drop (i + 1) = b.drop (i + 1)) := by simp [e]
          rw [e2]
          refine Ev.step (fun k => ?_) ih
          simp only [laws_eqIntS.l0]
          rw [if_pos (by omega), if_pos (by omega), if_pos (by omega), if_pos e, w64s hi hl]
        · refine ev_now (fun k => ?_)
          simp only [laws_eqIntS.l0]
          rw [if_pos (by omega), if_pos (by omega), if_pos (by omega), if_neg e]
          simp [e])
    refine Ev.congr (fun k => ?_) (key 0 (by omega))
    unfold laws_eqIntS.f
    rw [if_pos (by omega)]
    rfl
  · refine Ev.congr (fun k => ?_) (Ev.now _)
    unfold laws_eqIntS.f
    rw [if_neg (by omega)]
    simp
    intro e
    exact h (by rw [e])
theorem eqIntS_self (a : List Int) (hl : a.length ≤ 1152921504606846976) : Ev (fun k => laws_eqIntS.f k a a) true := by
  have := eqIntS_ev a a hl
  simpa using this

theorem markIntS_ev (l : List Int) (a : Int) (hl : l.length ≤ 1048576) (ha : 0 ≤ a) (ha2 : a ≤ 1152921504606846976) : Ev (fun k => laws_markIntS.f k l a) (a + (l.length : Int), cnt a l.length) := by
  have key := down (P := fun i => Ev (fun k => laws_markIntS.l0 k (tab l.length (fun q => if q < i then a + q else rd l (q : Int))) (a + (i : Int)) (i : Int)) (a + (l.length : Int), cnt a l.length)) (n := l.length)
    (ev_now (fun k => by
      simp only [laws_markIntS.l0]
      rw [if_neg (by rw [tab_len]; omega)]
      congr 2
      exact tab_congr (fun q hq => by rw [if_pos hq])))
    (fun i hi ih => by
      refine Ev.step (fun k => ?_) ih
      simp only [laws_markIntS.l0]
      rw [if_pos (by rw [tab_len]; omega), if_pos (by omega), w64s hi (by omega), Int.toNat_natCast, tab_set, w64 (by omega) (by omega)]
      congr 1
      · refine tab_congr (fun q _ => ?_)
        by_cases e : q = i
        · subst e; rw [if_pos rfl, if_pos (by omega)]
        · rw [if_neg e]
          by_cases e2 : q < i
          · rw [if_pos e2, if_pos (by omega)]
          · rw [if_neg e2, if_neg (by omega)]
      · omega)
  refine Ev.congr (fun k => ?_) (key 0 (by omega))
  unfold laws_markIntS.f
  congr 1
  · rw [← tab_ext rfl (fun q _ => by rw [if_neg (by omega)])]
  · simp

theorem heldIntS_ev (n : Nat) (a : Int) (hl : n ≤ 1048576) (ha : 0 ≤ a) (ha2 : a ≤ 1152921504606846976) : Ev (fun k => laws_heldIntS.f k (cnt a n) a) (a + (n : Int)) := by
  have key := down (P := fun i => Ev (fun k => laws_heldIntS.l0 k (cnt a n) (a + (i : Int)) (i : Int)) (a + (n : Int))) (n := n)
    (ev_now (fun k => by
      simp only [laws_heldIntS.l0]
      rw [if_neg (by rw [cnt_len]; omega)]))
    (fun i hi ih => by
      refine Ev.step (fun k => ?_) ih
      simp only [laws_heldIntS.l0]
      rw [if_pos (by rw [cnt_len]; omega), if_pos (by omega), if_pos (by unfold cnt; rw [tab_rd hi]), w64s hi (by omega), w64 (by omega) (by omega)]
      congr 1
      omega)
  refine Ev.congr (fun k => ?_) (key 0 (by omega))
  unfold laws_heldIntS.f
  simp

theorem l1In_eq (a b c : Int) : spec_l1In.f a b c = some (inR b c a) := by
  unfold spec_l1In.f inR
  by_cases h : a ≥ b
  · have h' : b ≤ a := h
    rw [if_pos h]; simp [h']
  · have h' : ¬ b ≤ a := h
    rw [if_neg h]; simp [h']

theorem l8Lane_ev (l : List Int) : Ev (fun k => spec_l8Lane.f k l) (inAll 0 1 l && inR 3 24 (l.length : Int)) := by
  have key := down (P := fun i => Ev (fun k => spec_l8Lane.l0 k l (i : Int)) (inAll 0 1 (l.drop i) && inR 3 24 (l.length : Int))) (n := min l.length 25)
    (by
      refine Ev.step (f := fun k => spec_l8Lane.j1 k l ((min l.length 25 : Nat) : Int) false) (fun k => ?_) (ev_now (fun k => ?_))
      · simp only [spec_l8Lane.l0]
        by_cases h : l.length ≤ 25
        · rw [if_neg (by omega)]
        · rw [if_pos (by omega), decide_eq_false (by omega)]
      · simp only [spec_l8Lane.j1, l1In_eq, Option.bind_some]
        by_cases h : l.length ≤ 25
        · rw [Nat.min_eq_left h]; simp [inAll_nil]
        · have : inR 3 24 (l.length : Int) = false := by unfold inR; exact decide_eq_false (by omega)
          simp [this])
    (fun i hi ih => by
      rw [drop_cons (by omega), inAll_cons]
      refine Ev.step (f := fun k => spec_l8Lane.j1 k l (i : Int) true) (fun k => ?_) ?_
      · simp only [spec_l8Lane.l0]
        rw [if_pos (by omega), decide_eq_true (by omega)]
      cases hc : inR 0 1 (rd l (i : Int)) with
      | true =>
        rw [Bool.true_and]
        refine Ev.step (fun k => ?_) ih
        simp only [spec_l8Lane.j1, l1In_eq, Option.bind_some, hc, if_true]
        rw [if_pos (by omega), if_pos (by omega), w64s (n := 25) (by omega) (by omega)]
      | false =>
        refine ev_now (fun k => ?_)
        simp only [spec_l8Lane.j1, l1In_eq, Option.bind_some, hc, if_true, Bool.false_eq_true, if_false]
        rw [if_pos (by omega), if_pos (by omega)]
        simp)
  exact key 0 (by omega)

def turnsV (l : List Int) (t : Int) : Bool := (inAll 0 1 l && inR 3 24 (l.length : Int)) && inR 0 60 t
theorem l8Turns_ev (l : List Int) (t : Int) : Ev (fun k => spec_l8Turns.f k l t) (turnsV l t) := by
  unfold spec_l8Turns.f turnsV
  refine Ev.bind (l8Lane_ev l) ?_
  cases (inAll 0 1 l && inR 3 24 (l.length : Int)) with
  | true => simp only [if_true, l1In_eq, Option.bind_some, Bool.true_and]; exact Ev.now _
  | false => simp only [Bool.false_eq_true, if_false, Bool.false_and]; exact Ev.now _

theorem within_eq (a b c : Int) : impl_within.f a b c = some (inR b c a) := by
  unfold impl_within.f inR
  by_cases h : a ≥ b
  · have h' : b ≤ a := h
    rw [if_pos h]; simp [h']
  · have h' : ¬ b ≤ a := h
    rw [if_neg h]; simp [h']

theorem allWithin_ev (l : List Int) (a b : Int) (hl : l.length ≤ 1152921504606846976) : Ev (fun k => impl_allWithin.f k l a b) (inAll a b l) := by
  have key := down (P := fun i => Ev (fun k => impl_allWithin.l0 k a b l (l.length : Int) (i : Int)) (inAll a b (l.drop i))) (n := l.length)
    (ev_now (fun k => by
      simp only [impl_allWithin.l0]
      rw [if_neg (by omega)]
      simp [inAll_nil]))
    (fun i hi ih => by
      rw [drop_cons hi, inAll_cons]
      cases hc : inR a b (rd l (i : Int)) with
      | true =>
        rw [Bool.true_and]
        refine Ev.step (fun k => ?_) ih
        simp only [impl_allWithin.l0, within_eq, Option.bind_some, hc, if_true]
        rw [if_pos (by omega), if_pos (by omega), if_pos (by omega), w64s hi hl]
      | false =>
        refine ev_now (fun k => ?_)
        simp only [impl_allWithin.l0, within_eq, Option.bind_some, hc, Bool.false_eq_true, if_false]
        rw [if_pos (by omega), if_pos (by omega), if_pos (by omega)]
        simp)
  exact key 0 (by omega)

theorem implIsLane_ev (l : List Int) (hl : l.length ≤ 1048576) : Ev (fun k => impl_IsLane.f k l) (inAll 0 1 l && inR 3 24 (l.length : Int)) := by
  unfold impl_IsLane.f
  simp only [within_eq, Option.bind_some]
  cases h : inR 3 24 (l.length : Int) with
  | true =>
    simp only [if_true, Bool.and_true]
    exact Ev.bind (f := fun _ t => some t) (allWithin_ev l 0 1 (by omega)) (Ev.now _)
  | false =>
    simp only [Bool.false_eq_true, if_false, Bool.and_false]
    exact Ev.now _

theorem isTurns_ev (l : List Int) (t : Int) (hl : l.length ≤ 1048576) : Ev (fun k => impl_isTurns.f k l t) (turnsV l t) := by
  unfold impl_isTurns.f turnsV
  refine Ev.bind (implIsLane_ev l hl) ?_
  cases (inAll 0 1 l && inR 3 24 (l.length : Int)) with
  | true => simp only [if_true, within_eq, Option.bind_some, Bool.true_and]; exact Ev.now _
  | false => simp only [Bool.false_eq_true, if_false, Bool.false_and]; exact Ev.now _
theorem turns_of {l : List Int} {t : Int} (h : turnsV l t = true) : (bit01 l ∧ 3 ≤ l.length ∧ l.length ≤ 24) ∧ ∃ n : Nat, t = n ∧ n ≤ 60 := by
  unfold turnsV at h
  rw [Bool.and_eq_true] at h
  refine ⟨lane_of h.1, t.toNat, ?_, ?_⟩
  · have := inR_iff.1 h.2; omega
  · have := inR_iff.1 h.2; omega

theorem l1Own_eq (l : List Int) (h : l.length ≤ 1048576) : spec_l1Own.f l = some l := by
  unfold spec_l1Own.f
  simp only [Option.bind_some, List.length_nil, List.nil_append]
  rw [if_pos (by omega)]

theorem l8Turn_ev (l : List Int) (hb : bit01 l) (h2 : 2 ≤ l.length) (hl : l.length ≤ 1048576) : Ev (fun k => spec_l8Turn.f k l) (nx l, fl l) := by
  have key := down (P := fun i => Ev (fun k => spec_l8Turn.l0 k l (tab l.length (spOut l i)) (fp l i) (l.length : Int) (i : Int)) (nx l, fl l)) (n := l.length)
    (ev_now (fun k => by
      simp only [spec_l8Turn.l0]
      rw [if_neg (by omega), spOut_last hb]
      rfl))
    (fun i hi ih => by
      have hn := nxt_lt hi
      have hf := fp_bound l i
      refine Ev.step (fun k => ?_) ih
      simp only [spec_l8Turn.l0]
      rw [if_pos (by omega), if_neg (by omega), if_pos (by omega), if_pos (by omega), tmod_nxt hi hl, ← cy_in hi, ← cy_nxt hi]
      by_cases hm : M l i
      · rw [if_pos hm.1, if_pos (by omega), if_pos (by omega), if_pos hm.2, if_pos (by rw [tab_len]; omega), if_pos (by rw [tab_len]; omega), w64s hi (by omega),
          w64 (by omega) (by omega), fp_succ, if_pos hm, Int.toNat_natCast, Int.toNat_natCast, tab_set, tab_set]
        congr 1
        exact tab_congr (fun q hq => spOut_move hi h2 hm q hq)
      · rw [w64s hi (by omega), fp_succ, if_neg hm, Int.add_zero, tab_congr (fun q _ => spOut_stay hm q)]
        by_cases h1 : cy l (i : Int) = 1
        · rw [if_pos h1, if_pos (by omega), if_pos (by omega), if_neg (fun h0 => hm ⟨h1, h0⟩)]
        · rw [if_neg h1])
  unfold spec_l8Turn.f
  simp only [l1Own_eq l hl, Option.bind_some]
  have k0 := key 0 (by omega)
  rw [spOut_zero] at k0
  exact k0

theorem turn_ev (l : List Int) (hb : bit01 l) (h2 : 2 ≤ l.length) (hl : l.length ≤ 1048576) : Ev (fun k => impl_turn.f k l) (nx l, tab l.length (too l), fl l) := by
  have key := down (P := fun i => Ev (fun k => impl_turn.l0 k l (tab l.length (imOut l i)) (tab l.length (imTo l i)) (fp l i) l (l.length : Int) (i : Int)) (nx l, tab l.length (too l), fl l)) (n := l.length)
    (ev_now (fun k => by
      simp only [impl_turn.l0]
      rw [if_neg (by omega), imOut_last hb, imTo_last]
      rfl))
    (fun i hi ih => by
      have hn := nxt_lt hi
      have hf := fp_bound l i
      refine Ev.step (fun k => ?_) ih
      simp only [impl_turn.l0]
      rw [if_pos (by omega), if_pos (by omega), if_pos (by omega), if_pos (by rw [tab_len]; omega), tmod_nxt hi hl, ← cy_in hi, ← cy_nxt hi]
      simp only [Option.bind_some, Int.toNat_natCast, tab_set, tab_rd hi, if_true, tab_len]
      rw [w64s hi (by omega)]
      have eT : ∀ v, v = too l i → tab l.length (fun q => if q = i then v else imTo l i q) = tab l.length (imTo l (i + 1)) := by
        intro v hv
        refine tab_congr (fun q _ => ?_)
        unfold imTo
        by_cases e : q = i
        · subst e; rw [if_pos rfl, if_pos (by omega), hv]
        · rw [if_neg e]
          by_cases e2 : q < i
          · rw [if_pos e2, if_pos (by omega)]
          · rw [if_neg e2, if_neg (by omega)]
      rcases hb (i : Int) with h0 | h1
      · have hm : ¬ M l i := fun a => by have := a.1; rw [h0] at this; exact absurd this (by decide)
        rw [if_pos h0, fp_succ, if_neg hm, Int.add_zero, eT _ (by unfold too; rw [if_neg hm]), tab_congr (fun q _ => imOut_free h0 q)]
      · rw [if_neg (by omega), if_neg (by omega), if_pos (by omega), if_pos (by omega)]
        have eO := tab_congr (n := l.length) (fun q hq => imOut_car hi h1 q hq)
        by_cases hm : M l i
        · have et : too l i = ((nxt l.length i : Nat) : Int) := by unfold too; rw [if_pos hm]
          rw [et, Int.toNat_natCast] at eO
          rw [if_pos hm.2, if_pos (by omega), if_pos (by omega), w64 (by omega) (by omega), fp_succ, if_pos hm, eO]
          congr 1
          rw [← eT _ et.symm]
          refine tab_congr (fun q _ => ?_)
          by_cases e : q = i
          · rw [if_pos e, if_pos e]
          · rw [if_neg e, if_neg e, if_neg e]
        · have et : too l i = (i : Int) := by unfold too; rw [if_neg hm]
          rw [et, Int.toNat_natCast] at eO
          rw [if_neg (fun h0 => hm ⟨h1, h0⟩), if_pos (by omega), if_pos (by omega), fp_succ, if_neg hm, Int.add_zero, eO, eT _ et.symm])
  unfold impl_turn.f
  simp only [if_pos (show (0 : Int) ≤ (l.length : Int) by omega), Int.toNat_natCast, if_pos (show l.length ≤ 35184372088832 by omega), tab_rep]
  have k0 := key 0 (by omega)
  have e1 : tab l.length (imOut l 0) = tab l.length (fun _ => 0) := tab_congr (fun q _ => by unfold imOut; rw [if_neg (by omega)])
  have e2 : tab l.length (imTo l 0) = tab l.length (fun _ => 0) := tab_congr (fun q _ => by unfold imTo; rw [if_neg (by omega)])
  rw [e1, e2] at k0
  exact k0

theorem mapped_ev (g : Int → Option Int) (h : Int → Int) (l : List Int) (hl : l.length ≤ 1048576) (hg : ∀ x ∈ l, g x = some (h x)) : Ev (fun k => Mapped.f g k l) (l.map h) := by
  have e : l.map h = tab l.length (fun q => h (rd l (q : Int))) := by
    refine tab_ext (by simp) (fun q hq => ?_)
    rw [rd_nat, rd_nat, List.getD_eq_getElem?_getD, List.getD_eq_getElem?_getD, List.getElem?_map, List.getElem?_eq_getElem hq]
    rfl
  rw [e]
  have key := down (P := fun i => Ev (fun k => Mapped.l0 g k (tab i (fun q => h (rd l (q : Int)))) l (l.length : Int) (i : Int)) (tab l.length (fun q => h (rd l (q : Int))))) (n := l.length)
    (ev_now (fun k => by simp only [Mapped.l0]; rw [if_neg (by omega)]))
    (fun i hi ih => by
      refine Ev.step (fun k => ?_) ih
      simp only [Mapped.l0]
      rw [if_pos (by omega), if_pos (by omega), if_pos (by omega), hg _ (mem_of_rd hi), Option.bind_some, tab_len, if_pos (by omega), w64s hi (by omega), tab_snoc i (fun q => h (rd l (q : Int)))])
  exact key 0 (by omega)

def plc (l : List Int) (i : Nat) : List Int := ((List.range i).filter (fun p : Nat => decide (cy l (p : Int) = 1))).map (fun p : Nat => (p : Int))
theorem plc_succ (l : List Int) (i : Nat) : plc l (i + 1) = if cy l (i : Int) = 1 then plc l i ++ [(i : Int)] else plc l i := by
  unfold plc
  rw [List.range_succ, List.filter_append, List.map_append]
  by_cases h : cy l (i : Int) = 1
  · rw [if_pos h]; simp [h]
  · rw [if_neg h]; simp [h]
theorem plc_len (l : List Int) (i : Nat) : (plc l i).length ≤ i := by
  unfold plc
  rw [List.length_map]
  have := List.length_filter_le (fun p : Nat => decide (cy l (p : Int) = 1)) (List.range i)
  rw [List.length_range] at this
  exact this
/-- Every entry is a place of a car. -/
def carsAt (l out : List Int) : Prop := ∀ x ∈ out, ∃ p : Nat, x = (p : Int) ∧ p < l.length ∧ cy l (p : Int) = 1
theorem plc_cars (l : List Int) : carsAt l (plc l l.length) := by
  intro x hx
  unfold plc at hx
  simp only [List.mem_map, List.mem_filter, List.mem_range, decide_eq_true_eq] at hx
  obtain ⟨p, ⟨h1, h2⟩, rfl⟩ := hx
  exact ⟨p, rfl, h1, h2⟩
def stepC (l out : List Int) : List Int := out.map (fun x => too l x.toNat)
theorem stepC_len (l out : List Int) : (stepC l out).length = out.length := by simp [stepC]
theorem stepC_cars {l out : List Int} (hb : bit01 l) (h : carsAt l out) : carsAt (nx l) (stepC l out) := by
  intro x hx
  unfold stepC at hx
  simp only [List.mem_map] at hx
  obtain ⟨y, hy, rfl⟩ := hx
  obtain ⟨p, rfl, hp, hc⟩ := h y hy
  have h0 : 0 < l.length := by omega
  rw [Int.toNat_natCast]
  unfold too
  by_cases hM : M l p
  · rw [if_pos hM]
    refine ⟨nxt l.length p, rfl, by rw [nx_len]; exact nxt_lt hp, ?_⟩
    have e : cy l ((nxt l.length p : Nat) : Int) = cy l ((p : Int) + 1) := by rw [cy_nxt hp, cy_in (nxt_lt hp)]
    have e2 : cy l (((nxt l.length p : Nat) : Int) - 1) = cy l (p : Int) := by
      have := (cy_prv (l := l) (q := nxt l.length p) (nxt_lt hp)).1
      rw [prv_nxt hp] at this
      exact this.symm
    rw [cy_nx h0, if_neg (by rw [e]; have := hM.2; omega), e2]
    exact hc
  · rw [if_neg hM]
    refine ⟨p, rfl, by rw [nx_len]; exact hp, ?_⟩
    rw [cy_nx h0, if_pos hc]
    rcases hb ((p : Int) + 1) with a | a
    · exact absurd ⟨hc, a⟩ hM
    · exact a
def cpi : Nat → List Int → List Int → List Int
  | 0, _, o => o
  | t + 1, l, o => stepC (itn t l) (cpi t l o)
theorem cpi_len (t : Nat) (l o : List Int) : (cpi t l o).length = o.length := by
  induction t with
  | zero => rfl
  | succ t ih => show (stepC _ _).length = _; rw [stepC_len, ih]
theorem cpi_cars {l o : List Int} (h0 : 0 < l.length) (hb : bit01 l) (h : carsAt l o) (t : Nat) : carsAt (itn t l) (cpi t l o) := by
  induction t with
  | zero => exact h
  | succ t ih => exact stepC_cars (bits_itn h0 hb t) ih
def carsR (l : List Int) (t : Int) : List Int × Bool := if turnsV l t = true then (cpi t.toNat l (plc l l.length), true) else ([], false)
theorem carsR_len (l : List Int) (t : Int) : (carsR l t).1.length ≤ 1048576 := by
  unfold carsR
  split
  · rename_i h
    have := turns_of h
    have := plc_len l l.length
    simp only [cpi_len]
    omega
  · simp
/-- One turn's loop over the cars. -/
theorem specStep (l out : List Int) (hb : bit01 l) (h2 : 2 ≤ l.length) (hl : l.length ≤ 1048576) (ho : out.length ≤ 1048576) (hc : carsAt l out) (T i R) (hR : Ev (fun k => (spec_l8Turn.f k l).bind fun b => spec_CarPlaces.l1 k T (stepC l out) b.1 (l.length : Int) (wrap64 (i + 1))) R) :
    Ev (fun k => spec_CarPlaces.l2 k T out l (l.length : Int) i 0) R := by
  have key := down (P := fun j => Ev (fun k => spec_CarPlaces.l2 k T (tab out.length (fun q => if q < j then too l (rd out (q : Int)).toNat else rd out (q : Int))) l (l.length : Int) i (j : Int)) R) (n := out.length)
    (by
      refine Ev.step (fun k => ?_) hR
      simp only [spec_CarPlaces.l2, tab_len]
      rw [if_neg (by omega)]
      have e : tab out.length (fun q => if q < out.length then too l (rd out (q : Int)).toNat else rd out (q : Int)) = stepC l out := by
        unfold stepC
        refine Eq.symm (tab_ext (by simp) (fun q hq => ?_))
        rw [if_pos hq, rd_nat, rd_nat, List.getD_eq_getElem?_getD, List.getD_eq_getElem?_getD, List.getElem?_map, List.getElem?_eq_getElem hq]
        rfl
      rw [e])
    (fun j hj ih => by
      obtain ⟨p, e, hp, hc1⟩ := hc _ (mem_of_rd hj)
      have hn := nxt_lt hp
      refine Ev.step (fun k => ?_) ih
      simp only [spec_CarPlaces.l2, tab_len]
      rw [if_pos (by omega), if_pos (by omega), if_neg (by omega), tab_rd hj, if_neg (Nat.lt_irrefl j), e, tmod_nxt hp hl, if_pos (by omega), if_pos (by omega), ← cy_nxt hp, w64s hj (by omega)]
      have key2 : ∀ v : Int, v = too l p → (tab out.length (fun q => if q < j then too l (rd out (q : Int)).toNat else rd out (q : Int))).set j v = tab out.length (fun q => if q < j + 1 then too l (rd out (q : Int)).toNat else rd out (q : Int)) := by
        intro v hv
        rw [tab_set]
        refine tab_congr (fun q hq => ?_)
        by_cases h1 : q = j
        · subst h1; rw [if_pos rfl, if_pos (by omega), e, Int.toNat_natCast]; exact hv
        · rw [if_neg h1]
          by_cases h3 : q < j
          · rw [if_pos h3, if_pos (by omega)]
          · rw [if_neg h3, if_neg (by omega)]
      by_cases hM : cy l ((p : Int) + 1) = 0
      · rw [if_pos hM, Int.toNat_natCast, key2 _ (by unfold too; rw [if_pos (show M l p from ⟨hc1, hM⟩)])]
      · rw [if_neg hM]
        refine congrArg (fun z => spec_CarPlaces.l2 k T z _ _ _ _) ?_
        refine tab_congr (fun q hq => ?_)
        by_cases h1 : q = j
        · subst h1; rw [if_neg (by omega), if_pos (by omega), e, Int.toNat_natCast]; unfold too; rw [if_neg (fun a => hM a.2)]
        · by_cases h3 : q < j
          · rw [if_pos h3, if_pos (by omega)]
          · rw [if_neg h3, if_neg (by omega)])
  have k0 := key 0 (by omega)
  have e0 : tab out.length (fun q => if q < 0 then too l (rd out (q : Int)).toNat else rd out (q : Int)) = out := by
    refine Eq.trans (tab_congr (fun q _ => ?_)) (tab_of out).symm
    rw [if_neg (by omega)]
  rw [e0] at k0
  exact k0
theorem specCars_ev (l : List Int) (t : Int) (hl : l.length ≤ 1048576) : Ev (fun k => spec_CarPlaces.f k l t) (carsR l t) := by
  unfold spec_CarPlaces.f carsR
  simp only [Option.bind_some]
  refine Ev.bind (l8Turns_ev l t) ?_
  cases hv : turnsV l t with
  | true =>
    obtain ⟨hL, n, rfl, hn⟩ := turns_of hv
    have hpl := plc_len l l.length
    simp only [if_true, Int.toNat_natCast]
    have key2 := down (P := fun i => Ev (fun k => spec_CarPlaces.l1 k (n : Int) (cpi i l (plc l l.length)) (itn i l) (l.length : Int) (i : Int)) (cpi n l (plc l l.length), true)) (n := n)
      (ev_now (fun k => by simp only [spec_CarPlaces.l1]; rw [if_neg (by omega)]))
      (fun i hi ih => by
        refine Ev.step (f := fun k => spec_CarPlaces.l2 k (n : Int) (cpi i l (plc l l.length)) (itn i l) (l.length : Int) (i : Int) 0) (fun k => by simp only [spec_CarPlaces.l1]; rw [if_pos (show (i : Int) < (n : Int) by omega)]) ?_
        have hb := bits_itn (by omega) hL.1 i
        have s := specStep (itn i l) (cpi i l (plc l l.length)) hb (by rw [itn_len]; omega) (by rw [itn_len]; omega) (by rw [cpi_len]; omega) (cpi_cars (by omega) hL.1 (plc_cars l) i) (n : Int) (i : Int) (cpi n l (plc l l.length), true)
          (Ev.bind (l8Turn_ev _ hb (by rw [itn_len]; omega) (by rw [itn_len]; omega)) (by
            simp only [w64s hi (show n ≤ 1152921504606846976 by omega), itn_len]
            exact ih))
        rw [itn_len] at s
        exact s)
    have key := down (P := fun i => Ev (fun k => spec_CarPlaces.l0 k l (n : Int) (plc l i) (i : Int)) (cpi n l (plc l l.length), true)) (n := l.length)
      (by
        refine Ev.step (fun k => ?_) (key2 0 (by omega))
        simp only [spec_CarPlaces.l0]
        rw [if_neg (by omega), l1Own_eq l hl, Option.bind_some]
        rfl)
      (fun i hi ih => by
        have hj := plc_len l i
        refine Ev.step (fun k => ?_) ih
        simp only [spec_CarPlaces.l0]
        rw [if_pos (by omega), if_pos (by omega), ← cy_in hi, w64s hi (by omega), plc_succ]
        by_cases h1 : cy l (i : Int) = 1
        · rw [if_pos h1, if_pos h1, if_pos (by omega)]
        · rw [if_neg h1, if_neg h1])
    exact key 0 (by omega)
  | false =>
    simp only [Bool.false_eq_true, if_false]
    exact Ev.now _
theorem implCars_ev (l : List Int) (t : Int) (hl : l.length ≤ 1048576) : Ev (fun k => impl_CarPlaces.f k l t) (carsR l t) := by
  unfold impl_CarPlaces.f carsR
  refine Ev.bind (isTurns_ev l t hl) ?_
  cases hv : turnsV l t with
  | true =>
    obtain ⟨hL, n, rfl, hn⟩ := turns_of hv
    have hpl := plc_len l l.length
    simp only [if_true, Int.toNat_natCast]
    have key2 := down (P := fun i => Ev (fun k => impl_CarPlaces.l1 k (itn i l) (cpi i l (plc l l.length)) (n : Int) (i : Int)) (cpi n l (plc l l.length), true)) (n := n)
      (ev_now (fun k => by simp only [impl_CarPlaces.l1]; rw [if_neg (by omega)]))
      (fun i hi ih => by
        refine Ev.step (f := fun k => (impl_turn.f k (itn i l)).bind fun b => (mapped_54.f k (cpi i l (plc l l.length)) b.2.1).bind fun c => impl_CarPlaces.l1 k b.1 c (n : Int) (wrap64 ((i : Int) + 1))) (fun k => by simp only [impl_CarPlaces.l1]; rw [if_pos (show (i : Int) < (n : Int) by omega)]) ?_
        refine Ev.bind (turn_ev _ (bits_itn (by omega) hL.1 i) (by rw [itn_len]; omega) (by rw [itn_len]; omega)) ?_
        refine Ev.bind (g := fun k => mapped_54.f k (cpi i l (plc l l.length)) (tab (itn i l).length (too (itn i l)))) (mapped_ev _ (fun x => too (itn i l) x.toNat) _ (by rw [cpi_len]; omega) (fun x hx => ?_)) ?_
        · obtain ⟨p, rfl, hp, _⟩ := cpi_cars (by omega) hL.1 (plc_cars l) i x hx
          unfold atG
          rw [tab_len, if_pos ⟨by omega, by omega⟩, tab_rd hp, Int.toNat_natCast]
        · simp only [w64s hi (show n ≤ 1152921504606846976 by omega)]
          exact ih)
    have key := down (P := fun i => Ev (fun k => impl_CarPlaces.l0 k l (n : Int) (plc l i) l (l.length : Int) (i : Int)) (cpi n l (plc l l.length), true)) (n := l.length)
      (by
        refine Ev.step (fun k => ?_) (key2 0 (by omega))
        simp only [impl_CarPlaces.l0]
        rw [if_neg (by omega)]
        rfl)
      (fun i hi ih => by
        have hj := plc_len l i
        refine Ev.step (fun k => ?_) ih
        simp only [impl_CarPlaces.l0]
        rw [if_pos (by omega), if_pos (by omega), if_pos (by omega), ← cy_in hi, w64s hi (by omega), plc_succ]
        by_cases h1 : cy l (i : Int) = 1
        · rw [if_pos h1, if_pos h1, if_pos (by omega)]
        · rw [if_neg h1, if_neg h1])
    exact key 0 (by omega)
  | false =>
    simp only [Bool.false_eq_true, if_false]
    exact Ev.now _

theorem FnExactCarPlaces : FnExactCarPlacesLeft := by
  intro l t _ _ _
  refine Ev.rounds (g := fun k => laws_FnExactCarPlaces.f k l t) ?_
  unfold laws_FnExactCarPlaces.f
  by_cases h : (l.length : Int) > 1048576
  · exact ev_pos h (Ev.now _)
  refine ev_neg h ?_
  have hl : l.length ≤ 1048576 := by omega
  have hr := carsR_len l t
  repeat (first
    | exact Ev.now _
    | (with_reducible refine Ev.bind (toIntS_ev _ hl) ?_; try dsimp only)
    | (with_reducible refine Ev.bind (specCars_ev _ _ hl) ?_; try dsimp only)
    | (with_reducible refine Ev.bind (implCars_ev _ _ hl) ?_; try dsimp only)
    | (with_reducible refine Ev.bind (markIntS_ev _ _ hl (by omega) (by omega)) ?_; try dsimp only)
    | (with_reducible refine Ev.bind (markIntS_ev _ _ hr (by omega) (by omega)) ?_; try dsimp only)
    | (with_reducible refine Ev.bind (heldIntS_ev _ _ hr (by omega) (by omega)) ?_; try dsimp only)
    | (with_reducible refine Ev.bind (eqIntS_self _ (by omega)) ?_; try dsimp only)
    | (refine ev_pos (by first | exact True.intro | rfl | assumption | omega) ?_; try dsimp only)
    | (refine ev_neg (by first | (simp; done) | omega) ?_; try dsimp only)
    | (refine Ev.step (fun k => by simp only [laws_FnExactCarPlaces.j0]; rfl) ?_)
    | (refine Ev.step (fun k => by simp only [laws_FnExactCarPlaces.j1]; rfl) ?_)
    | (refine Ev.step (fun k => by simp only [laws_FnExactCarPlaces.j2]; rfl) ?_))

end Go.Proofs.Ythkbjcihelmaeaa.Pure
