/- FnExactReachOrder: the left statement: for every road, list of carriers and numbers the law answers true. No condition. -/
import Derived.Test.YthagkpoinjpmfaaQFnExactReachOrderx8
import Derived.Test.YthagkpoinjpmfaaBase
namespace Go.Proofs.Ythagkpoinjpmfaa.Pure
open Go.RowKit Go.Proofs.Ythagkpoinjpmfaa.QFnExactReachOrder Go.Proofs.YthagkpoinjpmfaaW.PrintWords Go.Proofs.YthagkpoinjpmfaaW.PrintLast Go.Proofs.Ythagkpoinjpmfaa.Base
set_option linter.unusedVariables false
set_option linter.unusedSimpArgs false

def FnExactReachOrderLeft : Prop := ∀ (a0_0 : Int) (a0_1 : Bool) (l1 : List S75) (a2 : Int) (a3 : Int), (Lit.int .i64 a0_0).wf = true → l1.length ≤ maxLen → (∀ x ∈ l1, (Lit.int .i64 x.f0).wf = true ∧ (Lit.int .i64 x.f1).wf = true ∧ (Lit.int .i64 x.f2).wf = true) → (Lit.int .i64 a2).wf = true → (Lit.int .i64 a3).wf = true → ∃ k, laws_FnExactReachOrder.f k a0_0 a0_1 l1 a2 a3 = some true

def cvC (l : List S75) : List S63 := tg l.length (fun q => ⟨(l.getD q z75).f0, (l.getD q z75).f1, (l.getD q z75).f2⟩)
theorem cvC_len (l : List S75) : (cvC l).length = l.length := tg_len _ _
theorem toCarrierS_ev (l : List S75) (hl : l.length ≤ 1048576) : Ev (fun k => laws_toCarrierS.f k l) (cvC l) := by
  have key := down (P := fun i => Ev (fun k => laws_toCarrierS.l0 k l (tg l.length (fun q => if q < i then ⟨(l.getD q z75).f0, (l.getD q z75).f1, (l.getD q z75).f2⟩ else z63)) (i : Int)) (cvC l)) (n := l.length)
    (ev_now (fun k => by
      simp only [laws_toCarrierS.l0]
      rw [if_neg (by omega)]
      congr 1
      exact tg_congr (fun q hq => by rw [if_pos hq])))
    (fun i hi ih => by
      refine Ev.step (fun k => ?_) ih
      simp only [laws_toCarrierS.l0, laws_toCarrier.f, Option.bind_some]
      rw [if_pos (by omega), if_pos (by omega), if_pos (by rw [tg_len]; omega), w64s hi (by omega), Int.toNat_natCast, tg_set]
      congr 1
      refine tg_congr (fun q _ => ?_)
      by_cases e : q = i
      · subst e; rw [if_pos rfl, if_pos (by omega)]; rfl
      · rw [if_neg e]
        by_cases e2 : q < i
        · rw [if_pos e2, if_pos (by omega)]
        · rw [if_neg e2, if_neg (by omega)])
  unfold laws_toCarrierS.f
  refine ev_pos (by omega) (ev_pos (by omega) ?_)
  rw [Int.toNat_natCast, tg_rep]
  have k0 := key 0 (by omega)
  simpa using k0
theorem szCarrierS_eq (l : List S75) (hl : l.length ≤ maxLen) : laws_szCarrierS.f l 1048576 = some (if 1048576 - (l.length : Int) < 0 then -1 else 1048576 - (l.length : Int)) := by
  have hm : l.length ≤ 9223372036854775807 := by simpa [maxLen] using hl
  unfold laws_szCarrierS.f
  rw [w64 (by omega) (by omega)]
  split <;> rfl
theorem toRoad_eq (s : Int) (r : Bool) : laws_toRoad.f s r = some (s, r) := rfl

theorem eqCarrierS_self (l : List S63) (hl : l.length ≤ 1048576) : Ev (fun k => laws_eqCarrierS.f k l l) true := by
  have key := down (P := fun i => Ev (fun k => laws_eqCarrierS.l0 k l l (i : Int)) true) (n := l.length)
    (ev_now (fun k => by simp only [laws_eqCarrierS.l0]; rw [if_neg (by omega)]))
    (fun i hi ih => by
      refine Ev.step (fun k => ?_) ih
      simp only [laws_eqCarrierS.l0, laws_eqCarrier.f, if_true, Option.bind_some]
      rw [if_pos (by omega), if_pos (by omega), if_pos (by omega), w64s hi (by omega)])
  unfold laws_eqCarrierS.f
  exact ev_pos rfl (key 0 (by omega))

theorem markCarrierS_ev (l : List S63) (a : Int) (hl : l.length ≤ 1048576) (ha : 0 ≤ a) (ha2 : a ≤ 1152921504606846976) : ∃ l2 : List S63, Ev (fun k => laws_markCarrierS.f k l a) (a + 3 * (l.length : Int), l2) := by
  have key := down (P := fun i => ∀ m : List S63, m.length = l.length → ∃ l2 : List S63, Ev (fun k => laws_markCarrierS.l0 k m (a + 3 * (i : Int)) (i : Int)) (a + 3 * (l.length : Int), l2)) (n := l.length)
    (fun m hm => ⟨m, ev_now (fun k => by
      simp only [laws_markCarrierS.l0]
      rw [if_neg (by omega)])⟩)
    (fun i hi ih m hm => by
      obtain ⟨l2, h2⟩ := ih _ (show ((((m.set (i : Nat) ⟨a + 3 * (i : Int), (rd_T63 m (i : Int)).f1, (rd_T63 m (i : Int)).f2⟩).set (i : Nat) ⟨(rd_T63 (m.set (i : Nat) ⟨a + 3 * (i : Int), (rd_T63 m (i : Int)).f1, (rd_T63 m (i : Int)).f2⟩) (i : Int)).f0, a + 3 * (i : Int) + 1, (rd_T63 (m.set (i : Nat) ⟨a + 3 * (i : Int), (rd_T63 m (i : Int)).f1, (rd_T63 m (i : Int)).f2⟩) (i : Int)).f2⟩) : List S63).set (i : Nat) ⟨(rd_T63 ((m.set (i : Nat) ⟨a + 3 * (i : Int), (rd_T63 m (i : Int)).f1, (rd_T63 m (i : Int)).f2⟩).set (i : Nat) ⟨(rd_T63 (m.set (i : Nat) ⟨a + 3 * (i : Int), (rd_T63 m (i : Int)).f1, (rd_T63 m (i : Int)).f2⟩) (i : Int)).f0, a + 3 * (i : Int) + 1, (rd_T63 (m.set (i : Nat) ⟨a + 3 * (i : Int), (rd_T63 m (i : Int)).f1, (rd_T63 m (i : Int)).f2⟩) (i : Int)).f2⟩) (i : Int)).f0, (rd_T63 ((m.set (i : Nat) ⟨a + 3 * (i : Int), (rd_T63 m (i : Int)).f1, (rd_T63 m (i : Int)).f2⟩).set (i : Nat) ⟨(rd_T63 (m.set (i : Nat) ⟨a + 3 * (i : Int), (rd_T63 m (i : Int)).f1, (rd_T63 m (i : Int)).f2⟩) (i : Int)).f0, a + 3 * (i : Int) + 1, (rd_T63 (m.set (i : Nat) ⟨a + 3 * (i : Int), (rd_T63 m (i : Int)).f1, (rd_T63 m (i : Int)).f2⟩) (i : Int)).f2⟩) (i : Int)).f1, a + 3 * (i : Int) + 1 + 1⟩).length = l.length by simpa using hm)
      refine ⟨l2, Ev.step (fun k => ?_) h2⟩
      simp only [laws_markCarrierS.l0, Option.bind_some, Int.toNat_natCast]
      rw [if_pos (by omega), if_pos (by omega), w64s hi (by omega), w64 (x := a + 3 * (i : Int) + 1) (by omega) (by omega), w64 (x := a + 3 * (i : Int) + 1 + 1) (by omega) (by omega), w64 (by omega) (by omega)]
      congr 1
      omega)
  obtain ⟨l2, h2⟩ := key 0 (by omega) l rfl
  refine ⟨l2, ?_⟩
  unfold laws_markCarrierS.f
  simpa using h2

theorem eqIntS_ev (a b : List Int) (hl : a.length ≤ 1152921504606846976) : Ev (fun k => laws_eqIntS.f k a b) (decide (a = b)) := by
  by_cases h : a.length = b.length
  · have key := down (P := fun i => Ev (fun k => laws_eqIntS.l0 k a b (i : Int)) (decide (a.drop i = b.drop i))) (n := a.length)
      (ev_now (fun k => by
        simp only [laws_eqIntS.l0]
        rw [if_neg (by omega)]
        simp
        omega))
      (fun i hi ih => by
        rw [drop_cons hi, drop_cons (l := b) (by omega)]
        by_cases e : rd a (i : Int) = rd b (i : Int)
        · have e2 : decide (rd a (i : Int) :: a.drop (i + 1) = rd b (i : Int) :: b.drop (i + 1)) = decide (a.drop (i + 1) = b.drop (i + 1)) := by simp [e]
          rw [e2]
          refine Ev.step (fun k => ?_) ih
          simp only [laws_eqIntS.l0]
          rw [if_pos (by omega), if_pos (by omega), if_pos (by omega), if_pos e, w64s hi hl]
        · refine ev_now (fun k => ?_)
          simp only [laws_eqIntS.l0]
          rw [if_pos (by omega), if_pos (by omega), if_pos (by omega), if_neg e]
          simp [e])
    refine Ev.congr (fun k => ?_) (key 0 (by omega))
    unfold laws_eqIntS.f
    rw [if_pos (by omega)]
    rfl
  · refine Ev.congr (fun k => ?_) (Ev.now _)
    unfold laws_eqIntS.f
    rw [if_neg (by omega)]
    simp
    intro e
    exact h (by rw [e])
theorem eqIntS_self (a : List Int) (hl : a.length ≤ 1152921504606846976) : Ev (fun k => laws_eqIntS.f k a a) true := by
  have := eqIntS_ev a a hl
  simpa using this

theorem markIntS_ev (l : List Int) (a : Int) (hl : l.length ≤ 1048576) (ha : 0 ≤ a) (ha2 : a ≤ 1152921504606846976) : Ev (fun k => laws_markIntS.f k l a) (a + (l.length : Int), cnt a l.length) := by
  have key := down (P := fun i => Ev (fun k => laws_markIntS.l0 k (tab l.length (fun q => if q < i then a + q else rd l (q : Int))) (a + (i : Int)) (i : Int)) (a + (l.length : Int), cnt a l.length)) (n := l.length)
    (ev_now (fun k => by
      simp only [laws_markIntS.l0]
      rw [if_neg (by rw [tab_len]; omega)]
      congr 2
      exact tab_congr (fun q hq => by rw [if_pos hq])))
    (fun i hi ih => by
      refine Ev.step (fun k => ?_) ih
      simp only [laws_markIntS.l0]
      rw [if_pos (by rw [tab_len]; omega), if_pos (by omega), w64s hi (by omega), Int.toNat_natCast, tab_set, w64 (by omega) (by omega)]
      congr 1
      · refine tab_congr (fun q _ => ?_)
        by_cases e : q = i
        · subst e; rw [if_pos rfl, if_pos (by omega)]
        · rw [if_neg e]
          by_cases e2 : q < i
          · rw [if_pos e2, if_pos (by omega)]
          · rw [if_neg e2, if_neg (by omega)]
      · omega)
  refine Ev.congr (fun k => ?_) (key 0 (by omega))
  unfold laws_markIntS.f
  congr 1
  · rw [← tab_ext rfl (fun q _ => by rw [if_neg (by omega)])]
  · simp

theorem heldIntS_ev (n : Nat) (a : Int) (hl : n ≤ 1048576) (ha : 0 ≤ a) (ha2 : a ≤ 1152921504606846976) : Ev (fun k => laws_heldIntS.f k (cnt a n) a) (a + (n : Int)) := by
  have key := down (P := fun i => Ev (fun k => laws_heldIntS.l0 k (cnt a n) (a + (i : Int)) (i : Int)) (a + (n : Int))) (n := n)
    (ev_now (fun k => by
      simp only [laws_heldIntS.l0]
      rw [if_neg (by rw [cnt_len]; omega)]))
    (fun i hi ih => by
      refine Ev.step (fun k => ?_) ih
      simp only [laws_heldIntS.l0]
      rw [if_pos (by rw [cnt_len]; omega), if_pos (by omega), if_pos (by unfold cnt; rw [tab_rd hi]), w64s hi (by omega), w64 (by omega) (by omega)]
      congr 1
      omega)
  refine Ev.congr (fun k => ?_) (key 0 (by omega))
  unfold laws_heldIntS.f
  simp

theorem l1In_eq (a b c : Int) : spec_l1In.f a b c = some (inR b c a) := by
  unfold spec_l1In.f inR
  by_cases h : a ≥ b
  · have h' : b ≤ a := h
    rw [if_pos h]; simp [h']
  · have h' : ¬ b ≤ a := h
    rw [if_neg h]; simp [h']

theorem within_eq (a b c : Int) : impl_within.f a b c = some (inR b c a) := by
  unfold impl_within.f inR
  by_cases h : a ≥ b
  · have h' : b ≤ a := h
    rw [if_pos h]; simp [h']
  · have h' : ¬ b ≤ a := h
    rw [if_neg h]; simp [h']

def lineV (s : Int) (r : Bool) : Bool := inR 2 24 s && !r
theorem line_of {s : Int} {r : Bool} (h : lineV s r = true) : (2 ≤ s ∧ s ≤ 24) ∧ r = false := by
  unfold lineV at h
  rw [Bool.and_eq_true, inR_iff] at h
  exact ⟨h.1, by simpa using h.2⟩
theorem l2Road_eq (s : Int) (r : Bool) : spec_l2Road.f s r = some (inR 2 24 s && (!r || decide (s > 2))) := by
  unfold spec_l2Road.f
  simp only [l1In_eq, Option.bind_some]
  cases inR 2 24 s <;> cases r <;> simp
theorem isRoad_eq (s : Int) (r : Bool) : impl_IsRoad.f s r = some (inR 2 24 s && (!r || decide (s > 2))) := by
  unfold impl_IsRoad.f
  simp only [within_eq, Option.bind_some]
  cases h : inR 2 24 s <;> cases r <;> simp <;> omega
theorem isLine_eq (s : Int) (r : Bool) : impl_isLine.f s r = some (lineV s r) := by
  unfold impl_isLine.f lineV
  simp only [isRoad_eq, Option.bind_some]
  cases inR 2 24 s <;> cases r <;> simp

theorem l3Line_eq (s : Int) (r : Bool) (a : Int) : spec_l3Line.f s r a = some (lineV s r && inR 0 (s - 1) a) := by
  unfold spec_l3Line.f lineV
  simp only [l2Road_eq, l1In_eq, Option.bind_some]
  cases h : inR 2 24 s with
  | false => simp
  | true =>
    have hs := inR_iff.1 h
    rw [w64 (by omega) (by omega)]
    cases r <;> simp

theorem allWithin_ev (l : List Int) (a b : Int) (hl : l.length ≤ 1152921504606846976) : Ev (fun k => impl_allWithin.f k l a b) (inAll a b l) := by
  have key := down (P := fun i => Ev (fun k => impl_allWithin.l0 k a b l (l.length : Int) (i : Int)) (inAll a b (l.drop i))) (n := l.length)
    (ev_now (fun k => by
      simp only [impl_allWithin.l0]
      rw [if_neg (by omega)]
      simp [inAll_nil]))
    (fun i hi ih => by
      rw [drop_cons hi, inAll_cons]
      cases hc : inR a b (rd l (i : Int)) with
      | true =>
        rw [Bool.true_and]
        refine Ev.step (fun k => ?_) ih
        simp only [impl_allWithin.l0, within_eq, Option.bind_some, hc, if_true]
        rw [if_pos (by omega), if_pos (by omega), if_pos (by omega), w64s hi hl]
      | false =>
        refine ev_now (fun k => ?_)
        simp only [impl_allWithin.l0, within_eq, Option.bind_some, hc, Bool.false_eq_true, if_false]
        rw [if_pos (by omega), if_pos (by omega), if_pos (by omega)]
        simp)
  exact key 0 (by omega)

def carC (s : Int) (l : List S63) (j : Nat) : Prop := (0 ≤ (l.getD j z63).f0 ∧ (l.getD j z63).f0 ≤ s - 1) ∧ (0 ≤ (l.getD j z63).f1 ∧ (l.getD j z63).f1 ≤ 48) ∧ 0 ≤ (l.getD j z63).f2 ∧ (l.getD j z63).f2 ≤ 20
instance (s : Int) (l : List S63) : DecidablePred (carC s l) := fun j => by unfold carC; infer_instance
def carV (s : Int) (r : Bool) (l : List S63) : Bool := (lineV s r && decide ((l.length : Int) ≤ 6)) && allF l.length (carC s l) 0
theorem carV_of {s : Int} {r : Bool} {l : List S63} (h : carV s r l = true) : ((2 ≤ s ∧ s ≤ 24) ∧ r = false) ∧ l.length ≤ 6 ∧ ∀ j, j < l.length → carC s l j := by
  unfold carV at h
  rw [Bool.and_eq_true, Bool.and_eq_true] at h
  have := of_decide_eq_true h.1.2
  exact ⟨line_of h.1.1, by omega, allF_of h.2⟩
theorem rdC_nat (l : List S63) (j : Nat) : rd_T63 l (j : Int) = l.getD j z63 := rfl
theorem l7Carriers_ev (s : Int) (r : Bool) (l : List S63) (hl : l.length ≤ 1048576) : Ev (fun k => spec_l7Carriers.f k s r l) (carV s r l) := by
  have key := down (P := fun i => Ev (fun k => spec_l7Carriers.l0 k l (i : Int) s r) ((lineV s r && decide ((l.length : Int) ≤ 6)) && allF l.length (carC s l) i)) (n := l.length)
    (ev_now (fun k => by
      simp only [spec_l7Carriers.l0, l2Road_eq, Option.bind_some]
      rw [if_neg (by omega), allF_end]
      unfold lineV
      cases inR 2 24 s <;> cases r <;> simp))
    (fun i hi ih => by
      rw [allF_step hi]
      have e3 : ∀ k, spec_l7Carriers.l0 (k + 1) l (i : Int) s r = if ((lineV s r && inR 0 (s - 1) (l.getD i z63).f0) && (inR 0 48 (l.getD i z63).f1 && inR 0 20 (l.getD i z63).f2)) = true then spec_l7Carriers.l0 k l ((i + 1 : Nat) : Int) s r else some false := by
        intro k
        simp only [spec_l7Carriers.l0, spec_l7Carrier.f, l3Line_eq, l1In_eq, Option.bind_some, rdC_nat]
        rw [if_pos (by omega), if_pos (by omega), w64s hi (by omega)]
        cases (lineV s r && inR 0 (s - 1) (l.getD i z63).f0) <;> cases inR 0 48 (l.getD i z63).f1 <;> cases inR 0 20 (l.getD i z63).f2 <;> rfl
      cases hL : lineV s r with
      | false =>
        refine ev_now (fun k => ?_)
        rw [e3, hL]; simp
      | true =>
        rw [hL] at ih
        by_cases hc : carC s l i
        · rw [decide_eq_true hc, Bool.true_and]
          refine Ev.step (fun k => ?_) ih
          rw [e3, hL, Bool.true_and, inR_iff.2 hc.1, inR_iff.2 hc.2.1, inR_iff.2 hc.2.2]
          rfl
        · rw [decide_eq_false hc, Bool.false_and, Bool.and_false]
          refine ev_now (fun k => ?_)
          rw [e3, hL, Bool.true_and, if_neg]
          intro h
          simp only [Bool.and_eq_true, inR_iff] at h
          exact hc ⟨h.1, h.2.1, h.2.2⟩)
  exact key 0 (by omega)
theorem areCarriers_ev (s : Int) (r : Bool) (l : List S63) (hl : l.length ≤ 1048576) (hs : 2 ≤ s ∧ s ≤ 24) : Ev (fun k => impl_Road_areCarriers.f k s r l) (decide ((l.length : Int) ≤ 6) && allF l.length (carC s l) 0) := by
  have key := down (P := fun i => Ev (fun k => impl_Road_areCarriers.l0 k l l (l.length : Int) (i : Int) s r) (decide ((l.length : Int) ≤ 6) && allF l.length (carC s l) i)) (n := l.length)
    (ev_now (fun k => by
      simp only [impl_Road_areCarriers.l0]
      rw [if_neg (by omega), allF_end, Bool.and_true]))
    (fun i hi ih => by
      rw [allF_step hi]
      have hh : Ev (fun k => impl_Road_has.f k s r [(l.getD i z63).f0]) (inR 0 (s - 1) (l.getD i z63).f0) := by
        unfold impl_Road_has.f
        rw [w64 (by omega) (by omega)]
        have := allWithin_ev [(l.getD i z63).f0] 0 (s - 1) (by simp)
        have e : inAll 0 (s - 1) [(l.getD i z63).f0] = inR 0 (s - 1) (l.getD i z63).f0 := by simp [inAll]
        rw [e] at this
        exact Ev.bind this (Ev.now _)
      refine Ev.step (f := fun k => (impl_Road_has.f k s r [(l.getD i z63).f0]).bind fun t => if t = true then (if (inR 0 48 (l.getD i z63).f1 && inR 0 20 (l.getD i z63).f2) = true then impl_Road_areCarriers.l0 k l l (l.length : Int) ((i + 1 : Nat) : Int) s r else some false) else some false) (fun k => ?_) (Ev.bind hh ?_)
      · simp only [impl_Road_areCarriers.l0, within_eq, Option.bind_some, rdC_nat]
        rw [if_pos (by omega), if_pos (by omega), if_pos (by omega), w64s hi (by omega)]
        cases inR 0 48 (l.getD i z63).f1 <;> cases inR 0 20 (l.getD i z63).f2 <;> rfl
      · by_cases hc : carC s l i
        · rw [decide_eq_true hc, Bool.true_and]
          exact ev_pos (inR_iff.2 hc.1) (ev_pos (by rw [inR_iff.2 hc.2.1, inR_iff.2 hc.2.2]; rfl) ih)
        · rw [decide_eq_false hc, Bool.false_and, Bool.and_false]
          by_cases h1 : inR 0 (s - 1) (l.getD i z63).f0 = true
          · exact ev_pos h1 (ev_neg (fun h2 => by
              simp only [Bool.and_eq_true, inR_iff] at h2
              exact hc ⟨inR_iff.1 h1, h2.1, h2.2⟩) (Ev.now _))
          · exact ev_neg h1 (Ev.now _))
  exact key 0 (by omega)
def asksV (s : Int) (r : Bool) (l : List S63) (a b : Int) : Bool := carV s r l && (inR 0 (s - 1) b && inR 0 b a)
theorem asks_of {s : Int} {r : Bool} {l : List S63} {a b : Int} (h : asksV s r l a b = true) : carV s r l = true ∧ (0 ≤ a ∧ a ≤ b ∧ b ≤ s - 1) := by
  unfold asksV at h
  simp only [Bool.and_eq_true, inR_iff] at h
  exact ⟨h.1, by omega⟩
theorem l7Asks_ev (s : Int) (r : Bool) (l : List S63) (a b : Int) (hl : l.length ≤ 1048576) : Ev (fun k => spec_l7Asks.f k s r l a b) (asksV s r l a b) := by
  unfold spec_l7Asks.f asksV
  refine Ev.bind (l7Carriers_ev s r l hl) ?_
  cases hv : carV s r l with
  | true =>
    obtain ⟨⟨hs, rfl⟩, _⟩ := carV_of hv
    simp only [if_true, spec_l2Place.f, l2Road_eq, l1In_eq, Option.bind_some]
    rw [inR_iff.2 hs, w64 (by omega) (by omega)]
    cases inR 0 (s - 1) b <;> simp <;> exact Ev.now _
  | false =>
    simp only [Bool.false_eq_true, if_false, Bool.false_and]
    exact Ev.now _
theorem isCarried_ev (s : Int) (r : Bool) (l : List S63) (a b : Int) (hl : l.length ≤ 1048576) : Ev (fun k => impl_isCarried.f k s r l [a, b]) (asksV s r l a b) := by
  unfold impl_isCarried.f asksV
  simp only [isLine_eq, Option.bind_some]
  cases hL : lineV s r with
  | false =>
    have : carV s r l = false := by unfold carV; rw [hL]; simp
    rw [this]
    simp only [Bool.false_eq_true, if_false, Bool.false_and]
    exact Ev.now _
  | true =>
    obtain ⟨hs, rfl⟩ := line_of hL
    have e : carV s false l = (decide ((l.length : Int) ≤ 6) && allF l.length (carC s l) 0) := by unfold carV; rw [hL]; rfl
    simp only [if_true]
    refine Ev.bind (areCarriers_ev s false l hl hs) ?_
    rw [← e]
    cases carV s false l with
    | false =>
      simp only [Bool.false_eq_true, if_false, Bool.false_and]
      exact Ev.now _
    | true =>
      simp only [if_true, Bool.true_and]
      have hh : Ev (fun k => impl_Road_has.f k s false [a, b]) (inAll 0 (s - 1) [a, b]) := by
        unfold impl_Road_has.f
        rw [w64 (by omega) (by omega)]
        exact Ev.bind (allWithin_ev [a, b] 0 (s - 1) (by simp)) (Ev.now _)
      refine Ev.bind hh ?_
      have es : Ev (fun k => slices_IsSorted_int_int.f k [a, b]) (decide (a ≤ b)) := by
        unfold slices_IsSorted_int_int.f
        have e1 : wrap64 ((([a, b] : List Int).length : Int) - 1) = 1 := by rw [w64 (by simp) (by simp)]; simp
        rw [e1]
        have e0 : wrap64 (1 - 1) = 0 := by rw [w64 (by omega) (by omega)]; rfl
        refine Ev.step (f := fun k => if b < a then some false else slices_IsSorted_int_int.l0 k [a, b] 0) (fun k => ?_) ?_
        · simp only [slices_IsSorted_int_int.l0, e0, cmp_Less_int.f, cmp_isNaN_int.f, Option.bind_some]
          have r0 : rd [a, b] 0 = a := rfl
          have r1 : rd [a, b] 1 = b := rfl
          rw [if_pos (by omega), if_pos (by omega), if_pos (by simp), if_pos (by omega), if_pos (by simp), r0, r1]
          by_cases h : b < a <;> simp [h]
        · by_cases h : b < a
          · refine ev_pos h ?_
            rw [decide_eq_false (by omega)]
            exact Ev.now _
          · refine ev_neg h (ev_now (fun k => ?_))
            simp only [slices_IsSorted_int_int.l0]
            rw [if_neg (by omega), decide_eq_true (by omega)]
      by_cases hA : inAll 0 (s - 1) [a, b] = true
      · refine ev_pos hA (Ev.bind es ?_)
        have hA' : (0 ≤ a ∧ a ≤ s - 1) ∧ (0 ≤ b ∧ b ≤ s - 1) := by simpa [inAll, inR] using hA
        have : (inR 0 (s - 1) b && inR 0 b a) = decide (a ≤ b) := by
          rw [inR_iff.2 hA'.2, Bool.true_and]
          unfold inR
          exact decide_eq_decide.2 (by omega)
        rw [this]
        exact Ev.now _
      · refine ev_neg hA ?_
        have : (inR 0 (s - 1) b && inR 0 b a) = false := by
          rw [Bool.eq_false_iff]
          intro h
          simp only [Bool.and_eq_true, inR_iff] at h
          exact hA (inAll_iff.2 (fun x hx => by
            simp only [List.mem_cons, List.mem_nil_iff, or_false] at hx
            rcases hx with rfl | rfl <;> omega))
        rw [this]
        exact Ev.now _

theorem l1Most_eq (a b : Int) : spec_l1Most.f a b = some (mx a b) := by
  unfold spec_l1Most.f mx
  by_cases h : a > b
  · rw [if_pos h, if_neg (by omega)]
  · rw [if_neg h]
    by_cases h2 : a < b
    · rw [if_pos h2]
    · rw [if_neg h2]; congr 1; omega

theorem l2Gap_eq (s a p : Int) (h0 : 0 ≤ a ∧ a ≤ 1000000) (h1 : 0 ≤ p ∧ p ≤ 1000000) : spec_l2Gap.f s false a p = some (mx (a - p) (p - a)) := by
  unfold spec_l2Gap.f
  simp only [l1Most_eq, Option.bind_some, Bool.false_eq_true, if_false]
  rw [mx_abs (s := s) h0 h1]
theorem gap_eq (s a p : Int) (h0 : 0 ≤ a ∧ a ≤ 1000000) (h1 : 0 ≤ p ∧ p ≤ 1000000) : impl_Road_gap.f s false a p = some (mx (a - p) (p - a)) := by
  unfold impl_Road_gap.f
  simp only [Bool.false_eq_true, if_false]
  rw [mx_abs (s := s) h0 h1]

theorem l1Least_eq (a b : Int) : spec_l1Least.f a b = some (mn a b) := by
  unfold spec_l1Least.f mn
  by_cases h : a < b
  · rw [if_pos h, if_neg (by omega)]
  · rw [if_neg h]
    by_cases h2 : b < a
    · rw [if_pos h2]
    · rw [if_neg h2]; congr 1; omega

theorem copied_eq (l : List Int) (h : l.length ≤ 1048576) : impl_copied.f l = some l := by
  unfold impl_copied.f
  simp only [Option.bind_some, List.length_nil, List.nil_append]
  rw [if_pos (by omega)]

/-- How far a carrier brings the parcel from a place, at the least to that place. -/
def stp (s : Int) (c : S63) (x : Int) : Int := mn (s - 1) (x + mx 0 (c.f1 - mx (c.f0 - x) (x - c.f0)))
def rch (s : Int) (l : List S63) (o : List Int) (a : Int) : Int := o.foldl (fun x i => stp s (l.getD i.toNat z63) x) a
theorem stp_in {s : Int} {c : S63} {x : Int} (hx : 0 ≤ x ∧ x ≤ s - 1) : x ≤ stp s c x ∧ stp s c x ≤ s - 1 := by
  have h1 := mx_ge 0 (c.f1 - mx (c.f0 - x) (x - c.f0))
  have h2 := mn_le (s - 1) (x + mx 0 (c.f1 - mx (c.f0 - x) (x - c.f0)))
  unfold stp
  omega
/-- An order: numbers of carriers. -/
def okO (n : Nat) (o : List Int) : Prop := o.length ≤ 1000 ∧ ∀ x ∈ o, ∃ i : Nat, x = (i : Int) ∧ i < n
theorem legEnd_eq (s : Int) (c : S63) (x : Int) (hs : 2 ≤ s ∧ s ≤ 24) (hx : 0 ≤ x ∧ x ≤ s - 1) (hc : (0 ≤ c.f0 ∧ c.f0 ≤ s - 1) ∧ (0 ≤ c.f1 ∧ c.f1 ≤ 1000)) : ∃ b, impl_Road_legEnd.f s false c.f0 c.f1 c.f2 x = some (stp s c x, b) := by
  unfold impl_Road_legEnd.f
  rw [gap_eq s _ _ (by omega) (by omega), Option.bind_some]
  have h1 := mx_ge (c.f0 - x) (x - c.f0)
  have h2 := mx_ge 0 (c.f1 - mx (c.f0 - x) (x - c.f0))
  rw [w64 (x := c.f1 - mx (c.f0 - x) (x - c.f0)) (by omega) (by omega), w64 (x := s - 1) (by omega) (by omega), w64 (by omega) (by omega)]
  exact ⟨_, rfl⟩
theorem l7End_eq (s : Int) (c : S63) (x : Int) (hs : 2 ≤ s ∧ s ≤ 24) (hx : 0 ≤ x ∧ x ≤ s - 1) (hc : (0 ≤ c.f0 ∧ c.f0 ≤ s - 1) ∧ (0 ≤ c.f1 ∧ c.f1 ≤ 1000)) : ∃ e, spec_l7End.f s false c.f0 c.f1 c.f2 x = some e ∧ mx x e = stp s c x := by
  unfold spec_l7End.f
  rw [l2Gap_eq s _ _ (by omega) (by omega), Option.bind_some]
  have h1 := mx_ge (c.f0 - x) (x - c.f0)
  rw [w64 (x := c.f1 - mx (c.f0 - x) (x - c.f0)) (by omega) (by omega), w64 (x := s - 1) (by omega) (by omega), w64 (by omega) (by omega)]
  unfold stp
  by_cases h : c.f1 - mx (c.f0 - x) (x - c.f0) < 0
  · rw [if_pos h]
    refine ⟨-1, rfl, ?_⟩
    have e : mx 0 (c.f1 - mx (c.f0 - x) (x - c.f0)) = 0 := by have := mx_ge 0 (c.f1 - mx (c.f0 - x) (x - c.f0)); omega
    rw [e]
    have a1 := mx_ge x (-1)
    have a2 := mn_le (s - 1) (x + 0)
    omega
  · rw [if_neg h, l1Least_eq, Option.bind_some]
    refine ⟨_, rfl, ?_⟩
    have e : mx 0 (c.f1 - mx (c.f0 - x) (x - c.f0)) = c.f1 - mx (c.f0 - x) (x - c.f0) := by have := mx_ge 0 (c.f1 - mx (c.f0 - x) (x - c.f0)); omega
    rw [e]
    have a1 := mx_ge x (mn (s - 1) (x + (c.f1 - mx (c.f0 - x) (x - c.f0))))
    have a2 := mn_le (s - 1) (x + (c.f1 - mx (c.f0 - x) (x - c.f0)))
    omega
/-- Carriers with sane numbers (ranges up to 1000, so that a greater range fits, too). -/
def saneC (s : Int) (l : List S63) : Prop := ∀ j, j < l.length → (0 ≤ (l.getD j z63).f0 ∧ (l.getD j z63).f0 ≤ s - 1) ∧ (0 ≤ (l.getD j z63).f1 ∧ (l.getD j z63).f1 ≤ 1000)
theorem sane_of {s : Int} {r : Bool} {l : List S63} (h : carV s r l = true) : saneC s l := fun j hj => by
  have := (carV_of h).2.2 j hj
  exact ⟨this.1, this.2.1.1, by have := this.2.1.2; omega⟩
theorem orderReach_ev (s : Int) (l : List S63) (o : List Int) (a : Int) (hs : 2 ≤ s ∧ s ≤ 24) (hl : saneC s l) (ho : okO l.length o) (ha : 0 ≤ a ∧ a ≤ s - 1) : Ev (fun k => impl_Road_orderReach.f k s false l o a) (rch s l o a) := by
  obtain ⟨ho1, ho2⟩ := ho
  have key := down (P := fun i => ∀ x : Int, 0 ≤ x ∧ x ≤ s - 1 → Ev (fun k => impl_Road_orderReach.l0 k l x o (o.length : Int) (i : Int) s false) (rch s l (o.drop i) x)) (n := o.length)
    (fun x _ => ev_now (fun k => by simp only [impl_Road_orderReach.l0]; rw [if_neg (by omega)]; simp [rch]))
    (fun i hi ih x hx => by
      obtain ⟨j, e, hj⟩ := ho2 _ (mem_of_rd hi)
      obtain ⟨b, eb⟩ := legEnd_eq s (l.getD j z63) x hs hx (hl j hj)
      have hst := stp_in (s := s) (c := l.getD j z63) hx
      rw [drop_cons hi]
      refine Ev.step (fun k => ?_) (ih (stp s (l.getD j z63) x) (by omega) |> fun z => by
        have e2 : rch s l (rd o (i : Int) :: o.drop (i + 1)) x = rch s l (o.drop (i + 1)) (stp s (l.getD j z63) x) := by
          unfold rch; rw [List.foldl_cons, e, Int.toNat_natCast]
        rw [e2]; exact z)
      simp only [impl_Road_orderReach.l0]
      rw [if_pos (by omega), if_pos (by omega), if_pos (by omega), e, if_pos (by omega), if_pos (by omega), rdC_nat, eb, Option.bind_some, w64s hi (by omega)])
  exact key 0 (by omega) a ha
theorem l7Reach_ev (s : Int) (l : List S63) (o : List Int) (a : Int) (hs : 2 ≤ s ∧ s ≤ 24) (hl : saneC s l) (ho : okO l.length o) (ha : 0 ≤ a ∧ a ≤ s - 1) : Ev (fun k => spec_l7Reach.f k s false l o a) (rch s l o a) := by
  obtain ⟨ho1, ho2⟩ := ho
  have key := down (P := fun i => ∀ x : Int, 0 ≤ x ∧ x ≤ s - 1 → Ev (fun k => spec_l7Reach.l0 k l o x (i : Int) s false) (rch s l (o.drop i) x)) (n := o.length)
    (fun x _ => ev_now (fun k => by simp only [spec_l7Reach.l0]; rw [if_neg (by omega)]; simp [rch]))
    (fun i hi ih x hx => by
      obtain ⟨j, e, hj⟩ := ho2 _ (mem_of_rd hi)
      obtain ⟨b, eb, em⟩ := l7End_eq s (l.getD j z63) x hs hx (hl j hj)
      have hst := stp_in (s := s) (c := l.getD j z63) hx
      rw [drop_cons hi]
      refine Ev.step (fun k => ?_) (ih (stp s (l.getD j z63) x) (by omega) |> fun z => by
        have e2 : rch s l (rd o (i : Int) :: o.drop (i + 1)) x = rch s l (o.drop (i + 1)) (stp s (l.getD j z63) x) := by
          unfold rch; rw [List.foldl_cons, e, Int.toNat_natCast]
        rw [e2]; exact z)
      simp only [spec_l7Reach.l0]
      rw [if_pos (by omega), if_pos (by omega), e, if_pos (by omega), if_pos (by omega), rdC_nat, eb, Option.bind_some, l1Most_eq, Option.bind_some, em, w64s hi (by omega)])
  exact key 0 (by omega) a ha
/-- An order with each carrier that it lacks, from the carrier x on. -/
def exO (n : Nat) (o : List Int) (x : Nat) : List (List Int) := (((List.range n).drop x).filter (fun y : Nat => decide ((y : Int) ∉ o))).map (fun y : Nat => o ++ [(y : Int)])
theorem exO_end (n : Nat) (o : List Int) : exO n o n = [] := by unfold exO; rw [List.drop_eq_nil_of_le (by simp)]; rfl
theorem exO_step {n x : Nat} (o : List Int) (h : x < n) : exO n o x = if (x : Int) ∈ o then exO n o (x + 1) else (o ++ [(x : Int)]) :: exO n o (x + 1) := by
  unfold exO
  rw [List.drop_eq_getElem_cons (by simpa using h), List.getElem_range, List.filter_cons]
  by_cases hm : (x : Int) ∈ o
  · simp [hm]
  · simp [hm]
theorem exO_len (n : Nat) (o : List Int) (x : Nat) : (exO n o x).length ≤ n - x := by
  unfold exO
  rw [List.length_map]
  refine Nat.le_trans (List.length_filter_le _ _) ?_
  simp
def lv (n : Nat) : Nat → List (List Int)
  | 0 => [[]]
  | m + 1 => (lv n m).flatMap (fun o => exO n o 0)
theorem exO_mem {n : Nat} {o p : List Int} (h : p ∈ exO n o 0) : ∃ y : Nat, y < n ∧ p = o ++ [(y : Int)] := by
  unfold exO at h
  simp only [List.drop_zero, List.mem_map, List.mem_filter, List.mem_range] at h
  obtain ⟨y, ⟨hy, _⟩, rfl⟩ := h
  exact ⟨y, hy, rfl⟩
theorem lv_ok (n : Nat) : ∀ m, ∀ o ∈ lv n m, o.length = m ∧ ∀ x ∈ o, ∃ i : Nat, x = (i : Int) ∧ i < n
  | 0 => by intro o ho; simp only [lv, List.mem_singleton] at ho; subst ho; simp
  | m + 1 => by
    intro o ho
    simp only [lv, List.mem_flatMap] at ho
    obtain ⟨p, hp, ho⟩ := ho
    obtain ⟨h1, h2⟩ := lv_ok n m p hp
    obtain ⟨y, hy, rfl⟩ := exO_mem ho
    refine ⟨by simp [h1], fun x hx => ?_⟩
    simp only [List.mem_append, List.mem_singleton] at hx
    rcases hx with hx | rfl
    · exact h2 x hx
    · exact ⟨y, rfl, hy⟩
theorem lv_okO {n m : Nat} (hm : m ≤ 1000) {o : List Int} (h : o ∈ lv n m) : okO n o := ⟨by have := (lv_ok n m o h).1; omega, (lv_ok n m o h).2⟩
theorem lv_sizes : ∀ n : Nat, n ≤ 6 → (∀ m : Nat, m ≤ 7 → (lv n m).length ≤ 720) ∧ (∀ m : Nat, m ≤ n → (lv n m).length ≠ 0) ∧ (lv n (n + 1)).length = 0 := by decide +kernel
theorem contains_ev (o : List Int) (x : Int) (h : o.length ≤ 1000) : Ev (fun k => slices_Contains_int_int.f k o x) (decide (x ∈ o)) := by
  have key := down (P := fun i => ∃ r : Int, Ev (fun k => slices_Index_int_int.l0 k o x (o.length : Int) (i : Int)) r ∧ decide (r ≥ 0) = decide (x ∈ o.drop i)) (n := o.length)
    ⟨-1, ev_now (fun k => by simp only [slices_Index_int_int.l0]; rw [if_neg (by omega)]), by simp⟩
    (fun i hi ih => by
      rw [drop_cons hi]
      by_cases e : x = rd o (i : Int)
      · refine ⟨(i : Int), ev_now (fun k => ?_), by simp [← e]⟩
        simp only [slices_Index_int_int.l0]
        rw [if_pos (by omega), if_pos (by omega), if_pos (by omega), if_pos e]
      · obtain ⟨r, h1, h2⟩ := ih
        refine ⟨r, Ev.step (fun k => ?_) h1, by rw [h2]; simp [e]⟩
        simp only [slices_Index_int_int.l0]
        rw [if_pos (by omega), if_pos (by omega), if_pos (by omega), if_neg e, w64s hi (by omega)])
  obtain ⟨r, h1, h2⟩ := key 0 (by omega)
  unfold slices_Contains_int_int.f
  refine Ev.bind (g := fun k => slices_Index_int_int.f k o x) (a := r) h1 ?_
  rw [h2]
  exact Ev.now _

/-- The first order of the levels from m on (j levels) that satisfies p. -/
def seek (p : List Int → Bool) (n : Nat) : Nat → Nat → Option (List Int)
  | 0, _ => none
  | j + 1, m => match (lv n m).find? p with
    | some o => some o
    | none => seek p n j (m + 1)
def orderR (s : Int) (r : Bool) (l : List S63) (a b : Int) : List Int × Bool :=
  if asksV s r l a b = true then (match seek (fun o => decide (b ≤ rch s l o a)) l.length (l.length + 1) 0 with | some o => (o, true) | none => ([], false)) else ([], false)
theorem seek_mem {p : List Int → Bool} {n : Nat} : ∀ {j m o}, seek p n j m = some o → p o = true ∧ ∃ m', m ≤ m' ∧ m' < m + j ∧ o ∈ lv n m'
  | 0, _, _, h => by simp [seek] at h
  | j + 1, m, o, h => by
    unfold seek at h
    cases hf : (lv n m).find? p with
    | some q =>
      rw [hf] at h
      obtain rfl := Option.some.inj h
      exact ⟨List.find?_some hf, m, by omega, by omega, List.mem_of_find?_eq_some hf⟩
    | none =>
      rw [hf] at h
      obtain ⟨h1, m', h2, h3, h4⟩ := seek_mem h
      exact ⟨h1, m', by omega, by omega, h4⟩
theorem orderR_len (s : Int) (r : Bool) (l : List S63) (a b : Int) : (orderR s r l a b).1.length ≤ 1048576 := by
  unfold orderR
  split
  · rename_i h
    have hc := (carV_of (asks_of h).1).2.1
    split
    · rename_i o ho
      obtain ⟨_, m', _, h3, h4⟩ := seek_mem ho
      have := (lv_ok _ _ _ h4).1
      simp only
      omega
    · simp
  · simp
theorem ext_impl (l : List S63) (a b best s : Int) (os : List (List Int)) (o : List Int) (i : Nat) (hn : l.length ≤ 6) (ho : o.length ≤ 1000) (hi : i < os.length) (R) :
    ∀ x, x ≤ l.length → ∀ acc : List (List Int), acc.length + (l.length - x) ≤ 1000000 → Ev (fun k => impl_Road_reachOrder.l1 k l a b best (acc ++ exO l.length o x) os (os.length : Int) (wrap64 ((i : Int) + 1)) s false) R →
      Ev (fun k => impl_Road_reachOrder.l2 k l a b best acc o os (os.length : Int) (i : Int) (l.length : Int) (x : Int) s false) R := by
  refine down (P := fun x => ∀ acc : List (List Int), acc.length + (l.length - x) ≤ 1000000 → Ev (fun k => impl_Road_reachOrder.l1 k l a b best (acc ++ exO l.length o x) os (os.length : Int) (wrap64 ((i : Int) + 1)) s false) R → Ev (fun k => impl_Road_reachOrder.l2 k l a b best acc o os (os.length : Int) (i : Int) (l.length : Int) (x : Int) s false) R) ?_ ?_
  · intro acc _ h
    rw [exO_end, List.append_nil] at h
    refine Ev.step (fun k => ?_) h
    simp only [impl_Road_reachOrder.l2]
    rw [if_neg (by omega)]
  · intro x hx ih acc hb h
    rw [exO_step _ hx] at h
    refine Ev.step (f := fun k => (slices_Contains_int_int.f k o (x : Int)).bind fun t => if t = true then impl_Road_reachOrder.l2 k l a b best acc o os (os.length : Int) (i : Int) (l.length : Int) ((x + 1 : Nat) : Int) s false else impl_Road_reachOrder.l2 k l a b best (acc ++ [o ++ [(x : Int)]]) o os (os.length : Int) (i : Int) (l.length : Int) ((x + 1 : Nat) : Int) s false) (fun k => ?_) (Ev.bind (contains_ev _ _ ho) ?_)
    · simp only [impl_Road_reachOrder.l2, copied_eq _ (show o.length ≤ 1048576 by omega), Option.bind_some]
      rw [if_pos (by omega), if_pos (by omega), if_pos (by omega), w64s hx (by omega)]
    · by_cases hm : (x : Int) ∈ o
      · rw [if_pos hm] at h
        exact ev_pos (decide_eq_true hm) (ih acc (by omega) h)
      · rw [if_neg hm] at h
        refine ev_neg (by simpa using hm) (ih _ (by simp; omega) ?_)
        rw [List.append_assoc, List.singleton_append]
        exact h
/-- The result of reachOrder: the first order found, and a number that depends on it. -/
theorem reachOrder_ev (s : Int) (l : List S63) (a b : Int) (hs : 2 ≤ s ∧ s ≤ 24) (hl : saneC s l) (hn : l.length ≤ 6) (hab : 0 ≤ a ∧ a ≤ s - 1) :
    ∃ r2, Ev (fun k => impl_Road_reachOrder.f k s false l a b) ((seek (fun o => decide (b ≤ rch s l o a)) l.length (l.length + 1) 0).getD [], r2) := by
  have key := down (P := fun m => ∀ best : Int, ∃ r2, Ev (fun k => impl_Road_reachOrder.l0 k l a b best (lv l.length m) s false) ((seek (fun o => decide (b ≤ rch s l o a)) l.length (l.length + 1 - m) m).getD [], r2)) (n := l.length + 1)
    (fun best => ⟨best, ev_now (fun k => by
      have := (lv_sizes l.length hn).2.2
      simp only [impl_Road_reachOrder.l0]
      rw [if_neg (by omega), Nat.sub_self]
      rfl)⟩)
    (fun m hm ih best => by
      have e : l.length + 1 - m = (l.length + 1 - (m + 1)) + 1 := by omega
      rw [e]
      have hz := (lv_sizes l.length hn).1 m (by omega)
      have hz0 := (lv_sizes l.length hn).2.1 m (by omega)
      have k2 := down (P := fun i => ∀ (best : Int) (acc : List (List Int)), acc.length + ((lv l.length m).length - i) * 6 ≤ 1000000 → acc ++ ((lv l.length m).drop i).flatMap (fun o => exO l.length o 0) = lv l.length (m + 1) → ∃ r2, Ev (fun k => impl_Road_reachOrder.l1 k l a b best acc (lv l.length m) ((lv l.length m).length : Int) (i : Int) s false) ((match ((lv l.length m).drop i).find? (fun o => decide (b ≤ rch s l o a)) with | some o => some o | none => seek (fun o => decide (b ≤ rch s l o a)) l.length (l.length + 1 - (m + 1)) (m + 1)).getD [], r2)) (n := (lv l.length m).length)
        (fun best acc _ hacc => by
          rw [List.drop_length, List.flatMap_nil, List.append_nil] at hacc
          obtain ⟨r2, h2⟩ := ih best
          refine ⟨r2, ?_⟩
          rw [List.drop_length, List.find?_nil]
          refine Ev.step (fun k => ?_) h2
          simp only [impl_Road_reachOrder.l1]
          rw [if_neg (by omega), hacc])
        (fun i hi ih2 best acc hb hacc => by
          have hg : (lv l.length m).getD i [] ∈ lv l.length m := by rw [List.getD_eq_getElem?_getD, List.getElem?_eq_getElem hi]; exact List.getElem_mem hi
          have hok : okO l.length ((lv l.length m).getD i []) := lv_okO (by omega) hg
          have hr := orderReach_ev s l _ a hs hl hok hab
          have hx := exO_len l.length ((lv l.length m).getD i []) 0
          rw [drop_consG [] hi, List.find?_cons]
          have stepe : ∀ (r2 : Int) (res : List Int), Ev (fun k => if rch s l ((lv l.length m).getD i []) a ≥ b then some ((lv l.length m).getD i [], rch s l ((lv l.length m).getD i []) a) else impl_Road_reachOrder.l2 k l a b (mx best (rch s l ((lv l.length m).getD i []) a)) acc ((lv l.length m).getD i []) (lv l.length m) ((lv l.length m).length : Int) (i : Int) (l.length : Int) ((0 : Nat) : Int) s false) (res, r2) →
              Ev (fun k => impl_Road_reachOrder.l1 k l a b best acc (lv l.length m) ((lv l.length m).length : Int) (i : Int) s false) (res, r2) := by
            intro r2 res h
            refine Ev.step (f := fun k => (impl_Road_orderReach.f k s false l ((lv l.length m).getD i []) a).bind fun t => if t ≥ b then some ((lv l.length m).getD i [], t) else impl_Road_reachOrder.l2 k l a b (mx best t) acc ((lv l.length m).getD i []) (lv l.length m) ((lv l.length m).length : Int) (i : Int) (l.length : Int) ((0 : Nat) : Int) s false) (fun k => ?_) (Ev.bind hr h)
            simp only [impl_Road_reachOrder.l1, show rd_L3 (lv l.length m) (i : Int) = (lv l.length m).getD i [] from rfl]
            rw [if_pos (by omega), if_pos (by omega), if_pos (by omega)]
            first
              | rfl
              | (simp only [copied_eq _ (show ((lv l.length m).getD i []).length ≤ 1048576 by have := hok.1; omega), Option.bind_some]; rfl)
          by_cases hh : b ≤ rch s l ((lv l.length m).getD i []) a
          · rw [decide_eq_true hh]
            exact ⟨_, stepe _ _ (ev_pos hh (Ev.now _))⟩
          · rw [decide_eq_false hh]
            rw [drop_consG [] hi, List.flatMap_cons, ← List.append_assoc] at hacc
            obtain ⟨r2, h2⟩ := ih2 (mx best (rch s l ((lv l.length m).getD i []) a)) (acc ++ exO l.length ((lv l.length m).getD i []) 0) (by rw [List.length_append]; omega) hacc
            refine ⟨r2, stepe _ _ (ev_neg hh ?_)⟩
            refine ext_impl l a b _ s _ _ i hn hok.1 hi _ 0 (by omega) acc (by omega) ?_
            rw [w64s hi (by omega)]
            exact h2)
      obtain ⟨r2, h2⟩ := k2 0 (by omega) best [] (by simp; omega) (by simp [lv])
      rw [List.drop_zero] at h2
      refine ⟨r2, Ev.step (f := fun k => impl_Road_reachOrder.l1 k l a b best [] (lv l.length m) ((lv l.length m).length : Int) ((0 : Nat) : Int) s false) (fun k => ?_) ?_⟩
      · simp only [impl_Road_reachOrder.l0]
        rw [if_pos (by omega)]
        rfl
      · unfold seek
        cases hf : (lv l.length m).find? (fun o => decide (b ≤ rch s l o a)) with
        | some o => rw [hf] at h2; exact h2
        | none => rw [hf] at h2; exact h2)
  exact key 0 (by omega) a
theorem rch_nil (s : Int) (l : List S63) (a : Int) : rch s l [] a = a := rfl
theorem reach3_ev (s : Int) (l : List S63) (a b : Int) (hs : 2 ≤ s ∧ s ≤ 24) (hl : saneC s l) (hn : l.length ≤ 6) (hab : 0 ≤ a ∧ a ≤ s - 1) :
    ∃ r2, Ev (fun k => reachOrder3.f k s false l a b) ((seek (fun o => decide (b ≤ rch s l o a)) l.length (l.length + 1) 0).getD [], r2, (seek (fun o => decide (b ≤ rch s l o a)) l.length (l.length + 1) 0).isSome) := by
  obtain ⟨r2, h⟩ := reachOrder_ev s l a b hs hl hn hab
  refine ⟨r2, ?_⟩
  unfold reachOrder3.f
  refine Ev.bind h ?_
  have e : decide ((seek (fun o => decide (b ≤ rch s l o a)) l.length (l.length + 1) 0).getD [] ≠ [] ∨ b ≤ a) = (seek (fun o => decide (b ≤ rch s l o a)) l.length (l.length + 1) 0).isSome := by
    cases hk : seek (fun o => decide (b ≤ rch s l o a)) l.length (l.length + 1) 0 with
    | some o =>
      have hp := of_decide_eq_true (seek_mem hk).1
      simp only [Option.getD_some, Option.isSome_some]
      refine decide_eq_true ?_
      by_cases ho : o = []
      · subst ho; exact .inr hp
      · exact .inl ho
    | none =>
      simp only [Option.getD_none, Option.isSome_none]
      refine decide_eq_false ?_
      intro h
      rcases h with h | h
      · exact h rfl
      · unfold seek at hk
        simp [lv, rch_nil, h] at hk
  dsimp only
  rw [e]
  exact Ev.now _

theorem l1Own_eq (l : List Int) (h : l.length ≤ 1048576) : spec_l1Own.f l = some l := by
  unfold spec_l1Own.f
  simp only [Option.bind_some, List.length_nil, List.nil_append]
  rw [if_pos (by omega)]

theorem l1Has_ev (o : List Int) (x : Int) (h : o.length ≤ 1000) : Ev (fun k => spec_l1Has.f k o x) (decide (x ∈ o)) := by
  have key := down (P := fun i => Ev (fun k => spec_l1Has.l0 k o x (i : Int)) (decide (x ∈ o.drop i))) (n := o.length)
    (ev_now (fun k => by simp only [spec_l1Has.l0]; rw [if_neg (by omega)]; simp))
    (fun i hi ih => by
      rw [drop_cons hi]
      by_cases e : rd o (i : Int) = x
      · refine ev_now (fun k => ?_)
        simp only [spec_l1Has.l0]
        rw [if_pos (by omega), if_pos (by omega), if_pos e]
        simp [e]
      · have e2 : decide (x ∈ rd o (i : Int) :: o.drop (i + 1)) = decide (x ∈ o.drop (i + 1)) := by
          have : ¬ x = rd o (i : Int) := fun z => e z.symm
          simp [this]
        rw [e2]
        refine Ev.step (fun k => ?_) ih
        simp only [spec_l1Has.l0]
        rw [if_pos (by omega), if_pos (by omega), if_neg e, w64s hi (by omega)])
  exact key 0 (by omega)
/-- The inner loop of the spec: one order with each carrier. -/
theorem ext_spec (n m many : Nat) (out : List (List Int)) (i : Nat) (hi : i < out.length) (ho : (out.getD i []).length ≤ 1000) (hn : n ≤ 6) (hlo : out.length ≤ 720) (R) :
    ∀ x, x ≤ n → ∀ acc : List (List Int), acc.length + (n - x) ≤ 1000000 → Ev (fun k => spec_l7Orders.l1 k (n : Int) (m : Int) out (many : Int) (acc ++ exO n (out.getD i []) x) ((i + 1 : Nat) : Int)) R →
      Ev (fun k => spec_l7Orders.l2 k (n : Int) (m : Int) out (many : Int) acc (i : Int) (x : Int)) R := by
  have hr : rd_L3 out (i : Int) = out.getD i [] := rfl
  refine down (P := fun x => ∀ acc : List (List Int), acc.length + (n - x) ≤ 1000000 → Ev (fun k => spec_l7Orders.l1 k (n : Int) (m : Int) out (many : Int) (acc ++ exO n (out.getD i []) x) ((i + 1 : Nat) : Int)) R → Ev (fun k => spec_l7Orders.l2 k (n : Int) (m : Int) out (many : Int) acc (i : Int) (x : Int)) R) ?_ ?_
  · intro acc _ h
    rw [exO_end, List.append_nil] at h
    refine Ev.step (fun k => ?_) h
    simp only [spec_l7Orders.l2]
    rw [if_neg (by omega), w64 (by omega) (by omega)]
    rfl
  · intro x hx ih acc hb h
    rw [exO_step _ hx] at h
    refine Ev.step (f := fun k => (spec_l1Has.f k (out.getD i []) (x : Int)).bind fun t => if t = true then spec_l7Orders.l2 k (n : Int) (m : Int) out (many : Int) acc (i : Int) ((x + 1 : Nat) : Int) else spec_l7Orders.l2 k (n : Int) (m : Int) out (many : Int) (acc ++ [out.getD i [] ++ [(x : Int)]]) (i : Int) ((x + 1 : Nat) : Int)) (fun k => ?_) (Ev.bind (l1Has_ev _ _ ho) ?_)
    · simp only [spec_l7Orders.l2, hr, l1Own_eq _ (show (out.getD i []).length ≤ 1048576 by omega), Option.bind_some]
      rw [if_pos (by omega), if_pos (by omega), if_pos (by omega), if_pos (by omega), if_pos (by omega), w64s hx (by omega)]
    · by_cases hm : (x : Int) ∈ out.getD i []
      · rw [if_pos hm] at h
        exact ev_pos (decide_eq_true hm) (ih acc (by omega) h)
      · rw [if_neg hm] at h
        refine ev_neg (by simpa using hm) (ih _ (by simp; omega) ?_)
        rw [List.append_assoc, List.singleton_append]
        exact h
theorem level_spec (n m many : Nat) (out : List (List Int)) (ho : ∀ o ∈ out, okO n o) (hn : n ≤ 6) (hl : out.length ≤ 720) (R)
    (h : Ev (fun k => spec_l7Orders.l0 k (n : Int) (m : Int) (out.flatMap (fun o => exO n o 0)) (wrap64 ((many : Int) + 1))) R) :
    Ev (fun k => spec_l7Orders.l1 k (n : Int) (m : Int) out (many : Int) [] 0) R := by
  have key := down (P := fun i => ∀ acc : List (List Int), acc.length + (out.length - i) * 6 ≤ 1000000 → Ev (fun k => spec_l7Orders.l0 k (n : Int) (m : Int) (acc ++ (out.drop i).flatMap (fun o => exO n o 0)) (wrap64 ((many : Int) + 1))) R → Ev (fun k => spec_l7Orders.l1 k (n : Int) (m : Int) out (many : Int) acc (i : Int)) R) (n := out.length)
    (fun acc _ h => by
      rw [List.drop_length, List.flatMap_nil, List.append_nil] at h
      refine Ev.step (fun k => ?_) h
      simp only [spec_l7Orders.l1]
      rw [if_neg (by omega)])
    (fun i hi ih acc hb h => by
      have hg : out.getD i [] ∈ out := by rw [List.getD_eq_getElem?_getD, List.getElem?_eq_getElem hi]; exact List.getElem_mem hi
      have hok := ho _ hg
      have hx := exO_len n (out.getD i []) 0
      refine Ev.step (f := fun k => spec_l7Orders.l2 k (n : Int) (m : Int) out (many : Int) acc (i : Int) ((0 : Nat) : Int)) (fun k => ?_) ?_
      · simp only [spec_l7Orders.l1]
        rw [if_pos (by omega)]
        rfl
      · refine ext_spec n m many out i hi hok.1 hn hl R 0 (by omega) acc (by omega) (ih _ (by rw [List.length_append]; omega) ?_)
        rw [drop_consG [] hi, List.flatMap_cons] at h
        rw [List.append_assoc]
        exact h)
  refine key 0 (by omega) [] (by simp; omega) ?_
  simpa using h
theorem l7Orders_ev (n m : Nat) (hn : n ≤ 6) (hm : m ≤ n) : Ev (fun k => spec_l7Orders.f k (n : Int) (m : Int)) (lv n m) := by
  have key := down (P := fun j => Ev (fun k => spec_l7Orders.l0 k (n : Int) (m : Int) (lv n j) (j : Int)) (lv n m)) (n := m)
    (ev_now (fun k => by simp only [spec_l7Orders.l0]; rw [if_neg (by omega)]))
    (fun j hj ih => by
      refine Ev.step (f := fun k => spec_l7Orders.l1 k (n : Int) (m : Int) (lv n j) (j : Int) [] 0) (fun k => by simp only [spec_l7Orders.l0]; rw [if_pos (show (j : Int) < (m : Int) by omega)]) ?_
      refine level_spec n m j (lv n j) (fun o h => lv_okO (by omega) h) hn ((lv_sizes n hn).1 j (by omega)) _ ?_
      rw [w64s hj (by omega)]
      exact ih)
  exact key 0 (by omega)
theorem specOrder_ev (s : Int) (r : Bool) (l : List S63) (a b : Int) (hl : l.length ≤ 1048576) : Ev (fun k => spec_ReachOrder.f k s r l a b) (orderR s r l a b) := by
  unfold spec_ReachOrder.f orderR
  refine Ev.bind (l7Asks_ev s r l a b hl) ?_
  cases hv : asksV s r l a b with
  | false =>
    simp only [Bool.false_eq_true, if_false]
    exact Ev.now _
  | true =>
    obtain ⟨hc, hab⟩ := asks_of hv
    obtain ⟨⟨hs, rfl⟩, hn, _⟩ := carV_of hc
    simp only [if_true]
    have key := down (P := fun m => Ev (fun k => spec_ReachOrder.l0 k l a b (m : Int) s false) (match seek (fun o => decide (b ≤ rch s l o a)) l.length (l.length + 1 - m) m with | some o => (o, true) | none => ([], false))) (n := l.length + 1)
      (ev_now (fun k => by simp only [spec_ReachOrder.l0]; rw [if_neg (by omega), Nat.sub_self]; rfl))
      (fun m hm ih => by
        have e : l.length + 1 - m = (l.length + 1 - (m + 1)) + 1 := by omega
        rw [e]
        refine Ev.step (f := fun k => (spec_l7Orders.f k (l.length : Int) (m : Int)).bind fun t => spec_ReachOrder.l1 k l a b (m : Int) t 0 s false) (fun k => by simp only [spec_ReachOrder.l0]; rw [if_pos (show (m : Int) ≤ (l.length : Int) by omega)]) (Ev.bind (l7Orders_ev l.length m hn (by omega)) ?_)
        have k2 := down (P := fun i => Ev (fun k => spec_ReachOrder.l1 k l a b (m : Int) (lv l.length m) (i : Int) s false) (match ((lv l.length m).drop i).find? (fun o => decide (b ≤ rch s l o a)) with | some o => (o, true) | none => (match seek (fun o => decide (b ≤ rch s l o a)) l.length (l.length + 1 - (m + 1)) (m + 1) with | some o => (o, true) | none => ([], false)))) (n := (lv l.length m).length)
          (by
            rw [List.drop_length, List.find?_nil]
            refine Ev.step (fun k => ?_) ih
            simp only [spec_ReachOrder.l1]
            rw [if_neg (by omega), w64s (n := l.length + 1) hm (by omega)])
          (fun i hi ih2 => by
            have hz := (lv_sizes l.length hn).1 m (by omega)
            have hg : (lv l.length m).getD i [] ∈ lv l.length m := by rw [List.getD_eq_getElem?_getD, List.getElem?_eq_getElem hi]; exact List.getElem_mem hi
            have hr := l7Reach_ev s l _ a hs (sane_of hc) (lv_okO (by omega) hg) (by omega)
            rw [drop_consG [] hi, List.find?_cons]
            refine Ev.step (f := fun k => (spec_l7Reach.f k s false l ((lv l.length m).getD i []) a).bind fun t => if t ≥ b then some ((lv l.length m).getD i [], true) else spec_ReachOrder.l1 k l a b (m : Int) (lv l.length m) ((i + 1 : Nat) : Int) s false) (fun k => ?_) (Ev.bind hr ?_)
            · simp only [spec_ReachOrder.l1, show rd_L3 (lv l.length m) (i : Int) = (lv l.length m).getD i [] from rfl]
              rw [if_pos (by omega), if_pos (by omega), w64s hi (by omega)]
            · by_cases hh : b ≤ rch s l ((lv l.length m).getD i []) a
              · rw [decide_eq_true hh]
                exact ev_pos hh (Ev.now _)
              · rw [decide_eq_false hh]
                exact ev_neg hh ih2)
        have k20 := k2 0 (by omega)
        rw [List.drop_zero] at k20
        unfold seek
        cases hf : (lv l.length m).find? (fun o => decide (b ≤ rch s l o a)) with
        | some o => rw [hf] at k20; exact k20
        | none => rw [hf] at k20; exact k20)
    exact key 0 (by omega)

theorem implOrder_ev (s : Int) (r : Bool) (l : List S63) (a b : Int) (hl : l.length ≤ 1048576) : Ev (fun k => impl_ReachOrder.f k s r l a b) (orderR s r l a b) := by
  unfold impl_ReachOrder.f orderR
  refine Ev.bind (isCarried_ev s r l a b hl) ?_
  cases hv : asksV s r l a b with
  | false =>
    simp only [Bool.false_eq_true, if_false]
    exact Ev.now _
  | true =>
    obtain ⟨hc, hab⟩ := asks_of hv
    obtain ⟨⟨hs, rfl⟩, hn, _⟩ := carV_of hc
    obtain ⟨r2, h⟩ := reach3_ev s l a b hs (sane_of hc) hn (by omega)
    simp only [if_true]
    refine Ev.bind h ?_
    cases seek (fun o => decide (b ≤ rch s l o a)) l.length (l.length + 1) 0 with
    | some o => exact Ev.now _
    | none => exact Ev.now _

theorem FnExactReachOrder : FnExactReachOrderLeft := by
  intro s r l0 a b _ hm _ _ _
  refine Ev.rounds (g := fun k => laws_FnExactReachOrder.f k s r l0 a b) ?_
  unfold laws_FnExactReachOrder.f
  refine ev_bind0 (szCarrierS_eq l0 hm) ?_
  by_cases h : 1048576 - (l0.length : Int) < 0
  · rw [if_pos h]; exact ev_pos (by omega) (Ev.now _)
  rw [if_neg h]
  refine ev_neg h ?_
  have hl0 : l0.length ≤ 1048576 := by omega
  have hl : (cvC l0).length ≤ 1048576 := by rw [cvC_len]; exact hl0
  have hr := orderR_len s r (cvC l0) a b
  obtain ⟨mk, hmk⟩ := markCarrierS_ev (cvC l0) 1 hl (by omega) (by omega)
  repeat (first
    | exact Ev.now _
    | (with_reducible refine Ev.bind (toCarrierS_ev _ hl0) ?_; try dsimp only)
    | (with_reducible refine Ev.bind (specOrder_ev _ _ _ _ _ hl) ?_; try dsimp only)
    | (with_reducible refine Ev.bind (implOrder_ev _ _ _ _ _ hl) ?_; try dsimp only)
    | (with_reducible refine Ev.bind hmk ?_; try dsimp only)
    | (with_reducible refine Ev.bind (markIntS_ev _ _ hr (by omega) (by omega)) ?_; try dsimp only)
    | (with_reducible refine Ev.bind (heldIntS_ev _ _ hr (by omega) (by omega)) ?_; try dsimp only)
    | (with_reducible refine Ev.bind (eqCarrierS_self _ (by omega)) ?_; try dsimp only)
    | (with_reducible refine Ev.bind (eqIntS_self _ (by omega)) ?_; try dsimp only)
    | (refine ev_bind0 (toRoad_eq _ _) ?_; try dsimp only)
    | (refine ev_pos (by first | exact True.intro | rfl | assumption | omega) ?_; try dsimp only)
    | (refine ev_neg (by first | (simp; done) | omega) ?_; try dsimp only)
    | (refine Ev.step (fun k => by simp only [laws_FnExactReachOrder.j0]; rfl) ?_)
    | (refine Ev.step (fun k => by simp only [laws_FnExactReachOrder.j1]; rfl) ?_)
    | (refine Ev.step (fun k => by simp only [laws_FnExactReachOrder.j2]; rfl) ?_))

end Go.Proofs.Ythagkpoinjpmfaa.Pure
