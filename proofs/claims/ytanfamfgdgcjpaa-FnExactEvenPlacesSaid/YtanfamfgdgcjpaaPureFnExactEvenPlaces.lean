/- FnExactEvenPlaces: the left statement: for every road and number the law answers true. No condition. -/
import Derived.Test.YtanfamfgdgcjpaaPFnExactEvenPlacesx2
import Derived.Test.YtanfamfgdgcjpaaBase
namespace Go.Proofs.Ytanfamfgdgcjpaa.Pure
open Go.RowKit Go.Proofs.Ytanfamfgdgcjpaa.PFnExactEvenPlaces Go.Proofs.YtanfamfgdgcjpaaW.PrintWords Go.Proofs.YtanfamfgdgcjpaaW.PrintLast Go.Proofs.Ytanfamfgdgcjpaa.Base
set_option linter.unusedVariables false
set_option linter.unusedSimpArgs false

def FnExactEvenPlacesLeft : Prop := ∀ (a0_0 : Int) (a0_1 : Bool) (a1 : Int), (Lit.int .i64 a0_0).wf = true → (Lit.int .i64 a1).wf = true → ∃ k, laws_FnExactEvenPlaces.f k a0_0 a0_1 a1 = some true

theorem eqIntS_ev (a b : List Int) (hl : a.length ≤ 1152921504606846976) : Ev (fun k => laws_eqIntS.f k a b) (decide (a = b)) := by
  by_cases h : a.length = b.length
  · have key := down (P := fun i => Ev (fun k => laws_eqIntS.l0 k a b (i : Int)) (decide (a.drop i = b.drop i))) (n := a.length)
      (ev_now (fun k => by
        simp only [laws_eqIntS.l0]
        rw [if_neg (by omega)]
        simp
        omega))
      (fun i hi ih => by
        rw [drop_cons hi, drop_cons (l := b) (by omega)]
        by_cases e : rd a (i : Int) = rd b (i : Int)
        · have e2 : decide (rd a (i : Int) :: a.drop (i + 1) = rd b (i : Int) :: b.drop (i + 1)) = decide (a.drop (i + 1) = b.drop (i + 1)) := by simp [e]
          rw [e2]
          refine Ev.step (fun k => ?_) ih
          simp only [laws_eqIntS.l0]
          rw [if_pos (by omega), if_pos (by omega), if_pos (by omega), if_pos e, w64s hi hl]
        · refine ev_now (fun k => ?_)
          simp only [laws_eqIntS.l0]
          rw [if_pos (by omega), if_pos (by omega), if_pos (by omega), if_neg e]
          simp [e])
    refine Ev.congr (fun k => ?_) (key 0 (by omega))
    unfold laws_eqIntS.f
    rw [if_pos (by omega)]
    rfl
  · refine Ev.congr (fun k => ?_) (Ev.now _)
    unfold laws_eqIntS.f
    rw [if_neg (by omega)]
    simp
    intro e
    exact h (by rw [e])
theorem eqIntS_self (a : List Int) (hl : a.length ≤ 1152921504606846976) : Ev (fun k => laws_eqIntS.f k a a) true := by
  have := eqIntS_ev a a hl
  simpa using this

theorem markIntS_ev (l : List Int) (a : Int) (hl : l.length ≤ 1048576) (ha : 0 ≤ a) (ha2 : a ≤ 1152921504606846976) : Ev (fun k => laws_markIntS.f k l a) (a + (l.length : Int), cnt a l.length) := by
  have key := down (P := fun i => Ev (fun k => laws_markIntS.l0 k (tab l.length (fun q => if q < i then a + q else rd l (q : Int))) (a + (i : Int)) (i : Int)) (a + (l.length : Int), cnt a l.length)) (n := l.length)
    (ev_now (fun k => by
      simp only [laws_markIntS.l0]
      rw [if_neg (by rw [tab_len]; omega)]
      congr 2
      exact tab_congr (fun q hq => by rw [if_pos hq])))
    (fun i hi ih => by
      refine Ev.step (fun k => ?_) ih
      simp only [laws_markIntS.l0]
      rw [if_pos (by rw [tab_len]; omega), if_pos (by omega), w64s hi (by omega), Int.toNat_natCast, tab_set, w64 (by omega) (by omega)]
      congr 1
      · refine tab_congr (fun q _ => ?_)
        by_cases e : q = i
        · subst e; rw [if_pos rfl, if_pos (by omega)]
        · rw [if_neg e]
          by_cases e2 : q < i
          · rw [if_pos e2, if_pos (by omega)]
          · rw [if_neg e2, if_neg (by omega)]
      · omega)
  refine Ev.congr (fun k => ?_) (key 0 (by omega))
  unfold laws_markIntS.f
  congr 1
  · rw [← tab_ext rfl (fun q _ => by rw [if_neg (by omega)])]
  · simp

theorem heldIntS_ev (n : Nat) (a : Int) (hl : n ≤ 1048576) (ha : 0 ≤ a) (ha2 : a ≤ 1152921504606846976) : Ev (fun k => laws_heldIntS.f k (cnt a n) a) (a + (n : Int)) := by
  have key := down (P := fun i => Ev (fun k => laws_heldIntS.l0 k (cnt a n) (a + (i : Int)) (i : Int)) (a + (n : Int))) (n := n)
    (ev_now (fun k => by
      simp only [laws_heldIntS.l0]
      rw [if_neg (by rw [cnt_len]; omega)]))
    (fun i hi ih => by
      refine Ev.step (fun k => ?_) ih
      simp only [laws_heldIntS.l0]
      rw [if_pos (by rw [cnt_len]; omega), if_pos (by omega), if_pos (by unfold cnt; rw [tab_rd hi]), w64s hi (by omega), w64 (by omega) (by omega)]
      congr 1
      omega)
  refine Ev.congr (fun k => ?_) (key 0 (by omega))
  unfold laws_heldIntS.f
  simp

theorem l1In_eq (a b c : Int) : spec_l1In.f a b c = some (inR b c a) := by
  unfold spec_l1In.f inR
  by_cases h : a ≥ b
  · have h' : b ≤ a := h
    rw [if_pos h]; simp [h']
  · have h' : ¬ b ≤ a := h
    rw [if_neg h]; simp [h']

theorem within_eq (a b c : Int) : impl_within.f a b c = some (inR b c a) := by
  unfold impl_within.f inR
  by_cases h : a ≥ b
  · have h' : b ≤ a := h
    rw [if_pos h]; simp [h']
  · have h' : ¬ b ≤ a := h
    rw [if_neg h]; simp [h']

def lineV (s : Int) (r : Bool) : Bool := inR 2 24 s && !r
theorem line_of {s : Int} {r : Bool} (h : lineV s r = true) : (2 ≤ s ∧ s ≤ 24) ∧ r = false := by
  unfold lineV at h
  rw [Bool.and_eq_true, inR_iff] at h
  exact ⟨h.1, by simpa using h.2⟩
theorem l2Road_eq (s : Int) (r : Bool) : spec_l2Road.f s r = some (inR 2 24 s && (!r || decide (s > 2))) := by
  unfold spec_l2Road.f
  simp only [l1In_eq, Option.bind_some]
  cases inR 2 24 s <;> cases r <;> simp
theorem isRoad_eq (s : Int) (r : Bool) : impl_IsRoad.f s r = some (inR 2 24 s && (!r || decide (s > 2))) := by
  unfold impl_IsRoad.f
  simp only [within_eq, Option.bind_some]
  cases h : inR 2 24 s <;> cases r <;> simp <;> omega
theorem isLine_eq (s : Int) (r : Bool) : impl_isLine.f s r = some (lineV s r) := by
  unfold impl_isLine.f lineV
  simp only [isRoad_eq, Option.bind_some]
  cases inR 2 24 s <;> cases r <;> simp

theorem evMost_eq (a b : Int) : spec_l1Most.f a b = some (mx a b) := by
  unfold spec_l1Most.f mx
  by_cases h : a > b
  · rw [if_pos h, if_neg (by omega)]
  · rw [if_neg h]
    by_cases h2 : a < b
    · rw [if_pos h2]
    · rw [if_neg h2]; congr 1; omega
theorem evLeast_eq (a b : Int) : spec_l1Least.f a b = some (mn a b) := by
  unfold spec_l1Least.f mn
  by_cases h : a < b
  · rw [if_pos h, if_neg (by omega)]
  · rw [if_neg h]
    by_cases h2 : b < a
    · rw [if_pos h2]
    · rw [if_neg h2]; congr 1; omega
def evAt (s R : Nat) (i : Nat) : Int := mx 0 (mn (((i * (2 * R + 1) : Nat) : Int) + R) ((s : Int) - 1 - R))
def evN (s R : Nat) : Nat := (s + (2 * R + 1) - 1) / (2 * R + 1)
theorem evN_lt {s R i : Nat} (h : i < evN s R) (hs : 0 < s) : i * (2 * R + 1) < s := by
  unfold evN at h
  have h1 : (i + 1) * (2 * R + 1) ≤ s + (2 * R + 1) - 1 := (Nat.le_div_iff_mul_le (by omega)).1 h
  rw [Nat.succ_mul] at h1
  omega
theorem evN_ge (s R : Nat) : s ≤ evN s R * (2 * R + 1) := by
  unfold evN
  have h1 := Nat.lt_succ_iff.1 (Nat.lt_succ_self ((s + (2 * R + 1) - 1) / (2 * R + 1)))
  have h2 := Nat.div_add_mod (s + (2 * R + 1) - 1) (2 * R + 1)
  have h3 := Nat.mod_lt (s + (2 * R + 1) - 1) (show 2 * R + 1 > 0 by omega)
  rw [Nat.mul_comm] at h2
  omega
theorem evN_le {s R : Nat} : evN s R ≤ s := by
  unfold evN
  rw [Nat.div_le_iff_le_mul_add_pred (by omega)]
  have : s ≤ (2 * R + 1) * s := Nat.le_mul_of_pos_left s (by omega)
  omega
def evenV (s : Int) (r : Bool) (a : Int) : Bool := lineV s r && inR 0 12 a
def evenR (s : Int) (r : Bool) (a : Int) : List Int × Bool := if evenV s r a = true then (if evN s.toNat a.toNat > 6 then ([], false) else (tab (evN s.toNat a.toNat) (evAt s.toNat a.toNat), true)) else ([], false)
theorem evenR_len (s : Int) (r : Bool) (a : Int) : (evenR s r a).1.length ≤ 1048576 := by
  unfold evenR
  split
  · split
    · simp
    · simp only [tab_len]; omega
  · simp
theorem even_of {s : Int} {r : Bool} {a : Int} (h : evenV s r a = true) : ∃ n R : Nat, s = n ∧ r = false ∧ a = R ∧ 2 ≤ n ∧ n ≤ 24 ∧ R ≤ 12 := by
  unfold evenV at h
  rw [Bool.and_eq_true, inR_iff] at h
  have := line_of h.1
  exact ⟨s.toNat, a.toNat, by omega, this.2, by omega, by omega, by omega, by omega⟩
theorem specEven_loop (n R : Nat) (h2 : 2 ≤ n) (hn : n ≤ 24) (hR : R ≤ 12) : Ev (fun k => spec_EvenPlaces.l0 k (R : Int) [] 0 (n : Int) false) (if evN n R > 6 then ([], false) else (tab (evN n R) (evAt n R), true)) := by
  have hN := evN_le (s := n) (R := R)
  have key := down (P := fun i => Ev (fun k => spec_EvenPlaces.l0 k (R : Int) (tab i (evAt n R)) ((i * (2 * R + 1) : Nat) : Int) (n : Int) false) (if evN n R > 6 then ([], false) else (tab (evN n R) (evAt n R), true))) (n := evN n R)
    (ev_now (fun k => by
      have h1 := evN_ge n R
      simp only [spec_EvenPlaces.l0]
      rw [if_neg (by omega), tab_len]
      by_cases h : evN n R > 6
      · rw [if_pos (by omega), if_pos h]
      · rw [if_neg (by omega), if_neg h]))
    (fun i hi ih => by
      have h1 := evN_lt hi (by omega)
      refine Ev.step (fun k => ?_) ih
      simp only [spec_EvenPlaces.l0, evLeast_eq, evMost_eq, Option.bind_some]
      rw [if_pos (by omega), if_pos (by rw [tab_len]; omega), w64 (x := ((i * (2 * R + 1) : Nat) : Int) + R) (by omega) (by omega), w64 (x := (n : Int) - 1) (by omega) (by omega), w64 (x := (n : Int) - 1 - R) (by omega) (by omega), w64 (x := 2 * (R : Int)) (by omega) (by omega), w64 (x := ((i * (2 * R + 1) : Nat) : Int) + 2 * R) (by omega) (by omega), w64 (by omega) (by omega)]
      have e : ((i * (2 * R + 1) : Nat) : Int) + 2 * (R : Int) + 1 = (((i + 1) * (2 * R + 1) : Nat) : Int) := by
        have e0 : (i + 1) * (2 * R + 1) = i * (2 * R + 1) + (2 * R + 1) := Nat.succ_mul _ _
        rw [e0]; omega
      rw [e]
      have := tab_snoc i (evAt n R)
      unfold evAt at this ⊢
      rw [this])
  have k0 := key 0 (by omega)
  simpa [tab_zero] using k0
theorem specEven_ev (s : Int) (r : Bool) (a : Int) : Ev (fun k => spec_EvenPlaces.f k s r a) (evenR s r a) := by
  unfold spec_EvenPlaces.f evenR
  simp only [Option.bind_some, l2Road_eq, l1In_eq]
  have hno : ∀ r', Ev (fun k => spec_EvenPlaces.j0 k a [] true s r') (([], false) : List Int × Bool) := fun r' => ev_now (fun k => by simp only [spec_EvenPlaces.j0, if_true])
  cases hv : evenV s r a with
  | true =>
    obtain ⟨n, R, rfl, rfl, rfl, h2, hn, hR⟩ := even_of hv
    have e1 : inR 2 24 (n : Int) = true := inR_iff.2 (by omega)
    have e2 : inR 0 12 (R : Int) = true := inR_iff.2 (by omega)
    rw [e1, e2]
    refine ev_pos (by simp) (ev_neg (by simp) (Ev.step (fun k => by simp only [spec_EvenPlaces.j0, Bool.not_true, Bool.false_eq_true, if_false]; rfl) ?_))
    simp only [if_true, Int.toNat_natCast]
    exact specEven_loop n R h2 hn hR
  | false =>
    simp only [Bool.false_eq_true, if_false]
    cases h1 : inR 2 24 s with
    | false => exact ev_neg (by simp) (hno r)
    | true =>
      cases r with
      | true =>
        by_cases h2 : s > 2
        · exact ev_pos (by simp [h2]) (ev_pos rfl (hno true))
        · exact ev_neg (by simp [h2]) (hno true)
      | false =>
        refine ev_pos (by simp) (ev_neg (by simp) ?_)
        have e2 : inR 0 12 a = false := by
          cases h3 : inR 0 12 a with
          | false => rfl
          | true => unfold evenV lineV at hv; rw [h1, h3] at hv; simp at hv
        rw [e2]
        exact hno false
theorem implEven_loop (n R : Nat) (h2 : 2 ≤ n) (hn : n ≤ 24) (hR : R ≤ 12) (h6 : evN n R ≤ 6) : Ev (fun k => impl_EvenPlaces.l0 k (R : Int) (2 * (R : Int) + 1) [] (evN n R : Int) 0 (n : Int) false) (tab (evN n R) (evAt n R), true) := by
  have key := down (P := fun i => Ev (fun k => impl_EvenPlaces.l0 k (R : Int) (2 * (R : Int) + 1) (tab i (evAt n R)) (evN n R : Int) (i : Int) (n : Int) false) (tab (evN n R) (evAt n R), true)) (n := evN n R)
    (ev_now (fun k => by simp only [impl_EvenPlaces.l0]; rw [if_neg (by omega)]))
    (fun i hi ih => by
      have h1 := evN_lt hi (by omega)
      refine Ev.step (fun k => ?_) ih
      have e : (i : Int) * (2 * (R : Int) + 1) = ((i * (2 * R + 1) : Nat) : Int) := by simp
      simp only [impl_EvenPlaces.l0]
      rw [if_pos (by omega), if_pos (by rw [tab_len]; omega), e, w64 (x := ((i * (2 * R + 1) : Nat) : Int)) (by omega) (by omega), w64 (x := (R : Int) + ((i * (2 * R + 1) : Nat) : Int)) (by omega) (by omega), w64 (x := (n : Int) - 1) (by omega) (by omega), w64 (x := (n : Int) - 1 - R) (by omega) (by omega), w64s hi (by omega), Int.add_comm (R : Int)]
      have := tab_snoc i (evAt n R)
      unfold evAt at this ⊢
      rw [this])
  have k0 := key 0 (by omega)
  simpa [tab_zero] using k0
theorem implEven_ev (s : Int) (r : Bool) (a : Int) : Ev (fun k => impl_EvenPlaces.f k s r a) (evenR s r a) := by
  unfold impl_EvenPlaces.f evenR
  simp only [Option.bind_some, isLine_eq, within_eq]
  have hno : ∀ r', Ev (fun k => impl_EvenPlaces.j0 k a true s r') (([], false) : List Int × Bool) := fun r' => ev_now (fun k => by simp only [impl_EvenPlaces.j0, if_true])
  cases hv : evenV s r a with
  | true =>
    obtain ⟨n, R, rfl, rfl, rfl, h2, hn, hR⟩ := even_of hv
    have hN := evN_le (s := n) (R := R)
    have e1 : lineV (n : Int) false = true := by unfold lineV; rw [inR_iff.2 (by omega)]; rfl
    have e2 : inR 0 12 (R : Int) = true := inR_iff.2 (by omega)
    rw [e1, e2]
    simp only [if_true, Int.toNat_natCast]
    have ec : wrap64 (Int.tdiv (wrap64 (wrap64 ((n : Int) + wrap64 (wrap64 (2 * (R : Int)) + 1)) - 1)) (wrap64 (wrap64 (2 * (R : Int)) + 1))) = (evN n R : Int) := by
      rw [w64 (x := 2 * (R : Int)) (by omega) (by omega), w64 (x := 2 * (R : Int) + 1) (by omega) (by omega), w64 (x := (n : Int) + (2 * (R : Int) + 1)) (by omega) (by omega), w64 (x := (n : Int) + (2 * (R : Int) + 1) - 1) (by omega) (by omega), Int.tdiv_eq_ediv_of_nonneg (by omega)]
      have e : ((n : Int) + (2 * (R : Int) + 1) - 1) / (2 * (R : Int) + 1) = (evN n R : Int) := by
        unfold evN
        rw [Int.natCast_ediv]
        congr 1
        omega
      rw [e, w64 (by omega) (by omega)]
    refine Ev.step (fun k => by simp only [impl_EvenPlaces.j0, Bool.not_true, Bool.false_eq_true, if_false, ec]; rfl) ?_
    rw [w64 (x := 2 * (R : Int)) (by omega) (by omega), w64 (x := 2 * (R : Int) + 1) (by omega) (by omega)]
    refine ev_neg (by omega) ?_
    by_cases h6 : evN n R > 6
    · rw [if_pos h6]
      exact ev_pos (by omega) (Ev.now _)
    · rw [if_neg h6]
      exact ev_neg (by omega) (implEven_loop n R h2 hn hR (by omega))
  | false =>
    simp only [Bool.false_eq_true, if_false]
    cases h1 : lineV s r with
    | false => exact ev_neg (by simp) (hno r)
    | true =>
      refine ev_pos rfl ?_
      have e2 : inR 0 12 a = false := by
        cases h3 : inR 0 12 a with
        | false => rfl
        | true => unfold evenV at hv; rw [h1, h3] at hv; simp at hv
      rw [e2]
      exact hno r

theorem FnExactEvenPlaces : FnExactEvenPlacesLeft := by
  intro s r a _ _
  refine Ev.rounds (g := fun k => laws_FnExactEvenPlaces.f k s r a) ?_
  unfold laws_FnExactEvenPlaces.f
  have hr := evenR_len s r a
  repeat (first
    | exact Ev.now _
    | (with_reducible refine Ev.bind (specEven_ev _ _ _) ?_; try dsimp only)
    | (with_reducible refine Ev.bind (implEven_ev _ _ _) ?_; try dsimp only)
    | (with_reducible refine Ev.bind (eqIntS_self _ (by omega)) ?_; try dsimp only)
    | (with_reducible refine Ev.bind (markIntS_ev _ _ hr (by omega) (by omega)) ?_; try dsimp only)
    | (with_reducible refine Ev.bind (heldIntS_ev _ _ hr (by omega) (by omega)) ?_; try dsimp only)
    | (refine ev_bind0 (show laws_toRoad.f _ _ = some (_, _) from rfl) ?_; try dsimp only)
    | (refine ev_pos (by first | exact True.intro | rfl | assumption | omega) ?_; try dsimp only)
    | (refine ev_neg (by first | (simp; done) | omega) ?_; try dsimp only)
    | (refine Ev.step (fun k => by simp only [laws_FnExactEvenPlaces.j0]; rfl) ?_)
    | (refine Ev.step (fun k => by simp only [laws_FnExactEvenPlaces.j1]; rfl) ?_))

end Go.Proofs.Ytanfamfgdgcjpaa.Pure
