/- FnExactViewOf: the left statement: for every crowd (and number) the law answers true. No condition. -/
import Derived.Test.YtjmpanikfomgeaaPFnExactViewOfx6
import Derived.Test.YtjmpanikfomgeaaBase
namespace Go.Proofs.Ytjmpanikfomgeaa.Pure
open Go.RowKit Go.Proofs.Ytjmpanikfomgeaa.PFnExactViewOf Go.Proofs.YtjmpanikfomgeaaW.PrintWords Go.Proofs.YtjmpanikfomgeaaW.PrintLast Go.Proofs.Ytjmpanikfomgeaa.Base
set_option linter.unusedVariables false
set_option linter.unusedSimpArgs false

def FnExactViewOfLeft : Prop := ∀ (a0_0 : Int) (l0_1 : List Int) (a1 : Int), (Lit.int .i64 a0_0).wf = true → l0_1.length ≤ maxLen → (∀ x ∈ l0_1, (Lit.int .i64 x).wf = true) → (Lit.int .i64 a1).wf = true → ∃ k, laws_FnExactViewOf.f k a0_0 l0_1 a1 = some true

theorem toIntS_ev (l : List Int) (hl : l.length ≤ 1048576) : Ev (fun k => laws_toIntS.f k l) l := by
  have key := down (P := fun i => Ev (fun k => laws_toIntS.l0 k l (tab l.length (fun q => if q < i then rd l (q : Int) else 0)) (i : Int)) l) (n := l.length)
    (ev_now (fun k => by
      simp only [laws_toIntS.l0]
      rw [if_neg (by omega)]
      congr 1
      exact (tab_ext rfl (fun q hq => by rw [if_pos hq])).symm))
    (fun i hi ih => by
      refine Ev.step (fun k => ?_) ih
      simp only [laws_toIntS.l0]
      rw [if_pos (by omega), if_pos (by omega), if_pos (by rw [tab_len]; omega), w64s hi (by omega), Int.toNat_natCast, tab_set]
      congr 1
      refine tab_congr (fun q _ => ?_)
      by_cases e : q = i
      · subst e; rw [if_pos rfl, if_pos (by omega)]
      · rw [if_neg e]
        by_cases e2 : q < i
        · rw [if_pos e2, if_pos (by omega)]
        · rw [if_neg e2, if_neg (by omega)])
  refine Ev.congr (fun k => ?_) (key 0 (by omega))
  unfold laws_toIntS.f
  rw [if_pos (by omega), if_pos (by omega), Int.toNat_natCast, tab_rep]
  simp

theorem eqIntS_ev (a b : List Int) (hl : a.length ≤ 1152921504606846976) : Ev (fun k => laws_eqIntS.f k a b) (decide (a = b)) := by
  by_cases h : a.length = b.length
  · have key := down (P := fun i => Ev (fun k => laws_eqIntS.l0 k a b (i : Int)) (decide (a.drop i = b.drop i))) (n := a.length)
      (ev_now (fun k => by
        simp only [laws_eqIntS.l0]
        rw [if_neg (by omega)]
        simp
        omega))
      (fun i hi ih => by
        rw [drop_cons hi, drop_cons (l := b) (by omega)]
        by_cases e : rd a (i : Int) = rd b (i : Int)
        · have e2 : decide (rd a (i : Int) :: a.drop (i + 1) = rd b (i : Int) :: b.drop (i + 1)) = decide (a.drop (i + 1) = b.drop (i + 1)) := by simp [e]
          rw [e2]
          refine Ev.step (fun k => ?_) ih
          simp only [laws_eqIntS.l0]
          rw [if_pos (by omega), if_pos (by omega), if_pos (by omega), if_pos e, w64s hi hl]
        · refine ev_now (fun k => ?_)
          simp only [laws_eqIntS.l0]
          rw [if_pos (by omega), if_pos (by omega), if_pos (by omega), if_neg e]
          simp [e])
    refine Ev.congr (fun k => ?_) (key 0 (by omega))
    unfold laws_eqIntS.f
    rw [if_pos (by omega)]
    rfl
  · refine Ev.congr (fun k => ?_) (Ev.now _)
    unfold laws_eqIntS.f
    rw [if_neg (by omega)]
    simp
    intro e
    exact h (by rw [e])
theorem eqIntS_self (a : List Int) (hl : a.length ≤ 1152921504606846976) : Ev (fun k => laws_eqIntS.f k a a) true := by
  have := eqIntS_ev a a hl
  simpa using this

theorem szIntS_eq (l : List Int) (a : Int) (h0 : 0 ≤ a) (h1 : a ≤ 1048576) (hl : l.length ≤ maxLen) : laws_szIntS.f l a = some (if a - (l.length : Int) < 0 then -1 else a - (l.length : Int)) := by
  have hm : l.length ≤ 9223372036854775807 := by simpa [maxLen] using hl
  unfold laws_szIntS.f
  rw [w64 (by omega) (by omega)]
  split <;> rfl

theorem toCrowd_ev (s : Int) (l : List Int) (hl : l.length ≤ 1048576) : Ev (fun k => laws_toCrowd.f k s l) (s, l) :=
  Ev.bind (f := fun _ t => some (s, t)) (toIntS_ev l hl) (Ev.now _)
theorem eqCrowd_self (s : Int) (l : List Int) (hl : l.length ≤ 1152921504606846976) : Ev (fun k => laws_eqCrowd.f k s l s l) true := by
  unfold laws_eqCrowd.f
  refine ev_pos rfl (Ev.bind (eqIntS_self l hl) ?_)
  exact ev_pos rfl (Ev.now _)
theorem szCrowd_eq (s : Int) (l : List Int) (hl : l.length ≤ maxLen) : laws_szCrowd.f s l 1048576 = some (if 1048576 - (l.length : Int) < 0 then -1 else 1048576 - (l.length : Int)) := by
  unfold laws_szCrowd.f
  rw [szIntS_eq l 1048576 (by omega) (by omega) hl, Option.bind_some]
  by_cases h : 1048576 - (l.length : Int) < 0
  · rw [if_pos h]; rfl
  · rw [if_neg h, if_neg h]

theorem markIntS_ev (l : List Int) (a : Int) (hl : l.length ≤ 1048576) (ha : 0 ≤ a) (ha2 : a ≤ 1152921504606846976) : Ev (fun k => laws_markIntS.f k l a) (a + (l.length : Int), cnt a l.length) := by
  have key := down (P := fun i => Ev (fun k => laws_markIntS.l0 k (tab l.length (fun q => if q < i then a + q else rd l (q : Int))) (a + (i : Int)) (i : Int)) (a + (l.length : Int), cnt a l.length)) (n := l.length)
    (ev_now (fun k => by
      simp only [laws_markIntS.l0]
      rw [if_neg (by rw [tab_len]; omega)]
      congr 2
      exact tab_congr (fun q hq => by rw [if_pos hq])))
    (fun i hi ih => by
      refine Ev.step (fun k => ?_) ih
      simp only [laws_markIntS.l0]
      rw [if_pos (by rw [tab_len]; omega), if_pos (by omega), w64s hi (by omega), Int.toNat_natCast, tab_set, w64 (by omega) (by omega)]
      congr 1
      · refine tab_congr (fun q _ => ?_)
        by_cases e : q = i
        · subst e; rw [if_pos rfl, if_pos (by omega)]
        · rw [if_neg e]
          by_cases e2 : q < i
          · rw [if_pos e2, if_pos (by omega)]
          · rw [if_neg e2, if_neg (by omega)]
      · omega)
  refine Ev.congr (fun k => ?_) (key 0 (by omega))
  unfold laws_markIntS.f
  congr 1
  · rw [← tab_ext rfl (fun q _ => by rw [if_neg (by omega)])]
  · simp

theorem markCrowd_ev (s : Int) (l : List Int) (a : Int) (hl : l.length ≤ 1048576) (ha : 0 ≤ a) (ha2 : a ≤ 1152921504606846976) : Ev (fun k => laws_markCrowd.f k s l a) (a + (l.length : Int), cnt a l.length) := by
  unfold laws_markCrowd.f
  exact Ev.bind (markIntS_ev l a hl ha ha2) (Ev.now _)

theorem heldIntS_ev (n : Nat) (a : Int) (hl : n ≤ 1048576) (ha : 0 ≤ a) (ha2 : a ≤ 1152921504606846976) : Ev (fun k => laws_heldIntS.f k (cnt a n) a) (a + (n : Int)) := by
  have key := down (P := fun i => Ev (fun k => laws_heldIntS.l0 k (cnt a n) (a + (i : Int)) (i : Int)) (a + (n : Int))) (n := n)
    (ev_now (fun k => by
      simp only [laws_heldIntS.l0]
      rw [if_neg (by rw [cnt_len]; omega)]))
    (fun i hi ih => by
      refine Ev.step (fun k => ?_) ih
      simp only [laws_heldIntS.l0]
      rw [if_pos (by rw [cnt_len]; omega), if_pos (by omega), if_pos (by unfold cnt; rw [tab_rd hi]), w64s hi (by omega), w64 (by omega) (by omega)]
      congr 1
      omega)
  refine Ev.congr (fun k => ?_) (key 0 (by omega))
  unfold laws_heldIntS.f
  simp

theorem l1In_eq (a b c : Int) : spec_l1In.f a b c = some (inR b c a) := by
  unfold spec_l1In.f inR
  by_cases h : a ≥ b
  · have h' : b ≤ a := h
    rw [if_pos h]; simp [h']
  · have h' : ¬ b ≤ a := h
    rw [if_neg h]; simp [h']

theorem l1Rising_ev (l : List Int) (lo hi : Int) (hl : l.length ≤ 1048576) : Ev (fun k => spec_l1Rising.f k l lo hi) (ris l lo hi 0) := by
  have key := down (P := fun i => Ev (fun k => spec_l1Rising.l0 k l lo hi (i : Int)) (ris l lo hi i)) (n := l.length)
    (ev_now (fun k => by simp only [spec_l1Rising.l0]; rw [if_neg (by omega), ris_end]))
    (fun i hi' ih => by
      rw [ris_step hi']
      by_cases hc : risC l lo hi i
      · rw [decide_eq_true hc, Bool.true_and]
        refine Ev.step (fun k => ?_) ih
        simp only [spec_l1Rising.l0, l1In_eq, Option.bind_some]
        rw [if_pos (by omega), if_pos (by omega), if_pos (inR_iff.2 ⟨hc.1, hc.2.1⟩), w64s hi' (by omega)]
        by_cases h0 : 0 < i
        · have h3 := hc.2.2 h0
          rw [if_pos (by omega), w64 (by omega) (by omega), show (i : Int) - 1 = ((i - 1 : Nat) : Int) by omega, if_pos (by omega), if_pos (by omega), if_neg (by omega)]
        · rw [if_neg (by omega)]
      · rw [decide_eq_false hc, Bool.false_and]
        refine ev_now (fun k => ?_)
        simp only [spec_l1Rising.l0, l1In_eq, Option.bind_some]
        rw [if_pos (by omega), if_pos (by omega)]
        by_cases h1 : inR lo hi (rd l (i : Int)) = true
        · have h2 := inR_iff.1 h1
          rw [if_pos h1]
          by_cases h0 : 0 < i
          · rw [if_pos (by omega), w64 (by omega) (by omega), show (i : Int) - 1 = ((i - 1 : Nat) : Int) by omega, if_pos (by omega), if_pos (by omega)]
            have h3 : ¬ rd l ((i - 1 : Nat) : Int) < rd l (i : Int) := fun h => hc ⟨h2.1, h2.2, fun _ => h⟩
            rw [if_pos (by omega)]
          · exact absurd ⟨h2.1, h2.2, fun h => absurd h h0⟩ hc
        · rw [if_neg h1])
  exact key 0 (by omega)

def crowdV (s : Int) (l : List Int) : Bool := inR 3 12 s && (inR 1 6 (l.length : Int) && ris l 0 (s - 1) 0)
theorem crowd_of {s : Int} {l : List Int} (h : crowdV s l = true) : (3 ≤ s ∧ s ≤ 12) ∧ (1 ≤ l.length ∧ l.length ≤ 6) ∧ ∀ j, j < l.length → risC l 0 (s - 1) j := by
  unfold crowdV at h
  rw [Bool.and_eq_true, Bool.and_eq_true, inR_iff, inR_iff] at h
  exact ⟨h.1, by omega, ris_of h.2.2⟩
theorem l10Crowd_ev (s : Int) (l : List Int) (hl : l.length ≤ 1048576) : Ev (fun k => spec_l10Crowd.f k s l) (crowdV s l) := by
  unfold spec_l10Crowd.f crowdV
  simp only [l1In_eq, Option.bind_some]
  cases h1 : inR 3 12 s with
  | false => exact ev_neg (by simp) (Ev.now _)
  | true =>
    have hs := inR_iff.1 h1
    refine ev_pos rfl ?_
    cases h2 : inR 1 6 (l.length : Int) with
    | false => exact ev_neg (by simp) (Ev.now _)
    | true =>
      refine ev_pos rfl ?_
      rw [w64 (by omega) (by omega), Bool.true_and, Bool.true_and]
      exact Ev.bind (l1Rising_ev l 0 (s - 1) hl) (Ev.now _)

theorem within_eq (a b c : Int) : impl_within.f a b c = some (inR b c a) := by
  unfold impl_within.f inR
  by_cases h : a ≥ b
  · have h' : b ≤ a := h
    rw [if_pos h]; simp [h']
  · have h' : ¬ b ≤ a := h
    rw [if_neg h]; simp [h']

theorem implIsCrowd_ev (s : Int) (l : List Int) (hl : l.length ≤ 1048576) : Ev (fun k => impl_IsCrowd.f k s l) (crowdV s l) := by
  have key := down (P := fun i => Ev (fun k => impl_IsCrowd.l0 k l (l.length : Int) (i : Int) s l) (ris l 0 (wrap64 (s - 1)) i && (inR 3 12 s && inR 1 6 (l.length : Int)))) (n := l.length)
    (ev_now (fun k => by
      simp only [impl_IsCrowd.l0, within_eq, Option.bind_some]
      rw [if_neg (by omega), ris_end]
      cases inR 3 12 s <;> simp))
    (fun i hi' ih => by
      rw [ris_step hi']
      by_cases hc : risC l 0 (wrap64 (s - 1)) i
      · rw [decide_eq_true hc, Bool.true_and]
        refine Ev.step (fun k => ?_) ih
        simp only [impl_IsCrowd.l0, within_eq, Option.bind_some]
        rw [if_pos (by omega), if_pos (by omega), if_pos (by omega), if_pos (inR_iff.2 ⟨hc.1, hc.2.1⟩), w64s hi' (by omega)]
        by_cases h0 : 0 < i
        · have h3 := hc.2.2 h0
          rw [if_pos (by omega), w64 (x := (i : Int) - 1) (by omega) (by omega), show (i : Int) - 1 = ((i - 1 : Nat) : Int) by omega, if_pos (by omega), if_pos (by omega), if_neg (by omega)]
        · rw [if_neg (by omega)]
      · rw [decide_eq_false hc, Bool.false_and, Bool.false_and]
        refine ev_now (fun k => ?_)
        simp only [impl_IsCrowd.l0, within_eq, Option.bind_some]
        rw [if_pos (by omega), if_pos (by omega), if_pos (by omega)]
        by_cases h1 : inR 0 (wrap64 (s - 1)) (rd l (i : Int)) = true
        · have h2 := inR_iff.1 h1
          rw [if_pos h1]
          by_cases h0 : 0 < i
          · rw [if_pos (by omega), w64 (x := (i : Int) - 1) (by omega) (by omega), show (i : Int) - 1 = ((i - 1 : Nat) : Int) by omega, if_pos (by omega), if_pos (by omega)]
            have h3 : ¬ rd l ((i - 1 : Nat) : Int) < rd l (i : Int) := fun h => hc ⟨h2.1, h2.2, fun _ => h⟩
            rw [if_pos (by omega)]
          · exact absurd ⟨h2.1, h2.2, fun h => absurd h h0⟩ hc
        · rw [if_neg h1])
  have k0 := key 0 (by omega)
  have e : (ris l 0 (wrap64 (s - 1)) 0 && (inR 3 12 s && inR 1 6 (l.length : Int))) = crowdV s l := by
    unfold crowdV
    cases h1 : inR 3 12 s with
    | false => simp
    | true =>
      have hs := inR_iff.1 h1
      rw [w64 (by omega) (by omega)]
      cases inR 1 6 (l.length : Int) <;> simp
  rw [e] at k0
  exact k0

/-- The gap to the right from a place of the row of robots. -/
def gp (s : Int) (l : List Int) (x : Int) : Int := if (cy l (x + 1) - cy l x + s) % s = 0 then s else (cy l (x + 1) - cy l x + s) % s
def gapR (s : Int) (l : List Int) (i : Int) : List Int := tab l.length (fun m => gp s l (i + m))
def gapL (s : Int) (l : List Int) (i : Int) : List Int := tab l.length (fun m => gp s l (i - m - 1))
theorem gapR_len (s : Int) (l : List Int) (i : Int) : (gapR s l i).length = l.length := tab_len _ _
theorem gapL_len (s : Int) (l : List Int) (i : Int) : (gapL s l i).length = l.length := tab_len _ _
theorem gp_shift (s : Int) (l : List Int) (x : Int) : gp s l (x + (l.length : Int)) = gp s l x := by
  have h1 := cy_add l x 1
  have h2 := cy_add l (x + 1) 1
  rw [Int.one_mul] at h1 h2
  unfold gp
  rw [show x + (l.length : Int) + 1 = x + 1 + (l.length : Int) by omega, h1, h2]
theorem cy_bd {s : Int} {l : List Int} (h : crowdV s l = true) (x : Int) : 0 ≤ cy l x ∧ cy l x ≤ s - 1 := by
  have hc := crowd_of h
  unfold cy
  have h1 := Int.emod_nonneg x (b := (l.length : Int)) (by omega)
  have h2 := Int.emod_lt_of_pos x (b := (l.length : Int)) (by omega)
  obtain ⟨j, hj⟩ := Int.eq_ofNat_of_zero_le h1
  rw [hj]
  have := hc.2.2 j (by omega)
  exact ⟨this.1, this.2.1⟩
theorem cy_emod {l : List Int} {x : Int} : rd l (x % (l.length : Int)) = cy l x := rfl
theorem gp_if {α : Type} {s : Int} {l : List Int} {x : Int} {e : Int} (he : e = (cy l (x + 1) - cy l x + s) % s) (f : Int → α) : (if e = 0 then f s else f e) = f (gp s l x) := by
  unfold gp
  subst he
  split <;> rfl
theorem gp_row {s : Int} {l : List Int} {x e : Int} (out : List Int) (h : out.length < 17592186044416) (he : e = (cy l (x + 1) - cy l x + s) % s) (F : List Int → Option (List Int)) :
    (if e = 0 then (if out.length < 17592186044416 then F (out ++ [s]) else none) else (if out.length < 17592186044416 then F (out ++ [e]) else none)) = F (out ++ [gp s l x]) := by
  rw [if_pos h, if_pos h]
  exact gp_if he (fun v => F (out ++ [v]))
theorem l10Gaps_ev (s : Int) (l : List Int) (i : Nat) (h : crowdV s l = true) (hi : i < l.length) : Ev (fun k => spec_l10Gaps.f k s l (i : Int)) (gapR s l (i : Int)) := by
  have hc := crowd_of h
  have key := down (P := fun m => Ev (fun k => spec_l10Gaps.l0 k (i : Int) (tab m (fun q => gp s l ((i : Int) + q))) (l.length : Int) (m : Int) s l) (gapR s l (i : Int))) (n := l.length)
    (ev_now (fun k => by simp only [spec_l10Gaps.l0]; rw [if_neg (by omega)]; rfl))
    (fun m hm ih => by
      have b0 := cy_bd h ((i : Int) + m)
      have b1 := cy_bd h ((i : Int) + m + 1)
      have e0 := Int.emod_nonneg ((i : Int) + m) (b := (l.length : Int)) (by omega)
      have e1 := Int.emod_lt_of_pos ((i : Int) + m) (b := (l.length : Int)) (by omega)
      have e2 := Int.emod_nonneg ((i : Int) + m + 1) (b := (l.length : Int)) (by omega)
      have e3 := Int.emod_lt_of_pos ((i : Int) + m + 1) (b := (l.length : Int)) (by omega)
      refine Ev.step (fun k => ?_) ih
      simp only [spec_l10Gaps.l0]
      rw [if_pos (by omega), if_neg (by omega), w64 (x := (i : Int) + m) (by omega) (by omega), w64 (x := (i : Int) + m + 1) (by omega) (by omega), tmod_pos (x := (i : Int) + m) (by omega), tmod_pos (x := (i : Int) + m + 1) (by omega), if_pos e0, if_pos e1, if_pos e2, if_pos e3, if_neg (by omega), cy_emod, cy_emod,
        w64 (x := cy l ((i : Int) + m + 1) - cy l ((i : Int) + m)) (by omega) (by omega), w64 (x := cy l ((i : Int) + m + 1) - cy l ((i : Int) + m) + s) (by omega) (by omega), tmod_pos (x := cy l ((i : Int) + m + 1) - cy l ((i : Int) + m) + s) (by omega), w64s hm (by omega)]
      rw [gp_row (tab m (fun q => gp s l ((i : Int) + q))) (by rw [tab_len]; omega) rfl (fun o => spec_l10Gaps.l0 k (i : Int) o (l.length : Int) ((m + 1 : Nat) : Int) s l), tab_snoc m (fun q => gp s l ((i : Int) + q))])
  exact key 0 (by omega)
theorem gaps_right (s : Int) (l : List Int) (i : Nat) (h : crowdV s l = true) (hi : i < l.length) : Ev (fun k => impl_Crowd_gaps.f k s l (i : Int) 1) (gapR s l (i : Int)) := by
  have hc := crowd_of h
  have key := down (P := fun m => Ev (fun k => impl_Crowd_gaps.l0 k (i : Int) 1 (l.length : Int) (tab m (fun q => gp s l ((i : Int) + q))) (l.length : Int) (m : Int) s l) (gapR s l (i : Int))) (n := l.length)
    (ev_now (fun k => by simp only [impl_Crowd_gaps.l0]; rw [if_neg (by omega)]; rfl))
    (fun m hm ih => by
      have b0 := cy_bd h ((i : Int) + m)
      have b1 := cy_bd h ((i : Int) + m + 1)
      have e0 := Int.emod_nonneg ((i : Int) + m) (b := (l.length : Int)) (by omega)
      have e1 := Int.emod_lt_of_pos ((i : Int) + m) (b := (l.length : Int)) (by omega)
      have e2 := Int.emod_nonneg ((i : Int) + m + 1) (b := (l.length : Int)) (by omega)
      have e3 := Int.emod_lt_of_pos ((i : Int) + m + 1) (b := (l.length : Int)) (by omega)
      refine Ev.step (fun k => ?_) ih
      simp only [impl_Crowd_gaps.l0, Int.mul_one]
      have t0 := Int.emod_nonneg ((i : Int) + m) (b := (l.length : Int)) (by omega)
      rw [if_pos (by omega), if_neg (by omega), w64s hm (by omega), w64 (x := (m : Int)) (by omega) (by omega), w64 (x := ((m + 1 : Nat) : Int)) (by omega) (by omega), w64 (x := (i : Int) + m) (by omega) (by omega), show (i : Int) + ((m + 1 : Nat) : Int) = (i : Int) + m + 1 by omega, w64 (x := (i : Int) + m + 1) (by omega) (by omega)]
      rw [tmod_pos (x := (i : Int) + m) (by omega), tmod_pos (x := (i : Int) + m + 1) (by omega), w64 (x := ((i : Int) + m) % (l.length : Int) + (l.length : Int)) (by omega) (by omega), w64 (x := ((i : Int) + m + 1) % (l.length : Int) + (l.length : Int)) (by omega) (by omega),
        tmod_pos (x := ((i : Int) + m) % (l.length : Int) + (l.length : Int)) (by omega), tmod_pos (x := ((i : Int) + m + 1) % (l.length : Int) + (l.length : Int)) (by omega), Int.add_emod_right, Int.add_emod_right, Int.emod_emod_of_dvd _ (Int.dvd_refl _), Int.emod_emod_of_dvd _ (Int.dvd_refl _)]
      rw [if_pos e0, if_pos e1, if_pos e2, if_pos e3, if_neg (by omega), cy_emod, cy_emod,
        w64 (x := cy l ((i : Int) + m + 1) - cy l ((i : Int) + m)) (by omega) (by omega), w64 (x := cy l ((i : Int) + m + 1) - cy l ((i : Int) + m)) (by omega) (by omega), w64 (x := cy l ((i : Int) + m + 1) - cy l ((i : Int) + m) + s) (by omega) (by omega), tmod_pos (x := cy l ((i : Int) + m + 1) - cy l ((i : Int) + m) + s) (by omega)]
      rw [gp_row (tab m (fun q => gp s l ((i : Int) + q))) (by rw [tab_len]; omega) rfl (fun o => impl_Crowd_gaps.l0 k (i : Int) 1 (l.length : Int) o (l.length : Int) ((m + 1 : Nat) : Int) s l), tab_snoc m (fun q => gp s l ((i : Int) + q))])
  exact key 0 (by omega)
theorem gaps_left (s : Int) (l : List Int) (i : Nat) (h : crowdV s l = true) (hi : i < l.length) : Ev (fun k => impl_Crowd_gaps.f k s l (i : Int) (-1)) (gapL s l (i : Int)) := by
  have hc := crowd_of h
  have key := down (P := fun m => Ev (fun k => impl_Crowd_gaps.l0 k (i : Int) (-1) (l.length : Int) (tab m (fun q => gp s l ((i : Int) - q - 1))) (l.length : Int) (m : Int) s l) (gapL s l (i : Int))) (n := l.length)
    (ev_now (fun k => by simp only [impl_Crowd_gaps.l0]; rw [if_neg (by omega)]; rfl))
    (fun m hm ih => by
      have b0 := cy_bd h ((i : Int) - m)
      have b1 := cy_bd h ((i : Int) - m - 1)
      have e0 := Int.emod_nonneg ((i : Int) - m) (b := (l.length : Int)) (by omega)
      have e1 := Int.emod_lt_of_pos ((i : Int) - m) (b := (l.length : Int)) (by omega)
      have e2 := Int.emod_nonneg ((i : Int) - m - 1) (b := (l.length : Int)) (by omega)
      have e3 := Int.emod_lt_of_pos ((i : Int) - m - 1) (b := (l.length : Int)) (by omega)
      have f0 : -(l.length : Int) < Int.tmod ((i : Int) - m) (l.length : Int) ∧ Int.tmod ((i : Int) - m) (l.length : Int) < l.length := ⟨Int.lt_tmod_of_pos _ (by omega), Int.tmod_lt_of_pos _ (by omega)⟩
      have f1 : -(l.length : Int) < Int.tmod ((i : Int) - m - 1) (l.length : Int) ∧ Int.tmod ((i : Int) - m - 1) (l.length : Int) < l.length := ⟨Int.lt_tmod_of_pos _ (by omega), Int.tmod_lt_of_pos _ (by omega)⟩
      refine Ev.step (fun k => ?_) ih
      simp only [impl_Crowd_gaps.l0]
      rw [if_pos (by omega), if_neg (by omega), w64s hm (by omega), w64 (x := (m : Int) * -1) (by omega) (by omega), w64 (x := ((m + 1 : Nat) : Int) * -1) (by omega) (by omega), show (i : Int) + (m : Int) * -1 = (i : Int) - m by omega, show (i : Int) + ((m + 1 : Nat) : Int) * -1 = (i : Int) - m - 1 by omega, w64 (x := (i : Int) - m) (by omega) (by omega), w64 (x := (i : Int) - m - 1) (by omega) (by omega)]
      rw [w64 (x := Int.tmod ((i : Int) - m) (l.length : Int) + (l.length : Int)) (by omega) (by omega), w64 (x := Int.tmod ((i : Int) - m - 1) (l.length : Int) + (l.length : Int)) (by omega) (by omega), tmod_twice _ (by omega), tmod_twice _ (by omega)]
      rw [if_pos e0, if_pos e1, if_pos e2, if_pos e3, if_neg (by omega), cy_emod, cy_emod,
        w64 (x := cy l ((i : Int) - m - 1) - cy l ((i : Int) - m)) (by omega) (by omega), w64 (x := (cy l ((i : Int) - m - 1) - cy l ((i : Int) - m)) * -1) (by omega) (by omega), show (cy l ((i : Int) - m - 1) - cy l ((i : Int) - m)) * -1 + s = cy l ((i : Int) - m - 1 + 1) - cy l ((i : Int) - m - 1) + s by rw [show (i : Int) - m - 1 + 1 = (i : Int) - m by omega]; omega]
      rw [show (i : Int) - m = (i : Int) - m - 1 + 1 by omega] at b0
      rw [w64 (x := cy l ((i : Int) - m - 1 + 1) - cy l ((i : Int) - m - 1) + s) (by omega) (by omega), tmod_pos (x := cy l ((i : Int) - m - 1 + 1) - cy l ((i : Int) - m - 1) + s) (by omega)]
      rw [gp_row (tab m (fun q => gp s l ((i : Int) - q - 1))) (by rw [tab_len]; omega) rfl (fun o => impl_Crowd_gaps.l0 k (i : Int) (-1) (l.length : Int) o (l.length : Int) ((m + 1 : Nat) : Int) s l), tab_snoc m (fun q => gp s l ((i : Int) - q - 1))])
  exact key 0 (by omega)
theorem l10Back_ev (l : List Int) (hl : l.length ≤ 1048576) : Ev (fun k => spec_l10Back.f k l) (tab l.length (fun q => rd l ((l.length - 1 - q : Nat) : Int))) := by
  by_cases h0 : l.length = 0
  · have e : l = [] := List.length_eq_zero_iff.1 h0
    subst e
    refine ev_now (fun k => ?_)
    unfold spec_l10Back.f
    simp only [spec_l10Back.l0]
    rw [if_neg (by rw [w64 (by simp) (by simp)]; simp)]; rfl
  have key := down (P := fun m => Ev (fun k => spec_l10Back.l0 k l (tab m (fun q => rd l ((l.length - 1 - q : Nat) : Int))) ((l.length : Int) - 1 - m)) (tab l.length (fun q => rd l ((l.length - 1 - q : Nat) : Int)))) (n := l.length)
    (ev_now (fun k => by simp only [spec_l10Back.l0]; rw [if_neg (by omega)]))
    (fun m hm ih => by
      refine Ev.step (fun k => ?_) ih
      simp only [spec_l10Back.l0]
      rw [if_pos (by omega), if_pos (by omega), if_pos (by omega), if_pos (by rw [tab_len]; omega), w64 (by omega) (by omega), show (l.length : Int) - 1 - m = ((l.length - 1 - m : Nat) : Int) by omega, tab_snoc m (fun q => rd l ((l.length - 1 - q : Nat) : Int))]
      congr 1
      omega)
  have k0 := key 0 (by omega)
  unfold spec_l10Back.f
  rw [w64 (by omega) (by omega)]
  simpa [tab_zero] using k0
theorem gap_back {s : Int} {l : List Int} {i : Int} : tab (gapR s l i).length (fun q => rd (gapR s l i) (((gapR s l i).length - 1 - q : Nat) : Int)) = gapL s l i := by
  rw [gapR_len]
  refine tab_congr (fun q hq => ?_)
  unfold gapR
  rw [tab_rd (by omega), ← gp_shift s l (i - q - 1)]
  congr 1
  omega
theorem back_gap (s : Int) (l : List Int) (i : Int) (hl : l.length ≤ 1048576) : Ev (fun k => spec_l10Back.f k (gapR s l i)) (gapL s l i) := by
  have := l10Back_ev (gapR s l i) (by rw [gapR_len]; exact hl)
  rwa [gap_back] at this
def robotV (s : Int) (l : List Int) (i : Int) : Bool := crowdV s l && inR 0 ((l.length : Int) - 1) i
theorem robot_of {s : Int} {l : List Int} {i : Int} (h : robotV s l i = true) : crowdV s l = true ∧ ∃ n : Nat, i = n ∧ n < l.length := by
  unfold robotV at h
  rw [Bool.and_eq_true, inR_iff] at h
  exact ⟨h.1, i.toNat, by omega, by omega⟩
theorem l10Has_ev (s : Int) (l : List Int) (i : Int) (hl : l.length ≤ 1048576) : Ev (fun k => spec_l10Has.f k s l i) (robotV s l i) := by
  unfold spec_l10Has.f robotV
  refine Ev.bind (l10Crowd_ev s l hl) ?_
  cases crowdV s l with
  | true => simp only [l1In_eq, Option.bind_some, w64 (x := (l.length : Int) - 1) (by omega) (by omega), Bool.true_and]; exact ev_pos (by trivial) (Ev.now _)
  | false => exact ev_neg (by simp) (Ev.now _)
theorem isRobot_ev (s : Int) (l : List Int) (i : Int) (hl : l.length ≤ 1048576) : Ev (fun k => impl_isRobot.f k s l i) (robotV s l i) := by
  unfold impl_isRobot.f robotV
  refine Ev.bind (implIsCrowd_ev s l hl) ?_
  cases crowdV s l with
  | true => simp only [within_eq, Option.bind_some, w64 (x := (l.length : Int) - 1) (by omega) (by omega), Bool.true_and]; exact ev_pos (by trivial) (Ev.now _)
  | false => exact ev_neg (by simp) (Ev.now _)

/-- One list before another one of the same length. -/
def lxl : List Int → List Int → Bool
  | x :: xs, y :: ys => if x = y then lxl xs ys else decide (x < y)
  | _, _ => false
theorem lxl_cons (x y : Int) (xs ys : List Int) : lxl (x :: xs) (y :: ys) = if x = y then lxl xs ys else decide (x < y) := rfl
theorem l10Less_ev (a b : List Int) (he : a.length = b.length) (hl : a.length ≤ 1048576) : Ev (fun k => spec_l10Less.f k a b) (lxl a b) := by
  have key := down (P := fun i => Ev (fun k => spec_l10Less.l0 k a b (i : Int)) (lxl (a.drop i) (b.drop i))) (n := a.length)
    (ev_now (fun k => by simp only [spec_l10Less.l0]; rw [if_neg (by omega)]; simp [lxl]))
    (fun i hi ih => by
      rw [drop_cons hi, drop_cons (l := b) (by omega), lxl_cons]
      by_cases e : rd a (i : Int) = rd b (i : Int)
      · rw [if_pos e]
        refine Ev.step (fun k => ?_) ih
        simp only [spec_l10Less.l0]
        rw [if_pos (by omega), if_pos (by omega), if_pos (by omega), if_pos e, w64s hi (by omega)]
      · rw [if_neg e]
        refine ev_now (fun k => ?_)
        simp only [spec_l10Less.l0]
        rw [if_pos (by omega), if_pos (by omega), if_pos (by omega), if_neg e])
  exact key 0 (by omega)
def cmpL : List Int → List Int → Int
  | x :: xs, y :: ys => if x = y then cmpL xs ys else if x < y then -1 else 1
  | _, _ => 0
theorem cmpL_cons (x y : Int) (xs ys : List Int) : cmpL (x :: xs) (y :: ys) = if x = y then cmpL xs ys else if x < y then -1 else 1 := rfl
theorem isNaN_eq (a : Int) : cmp_isNaN_int.f a = some false := by unfold cmp_isNaN_int.f; simp
theorem cmpCompare_eq (a b : Int) : cmp_Compare_int.f a b = some (if a = b then 0 else if a < b then -1 else 1) := by
  unfold cmp_Compare_int.f
  simp only [isNaN_eq, Option.bind_some, Bool.false_eq_true, if_false]
  by_cases h1 : a < b
  · rw [if_pos h1, if_neg (by omega), if_pos h1]
  · rw [if_neg h1]
    by_cases h2 : a > b
    · rw [if_pos h2, if_neg (by omega), if_neg h1]
    · rw [if_neg h2, if_pos (by omega)]
theorem compare_ev (a b : List Int) (he : a.length = b.length) (hl : a.length ≤ 1048576) : Ev (fun k => slices_Compare_int_int.f k a b) (cmpL a b) := by
  have key := down (P := fun i => Ev (fun k => slices_Compare_int_int.l0 k a b a (a.length : Int) (i : Int)) (cmpL (a.drop i) (b.drop i))) (n := a.length)
    (ev_now (fun k => by simp only [slices_Compare_int_int.l0]; rw [if_neg (by omega), if_neg (by omega)]; simp [cmpL]))
    (fun i hi ih => by
      rw [drop_cons hi, drop_cons (l := b) (by omega), cmpL_cons]
      by_cases e : rd a (i : Int) = rd b (i : Int)
      · rw [if_pos e]
        refine Ev.step (fun k => ?_) ih
        simp only [slices_Compare_int_int.l0, cmpCompare_eq, Option.bind_some]
        rw [if_pos (by omega), if_pos (by omega), if_pos (by omega), if_neg (by omega), if_pos (by omega), if_pos e, if_pos rfl, w64s hi (by omega)]
      · rw [if_neg e]
        refine ev_now (fun k => ?_)
        simp only [slices_Compare_int_int.l0, cmpCompare_eq, Option.bind_some]
        rw [if_pos (by omega), if_pos (by omega), if_pos (by omega), if_neg (by omega), if_pos (by omega), if_neg e]
        by_cases h1 : rd a (i : Int) < rd b (i : Int)
        · rw [if_pos h1, if_neg (by decide)]
        · rw [if_neg h1, if_neg (by decide)])
  exact key 0 (by omega)
theorem cmpL_lxl (a b : List Int) (he : a.length = b.length) : cmpL a b = if lxl a b = true then -1 else if lxl b a = true then 1 else 0 := by
  induction a generalizing b with
  | nil => cases b <;> simp_all [cmpL, lxl]
  | cons x xs ih =>
    cases b with
    | nil => simp at he
    | cons y ys =>
      rw [cmpL_cons, lxl_cons, lxl_cons]
      by_cases e : x = y
      · rw [if_pos e, if_pos e, if_pos e.symm]
        exact ih ys (by simpa using he)
      · rw [if_neg e, if_neg e, if_neg (show ¬ y = x from fun h => e h.symm)]
        by_cases h : x < y
        · simp [h]
        · have : y < x := by omega
          simp [h, this]
theorem lxl_asymm (a b : List Int) (h : lxl a b = true) : lxl b a = false := by
  induction a generalizing b with
  | nil => cases b <;> simp_all [lxl]
  | cons x xs ih =>
    cases b with
    | nil => simp [lxl] at h
    | cons y ys =>
      rw [lxl_cons] at h ⊢
      by_cases e : x = y
      · rw [if_pos e] at h
        rw [if_pos e.symm]
        exact ih ys h
      · rw [if_neg e] at h
        rw [if_neg (show ¬ y = x from fun h => e h.symm)]
        have := of_decide_eq_true h
        exact decide_eq_false (by omega)
def viewP (s : Int) (l : List Int) (i : Int) : List Int × Int := if lxl (gapR s l i) (gapL s l i) = true then (gapR s l i, 1) else if lxl (gapL s l i) (gapR s l i) = true then (gapL s l i, -1) else (gapR s l i, 0)
theorem viewP_len (s : Int) (l : List Int) (i : Int) : (viewP s l i).1.length = l.length := by
  unfold viewP
  split
  · exact gapR_len _ _ _
  · split
    · exact gapL_len _ _ _
    · exact gapR_len _ _ _
theorem l10View_ev (s : Int) (l : List Int) (i : Nat) (h : crowdV s l = true) (hi : i < l.length) : Ev (fun k => spec_l10View.f k s l (i : Int)) (viewP s l (i : Int)) := by
  have hc := crowd_of h
  unfold spec_l10View.f viewP
  refine Ev.bind (l10Gaps_ev s l i h hi) (Ev.bind (back_gap s l i (by omega)) (Ev.bind (l10Less_ev _ _ (by rw [gapR_len, gapL_len]) (by rw [gapR_len]; omega)) ?_))
  by_cases h1 : lxl (gapR s l (i : Int)) (gapL s l (i : Int)) = true
  · rw [if_pos h1]; exact ev_pos h1 (Ev.now _)
  · rw [if_neg h1]
    refine ev_neg h1 (Ev.bind (l10Less_ev _ _ (by rw [gapR_len, gapL_len]) (by rw [gapL_len]; omega)) ?_)
    by_cases h2 : lxl (gapL s l (i : Int)) (gapR s l (i : Int)) = true
    · simp only [if_pos h2]; exact Ev.now _
    · simp only [if_neg h2, Bool.false_eq_true, if_false]; exact Ev.now _
theorem view_ev (s : Int) (l : List Int) (i : Nat) (h : crowdV s l = true) (hi : i < l.length) : Ev (fun k => impl_Crowd_view.f k s l (i : Int)) (viewP s l (i : Int)) := by
  have hc := crowd_of h
  have e1 : wrap64 (-(-1)) = 1 := w64 (by decide) (by decide)
  have e2 : wrap64 (-1) = -1 := w64 (by decide) (by decide)
  have e3 : wrap64 (-0) = 0 := w64 (by decide) (by decide)
  unfold impl_Crowd_view.f viewP
  refine Ev.bind (gaps_right s l i h hi) (Ev.bind (gaps_left s l i h hi) (Ev.bind (compare_ev _ _ (by rw [gapR_len, gapL_len]) (by rw [gapR_len]; omega)) ?_))
  rw [cmpL_lxl _ _ (by rw [gapR_len, gapL_len])]
  by_cases h1 : lxl (gapR s l (i : Int)) (gapL s l (i : Int)) = true
  · simp only [if_pos h1, e1]; exact ev_neg (by decide) (Ev.now _)
  · simp only [if_neg h1]
    by_cases h2 : lxl (gapL s l (i : Int)) (gapR s l (i : Int)) = true
    · simp only [if_pos h2, e2]; exact ev_pos (by decide) (Ev.now _)
    · simp only [if_neg h2, e3]; exact ev_neg (by decide) (Ev.now _)
def viewR (s : Int) (l : List Int) (i : Int) : List Int × Int × Bool := if robotV s l i = true then ((viewP s l i).1, (viewP s l i).2, true) else ([], 0, false)
theorem viewR_len (s : Int) (l : List Int) (i : Int) (hl : l.length ≤ 1048576) : (viewR s l i).1.length ≤ 1048576 := by
  unfold viewR
  split
  · simp only [viewP_len]; omega
  · simp
theorem specView_ev (s : Int) (l : List Int) (i : Int) (hl : l.length ≤ 1048576) : Ev (fun k => spec_ViewOf.f k s l i) (viewR s l i) := by
  unfold spec_ViewOf.f viewR
  refine Ev.bind (l10Has_ev s l i hl) ?_
  cases hv : robotV s l i with
  | true =>
    obtain ⟨hc, n, rfl, hn⟩ := robot_of hv
    exact ev_pos rfl (Ev.bind (l10View_ev s l n hc hn) (Ev.now _))
  | false => exact ev_neg (by simp) (Ev.now _)
theorem implView_ev (s : Int) (l : List Int) (i : Int) (hl : l.length ≤ 1048576) : Ev (fun k => impl_ViewOf.f k s l i) (viewR s l i) := by
  unfold impl_ViewOf.f viewR
  refine Ev.bind (isRobot_ev s l i hl) ?_
  cases hv : robotV s l i with
  | true =>
    obtain ⟨hc, n, rfl, hn⟩ := robot_of hv
    exact ev_pos rfl (Ev.bind (view_ev s l n hc hn) (Ev.now _))
  | false => exact ev_neg (by simp) (Ev.now _)

theorem FnExactViewOf : FnExactViewOfLeft := by
  intro s l i _ hm _ _
  refine Ev.rounds (g := fun k => laws_FnExactViewOf.f k s l i) ?_
  unfold laws_FnExactViewOf.f
  refine ev_bind0 (szCrowd_eq s l hm) ?_
  by_cases h : 1048576 - (l.length : Int) < 0
  · rw [if_pos h]; exact ev_pos (by omega) (Ev.now _)
  rw [if_neg h]
  refine ev_neg h ?_
  have hl : l.length ≤ 1048576 := by omega
  have hr := viewR_len s l i hl
  repeat (first
    | exact Ev.now _
    | (with_reducible refine Ev.bind (toCrowd_ev _ _ hl) ?_; try dsimp only)
    | (with_reducible refine Ev.bind (specView_ev s l i hl) ?_; try dsimp only)
    | (with_reducible refine Ev.bind (implView_ev s l i hl) ?_; try dsimp only)
    | (with_reducible refine Ev.bind (markCrowd_ev _ _ _ hl (by omega) (by omega)) ?_; try dsimp only)
    | (with_reducible refine Ev.bind (markIntS_ev _ _ hr (by omega) (by omega)) ?_; try dsimp only)
    | (with_reducible refine Ev.bind (heldIntS_ev _ _ hr (by omega) (by omega)) ?_; try dsimp only)
    | (with_reducible refine Ev.bind (eqCrowd_self _ _ (by omega)) ?_; try dsimp only)
    | (with_reducible refine Ev.bind (eqIntS_self _ (by omega)) ?_; try dsimp only)
    | (refine ev_pos (by first | exact True.intro | rfl | assumption | omega) ?_; try dsimp only)
    | (refine ev_neg (by first | (simp; done) | omega) ?_; try dsimp only)
    | (refine Ev.step (fun k => by simp only [laws_FnExactViewOf.j0]; rfl) ?_)
    | (refine Ev.step (fun k => by simp only [laws_FnExactViewOf.j1]; rfl) ?_)
    | (refine Ev.step (fun k => by simp only [laws_FnExactViewOf.j2]; rfl) ?_))

end Go.Proofs.Ytjmpanikfomgeaa.Pure
