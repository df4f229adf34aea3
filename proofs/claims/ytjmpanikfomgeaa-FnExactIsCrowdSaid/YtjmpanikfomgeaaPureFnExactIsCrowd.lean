/- FnExactIsCrowd: the left statement: for every crowd the law answers true. No condition. -/
import Derived.Test.YtjmpanikfomgeaaPFnExactIsCrowdx2
import Derived.Test.YtjmpanikfomgeaaBase
namespace Go.Proofs.Ytjmpanikfomgeaa.Pure
open Go.RowKit Go.Proofs.Ytjmpanikfomgeaa.PFnExactIsCrowd Go.Proofs.YtjmpanikfomgeaaW.PrintWords Go.Proofs.YtjmpanikfomgeaaW.PrintLast Go.Proofs.Ytjmpanikfomgeaa.Base
set_option linter.unusedVariables false
set_option linter.unusedSimpArgs false

def FnExactIsCrowdLeft : Prop := ∀ (a0_0 : Int) (l0_1 : List Int), (Lit.int .i64 a0_0).wf = true → l0_1.length ≤ maxLen → (∀ x ∈ l0_1, (Lit.int .i64 x).wf = true) → ∃ k, laws_FnExactIsCrowd.f k a0_0 l0_1 = some true

theorem toIntS_ev (l : List Int) (hl : l.length ≤ 1048576) : Ev (fun k => laws_toIntS.f k l) l := by
  have key := down (P := fun i => Ev (fun k => laws_toIntS.l0 k l (tab l.length (fun q => if q < i then rd l (q : Int) else 0)) (i : Int)) l) (n := l.length)
    (ev_now (fun k => by
      simp only [laws_toIntS.l0]
      rw [if_neg (by omega)]
      congr 1
      exact (tab_ext rfl (fun q hq => by rw [if_pos hq])).symm))
    (fun i hi ih => by
      refine Ev.step (fun k => ?_) ih
      simp only [laws_toIntS.l0]
      rw [if_pos (by omega), if_pos (by omega), if_pos (by rw [tab_len]; omega), w64s hi (by omega), Int.toNat_natCast, tab_set]
      congr 1
      refine tab_congr (fun q _ => ?_)
      by_cases e : q = i
      · subst e; rw [if_pos rfl, if_pos (by omega)]
      · rw [if_neg e]
        by_cases e2 : q < i
        · rw [if_pos e2, if_pos (by omega)]
        · rw [if_neg e2, if_neg (by omega)])
  refine Ev.congr (fun k => ?_) (key 0 (by omega))
  unfold laws_toIntS.f
  rw [if_pos (by omega), if_pos (by omega), Int.toNat_natCast, tab_rep]
  simp

theorem eqIntS_ev (a b : List Int) (hl : a.length ≤ 1152921504606846976) : Ev (fun k => laws_eqIntS.f k a b) (decide (a = b)) := by
  by_cases h : a.length = b.length
  · have key := down (P := fun i => Ev (fun k => laws_eqIntS.l0 k a b (i : Int)) (decide (a.drop i = b.drop i))) (n := a.length)
      (ev_now (fun k => by
        simp only [laws_eqIntS.l0]
        rw [if_neg (by omega)]
        simp
        omega))
      (fun i hi ih => by
        rw [drop_cons hi, drop_cons (l := b) (by omega)]
        by_cases e : rd a (i : Int) = rd b (i : Int)
        · have e2 : decide (rd a (i : Int) :: a.drop (i + 1) = rd b (i : Int) :: b.drop (i + 1)) = decide (a.drop (i + 1) = b.drop (i + 1)) := by simp [e]
          rw [e2]
          refine Ev.step (fun k => ?_) ih
          simp only [laws_eqIntS.l0]
          rw [if_pos (by omega), if_pos (by omega), if_pos (by omega), if_pos e, w64s hi hl]
        · refine ev_now (fun k => ?_)
          simp only [laws_eqIntS.l0]
          rw [if_pos (by omega), if_pos (by omega), if_pos (by omega), if_neg e]
          simp [e])
    refine Ev.congr (fun k => ?_) (key 0 (by omega))
    unfold laws_eqIntS.f
    rw [if_pos (by omega)]
    rfl
  · refine Ev.congr (fun k => ?_) (Ev.now _)
    unfold laws_eqIntS.f
    rw [if_neg (by omega)]
    simp
    intro e
    exact h (by rw [e])
theorem eqIntS_self (a : List Int) (hl : a.length ≤ 1152921504606846976) : Ev (fun k => laws_eqIntS.f k a a) true := by
  have := eqIntS_ev a a hl
  simpa using this

theorem szIntS_eq (l : List Int) (a : Int) (h0 : 0 ≤ a) (h1 : a ≤ 1048576) (hl : l.length ≤ maxLen) : laws_szIntS.f l a = some (if a - (l.length : Int) < 0 then -1 else a - (l.length : Int)) := by
  have hm : l.length ≤ 9223372036854775807 := by simpa [maxLen] using hl
  unfold laws_szIntS.f
  rw [w64 (by omega) (by omega)]
  split <;> rfl

theorem toCrowd_ev (s : Int) (l : List Int) (hl : l.length ≤ 1048576) : Ev (fun k => laws_toCrowd.f k s l) (s, l) :=
  Ev.bind (f := fun _ t => some (s, t)) (toIntS_ev l hl) (Ev.now _)
theorem eqCrowd_self (s : Int) (l : List Int) (hl : l.length ≤ 1152921504606846976) : Ev (fun k => laws_eqCrowd.f k s l s l) true := by
  unfold laws_eqCrowd.f
  refine ev_pos rfl (Ev.bind (eqIntS_self l hl) ?_)
  exact ev_pos rfl (Ev.now _)
theorem szCrowd_eq (s : Int) (l : List Int) (hl : l.length ≤ maxLen) : laws_szCrowd.f s l 1048576 = some (if 1048576 - (l.length : Int) < 0 then -1 else 1048576 - (l.length : Int)) := by
  unfold laws_szCrowd.f
  rw [szIntS_eq l 1048576 (by omega) (by omega) hl, Option.bind_some]
  by_cases h : 1048576 - (l.length : Int) < 0
  · rw [if_pos h]; rfl
  · rw [if_neg h, if_neg h]

theorem l1In_eq (a b c : Int) : spec_l1In.f a b c = some (inR b c a) := by
  unfold spec_l1In.f inR
  by_cases h : a ≥ b
  · have h' : b ≤ a := h
    rw [if_pos h]; simp [h']
  · have h' : ¬ b ≤ a := h
    rw [if_neg h]; simp [h']

theorem l1Rising_ev (l : List Int) (lo hi : Int) (hl : l.length ≤ 1048576) : Ev (fun k => spec_l1Rising.f k l lo hi) (ris l lo hi 0) := by
  have key := down (P := fun i => Ev (fun k => spec_l1Rising.l0 k l lo hi (i : Int)) (ris l lo hi i)) (n := l.length)
    (ev_now (fun k => by simp only [spec_l1Rising.l0]; rw [if_neg (by omega), ris_end]))
    (fun i hi' ih => by
      rw [ris_step hi']
      by_cases hc : risC l lo hi i
      · rw [decide_eq_true hc, Bool.true_and]
        refine Ev.step (fun k => ?_) ih
        simp only [spec_l1Rising.l0, l1In_eq, Option.bind_some]
        rw [if_pos (by omega), if_pos (by omega), if_pos (inR_iff.2 ⟨hc.1, hc.2.1⟩), w64s hi' (by omega)]
        by_cases h0 : 0 < i
        · have h3 := hc.2.2 h0
          rw [if_pos (by omega), w64 (by omega) (by omega), show (i : Int) - 1 = ((i - 1 : Nat) : Int) by omega, if_pos (by omega), if_pos (by omega), if_neg (by omega)]
        · rw [if_neg (by omega)]
      · rw [decide_eq_false hc, Bool.false_and]
        refine ev_now (fun k => ?_)
        simp only [spec_l1Rising.l0, l1In_eq, Option.bind_some]
        rw [if_pos (by omega), if_pos (by omega)]
        by_cases h1 : inR lo hi (rd l (i : Int)) = true
        · have h2 := inR_iff.1 h1
          rw [if_pos h1]
          by_cases h0 : 0 < i
          · rw [if_pos (by omega), w64 (by omega) (by omega), show (i : Int) - 1 = ((i - 1 : Nat) : Int) by omega, if_pos (by omega), if_pos (by omega)]
            have h3 : ¬ rd l ((i - 1 : Nat) : Int) < rd l (i : Int) := fun h => hc ⟨h2.1, h2.2, fun _ => h⟩
            rw [if_pos (by omega)]
          · exact absurd ⟨h2.1, h2.2, fun h => absurd h h0⟩ hc
        · rw [if_neg h1])
  exact key 0 (by omega)

def crowdV (s : Int) (l : List Int) : Bool := inR 3 12 s && (inR 1 6 (l.length : Int) && ris l 0 (s - 1) 0)
theorem crowd_of {s : Int} {l : List Int} (h : crowdV s l = true) : (3 ≤ s ∧ s ≤ 12) ∧ (1 ≤ l.length ∧ l.length ≤ 6) ∧ ∀ j, j < l.length → risC l 0 (s - 1) j := by
  unfold crowdV at h
  rw [Bool.and_eq_true, Bool.and_eq_true, inR_iff, inR_iff] at h
  exact ⟨h.1, by omega, ris_of h.2.2⟩
theorem l10Crowd_ev (s : Int) (l : List Int) (hl : l.length ≤ 1048576) : Ev (fun k => spec_l10Crowd.f k s l) (crowdV s l) := by
  unfold spec_l10Crowd.f crowdV
  simp only [l1In_eq, Option.bind_some]
  cases h1 : inR 3 12 s with
  | false => exact ev_neg (by simp) (Ev.now _)
  | true =>
    have hs := inR_iff.1 h1
    refine ev_pos rfl ?_
    cases h2 : inR 1 6 (l.length : Int) with
    | false => exact ev_neg (by simp) (Ev.now _)
    | true =>
      refine ev_pos rfl ?_
      rw [w64 (by omega) (by omega), Bool.true_and, Bool.true_and]
      exact Ev.bind (l1Rising_ev l 0 (s - 1) hl) (Ev.now _)

theorem specIsCrowd_ev (s : Int) (l : List Int) (hl : l.length ≤ 1048576) : Ev (fun k => spec_IsCrowd.f k s l) (crowdV s l) :=
  Ev.bind (f := fun _ t => some t) (l10Crowd_ev s l hl) (Ev.now _)

theorem within_eq (a b c : Int) : impl_within.f a b c = some (inR b c a) := by
  unfold impl_within.f inR
  by_cases h : a ≥ b
  · have h' : b ≤ a := h
    rw [if_pos h]; simp [h']
  · have h' : ¬ b ≤ a := h
    rw [if_neg h]; simp [h']

theorem implIsCrowd_ev (s : Int) (l : List Int) (hl : l.length ≤ 1048576) : Ev (fun k => impl_IsCrowd.f k s l) (crowdV s l) := by
  have key := down (P := fun i => Ev (fun k => impl_IsCrowd.l0 k l (l.length : Int) (i : Int) s l) (ris l 0 (wrap64 (s - 1)) i && (inR 3 12 s && inR 1 6 (l.length : Int)))) (n := l.length)
    (ev_now (fun k => by
      simp only [impl_IsCrowd.l0, within_eq, Option.bind_some]
      rw [if_neg (by omega), ris_end]
      cases inR 3 12 s <;> simp))
    (fun i hi' ih => by
      rw [ris_step hi']
      by_cases hc : risC l 0 (wrap64 (s - 1)) i
      · rw [decide_eq_true hc, Bool.true_and]
        refine Ev.step (fun k => ?_) ih
        simp only [impl_IsCrowd.l0, within_eq, Option.bind_some]
        rw [if_pos (by omega), if_pos (by omega), if_pos (by omega), if_pos (inR_iff.2 ⟨hc.1, hc.2.1⟩), w64s hi' (by omega)]
        by_cases h0 : 0 < i
        · have h3 := hc.2.2 h0
          rw [if_pos (by omega), w64 (x := (i : Int) - 1) (by omega) (by omega), show (i : Int) - 1 = ((i - 1 : Nat) : Int) by omega, if_pos (by omega), if_pos (by omega), if_neg (by omega)]
        · rw [if_neg (by omega)]
      · rw [decide_eq_false hc, Bool.false_and, Bool.false_and]
        refine ev_now (fun k => ?_)
        simp only [impl_IsCrowd.l0, within_eq, Option.bind_some]
        rw [if_pos (by omega), if_pos (by omega), if_pos (by omega)]
        by_cases h1 : inR 0 (wrap64 (s - 1)) (rd l (i : Int)) = true
        · have h2 := inR_iff.1 h1
          rw [if_pos h1]
          by_cases h0 : 0 < i
          · rw [if_pos (by omega), w64 (x := (i : Int) - 1) (by omega) (by omega), show (i : Int) - 1 = ((i - 1 : Nat) : Int) by omega, if_pos (by omega), if_pos (by omega)]
            have h3 : ¬ rd l ((i - 1 : Nat) : Int) < rd l (i : Int) := fun h => hc ⟨h2.1, h2.2, fun _ => h⟩
            rw [if_pos (by omega)]
          · exact absurd ⟨h2.1, h2.2, fun h => absurd h h0⟩ hc
        · rw [if_neg h1])
  have k0 := key 0 (by omega)
  have e : (ris l 0 (wrap64 (s - 1)) 0 && (inR 3 12 s && inR 1 6 (l.length : Int))) = crowdV s l := by
    unfold crowdV
    cases h1 : inR 3 12 s with
    | false => simp
    | true =>
      have hs := inR_iff.1 h1
      rw [w64 (by omega) (by omega)]
      cases inR 1 6 (l.length : Int) <;> simp
  rw [e] at k0
  exact k0

theorem FnExactIsCrowd : FnExactIsCrowdLeft := by
  intro s l _ hm _
  refine Ev.rounds (g := fun k => laws_FnExactIsCrowd.f k s l) ?_
  unfold laws_FnExactIsCrowd.f
  refine ev_bind0 (szCrowd_eq s l hm) ?_
  by_cases h : 1048576 - (l.length : Int) < 0
  · rw [if_pos h]; exact ev_pos (by omega) (Ev.now _)
  rw [if_neg h]
  refine ev_neg h ?_
  have hl : l.length ≤ 1048576 := by omega
  repeat (first
    | exact Ev.now _
    | (with_reducible refine Ev.bind (toCrowd_ev _ _ hl) ?_; try dsimp only)
    | (with_reducible refine Ev.bind (specIsCrowd_ev _ _ hl) ?_; try dsimp only)
    | (with_reducible refine Ev.bind (implIsCrowd_ev _ _ hl) ?_; try dsimp only)
    | (with_reducible refine Ev.bind (eqCrowd_self _ _ (by omega)) ?_; try dsimp only)
    | (refine ev_pos (by first | rfl | assumption | omega) ?_; try dsimp only)
    | (refine ev_neg (by first | (simp; done) | omega) ?_; try dsimp only))

end Go.Proofs.Ytjmpanikfomgeaa.Pure
