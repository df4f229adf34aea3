/- Rule 184 on a ring: what a turn does, cars are kept, the flow never gets less, and behind half the length it is the last one. No condition beyond those named. -/
import Derived.Test.YthkbjcihelmaeaaBase
namespace Go.Proofs.Ythkbjcihelmaeaa.Base
open Go.RowKit Go.Proofs.YthkbjcihelmaeaaW.PrintWords Go.Proofs.YthkbjcihelmaeaaW.PrintLast
set_option linter.unusedVariables false
set_option linter.unusedSimpArgs false

def bit01 (l : List Int) : Prop := ∀ p : Int, cy l p = 0 ∨ cy l p = 1
theorem bits_of {l : List Int} (h0 : 0 < l.length) (h : ∀ x ∈ l, x = 0 ∨ x = 1) : bit01 l := by
  intro p
  unfold cy
  have h1 := Int.emod_nonneg p (b := (l.length : Int)) (by omega)
  have h2 := Int.emod_lt_of_pos p (b := (l.length : Int)) (by omega)
  obtain ⟨i, hi⟩ := Int.eq_ofNat_of_zero_le h1
  rw [hi]
  exact h _ (mem_of_rd (by omega))
/-- A turn. -/
def nx (l : List Int) : List Int := tab l.length (fun q => if cy l (q : Int) = 1 then cy l ((q : Int) + 1) else cy l ((q : Int) - 1))
theorem nx_len (l : List Int) : (nx l).length = l.length := tab_len _ _
theorem cy_nx {l : List Int} (h0 : 0 < l.length) (p : Int) : cy (nx l) p = if cy l p = 1 then cy l (p + 1) else cy l (p - 1) := by
  have h1 := Int.emod_nonneg p (b := (l.length : Int)) (by omega)
  have h2 := Int.emod_lt_of_pos p (b := (l.length : Int)) (by omega)
  obtain ⟨i, hi⟩ := Int.eq_ofNat_of_zero_le h1
  have e : cy (nx l) p = rd (nx l) (p % (l.length : Int)) := by unfold cy; rw [nx_len]
  rw [e, hi]
  unfold nx
  rw [tab_rd (by omega), ← hi, cy_mod, cy_modp, Int.sub_eq_add_neg, cy_modp, ← Int.sub_eq_add_neg]
theorem bits_nx {l : List Int} (h0 : 0 < l.length) (h : bit01 l) : bit01 (nx l) := by
  intro p
  rw [cy_nx h0]
  split
  · exact h _
  · exact h _
def itn : Nat → List Int → List Int
  | 0, l => l
  | t + 1, l => nx (itn t l)
theorem itn_len (t : Nat) (l : List Int) : (itn t l).length = l.length := by
  induction t with
  | zero => rfl
  | succ t ih => show (nx (itn t l)).length = _; rw [nx_len, ih]
theorem bits_itn {l : List Int} (h0 : 0 < l.length) (h : bit01 l) (t : Nat) : bit01 (itn t l) := by
  induction t with
  | zero => exact h
  | succ t ih => exact bits_nx (by rw [itn_len]; exact h0) ih
def fl (l : List Int) : Int := sm l.length (fun p => if cy l (p : Int) = 1 ∧ cy l ((p : Int) + 1) = 0 then 1 else 0)
def cars (l : List Int) : Int := sm l.length (fun p => cy l (p : Int))
theorem cy_end (l : List Int) (d : Int) : cy l (((l.length : Nat) : Int) + d) = cy l (((0 : Nat) : Int) + d) := by
  have := cy_add l d 1
  rw [Int.one_mul] at this
  rw [Int.add_comm, this]
  simp
theorem sm_cy_shift (l : List Int) (F : Int → Int) (hF : F ((l.length : Nat) : Int) = F 0) : sm l.length (fun p => F ((p : Int) + 1)) = sm l.length (fun p => F (p : Int)) := by
  have := sm_shift l.length (fun p => F (p : Int))
  have e : (fun p : Nat => F ((p : Int) + 1)) = (fun p : Nat => F ((p + 1 : Nat) : Int)) := by
    funext p; rw [Int.natCast_succ]
  rw [e, this]
  have h0 : F ((0 : Nat) : Int) = F 0 := rfl
  omega
def pr (l : List Int) (q : Int) : Int := cy l q * cy l (q - 1)
def jm (l : List Int) (q : Int) : Int := if cy l q = 1 ∧ cy l (q + 1) = 1 then 1 else 0
theorem cars_nx {l : List Int} (h0 : 0 < l.length) (h : bit01 l) : cars (nx l) = cars l := by
  have e : cars (nx l) = sm l.length (fun p => pr l ((p : Int) + 1) + (cy l ((p : Int) - 1) - pr l (p : Int))) := by
    unfold cars
    rw [nx_len]
    refine sm_congr (fun q _ => ?_)
    rw [cy_nx h0]
    have e1 : (q : Int) + 1 - 1 = (q : Int) := by omega
    simp only [pr, e1]
    rcases h (q : Int) with h1 | h1 <;> rw [h1] <;> simp
  rw [e, sm_add, sm_sub, sm_cy_shift l (pr l)]
  · have s := sm_cy_shift l (fun q : Int => cy l (q - 1)) (by
      have := cy_end l (-1); simp only [Int.sub_eq_add_neg]; rw [this]; rfl)
    have e2 : (fun p : Nat => cy l ((p : Int) + 1 - 1)) = (fun p : Nat => cy l (p : Int)) := by
      funext p; rw [show (p : Int) + 1 - 1 = (p : Int) by omega]
    simp only [e2] at s
    unfold cars
    omega
  · have a := cy_end l (-1)
    have b := cy_end l 0
    simp only [Int.add_zero] at b
    unfold pr
    simp only [Int.sub_eq_add_neg]
    rw [a, b]; rfl
theorem cars_itn {l : List Int} (h0 : 0 < l.length) (h : bit01 l) (t : Nat) : cars (itn t l) = cars l := by
  induction t with
  | zero => rfl
  | succ t ih => show cars (nx (itn t l)) = _; rw [cars_nx (by rw [itn_len]; exact h0) (bits_itn h0 h t), ih]
theorem cars_shift (l : List Int) : sm l.length (fun p => cy l ((p : Int) + 1)) = cars l :=
  sm_cy_shift l (cy l) (by have := cy_end l 0; simp only [Int.add_zero] at this; rw [this]; rfl)
/-- The flow is at most the cars. -/
theorem fl_le_cars {l : List Int} (h : bit01 l) : fl l ≤ cars l := by
  refine sm_le (fun q _ => ?_)
  rcases h (q : Int) with h1 | h1 <;> rw [h1] <;> simp
  split <;> omega
theorem fl_le_free {l : List Int} (h : bit01 l) : fl l ≤ (l.length : Int) - cars l := by
  have e : (l.length : Int) - cars l = sm l.length (fun p => 1 - cy l ((p : Int) + 1)) := by
    rw [sm_sub, cars_shift, sm_const, Int.mul_one]
  rw [e]
  refine sm_le (fun q _ => ?_)
  rcases h ((q : Int) + 1) with h1 | h1 <;> rw [h1] <;> simp
  split <;> omega
/-- Two cars in a row behind a turn stood one place further before it. -/
theorem jam_back {l : List Int} (h0 : 0 < l.length) (h : bit01 l) (p : Int) (h1 : cy (nx l) p = 1) (h2 : cy (nx l) (p + 1) = 1) : cy l (p + 1) = 1 ∧ cy l (p + 1 + 1) = 1 := by
  rw [cy_nx h0] at h1 h2
  rw [show p + 1 - 1 = p by omega] at h2
  rcases h p with a | a <;> rcases h (p + 1) with b | b <;> simp [a, b] at h1 h2 ⊢ <;> exact h2
theorem gap_back {l : List Int} (h0 : 0 < l.length) (h : bit01 l) (p : Int) (h1 : cy (nx l) p = 0) (h2 : cy (nx l) (p + 1) = 0) : cy l (p - 1) = 0 ∧ cy l p = 0 := by
  rw [cy_nx h0] at h1 h2
  rw [show p + 1 - 1 = p by omega] at h2
  rcases h p with a | a <;> rcases h (p + 1) with b | b <;> simp [a, b] at h1 h2 ⊢ <;> exact h1
theorem jam_far {l : List Int} (h0 : 0 < l.length) (h : bit01 l) (u : Nat) : ∀ (s : Nat) (p : Int), cy (itn (s + u) l) p = 1 → cy (itn (s + u) l) (p + 1) = 1 → cy (itn s l) (p + u) = 1 ∧ cy (itn s l) (p + u + 1) = 1 := by
  induction u with
  | zero => intro s p a b; simpa using ⟨a, b⟩
  | succ u ih =>
    intro s p a b
    have hb := jam_back (l := itn (s + u) l) (by rw [itn_len]; exact h0) (bits_itn h0 h _) p a b
    have := ih s (p + 1) hb.1 hb.2
    rw [show p + 1 + (u : Int) = p + ((u + 1 : Nat) : Int) by omega] at this
    exact this
theorem gap_far {l : List Int} (h0 : 0 < l.length) (h : bit01 l) (u : Nat) : ∀ (s : Nat) (p : Int), cy (itn (s + u) l) p = 0 → cy (itn (s + u) l) (p + 1) = 0 → cy (itn s l) (p - u) = 0 ∧ cy (itn s l) (p - u + 1) = 0 := by
  induction u with
  | zero => intro s p a b; simpa using ⟨a, b⟩
  | succ u ih =>
    intro s p a b
    have hb := gap_back (l := itn (s + u) l) (by rw [itn_len]; exact h0) (bits_itn h0 h _) p a b
    have := ih s (p - 1) hb.1 (by rw [show p - 1 + 1 = p by omega]; exact hb.2)
    rw [show p - 1 - (u : Int) = p - ((u + 1 : Nat) : Int) by omega] at this
    exact this
/-- Behind half the length there are not both. -/
theorem not_both {l : List Int} (h0 : 0 < l.length) (h : bit01 l) (t : Nat) (ht : l.length ≤ 2 * t + 1) (p q : Int) (hp : cy (itn t l) p = 1) (hp1 : cy (itn t l) (p + 1) = 1) (hq : cy (itn t l) q = 0) (hq1 : cy (itn t l) (q + 1) = 0) : False := by
  -- a representative of p in [q - n, q)
  have hn : (0 : Int) < l.length := by omega
  have hL : ∀ s, ((itn s l).length : Int) = l.length := fun s => by rw [itn_len]
  have hm := Int.emod_nonneg (p - q) (b := (l.length : Int)) (by omega)
  have hm2 := Int.emod_lt_of_pos (p - q) hn
  have hd := Int.mul_ediv_add_emod (p - q) l.length
  have hp' : cy (itn t l) (q - l.length + (p - q) % l.length) = 1 := by
    refine Eq.trans ?_ hp
    rw [← cy_add (itn t l) (q - l.length + (p - q) % l.length) (1 + (p - q) / l.length), hL, Int.add_mul, Int.mul_comm ((p - q) / l.length)]
    congr 1; omega
  have hp1' : cy (itn t l) (q - l.length + (p - q) % l.length + 1) = 1 := by
    refine Eq.trans ?_ hp1
    rw [← cy_add (itn t l) (q - l.length + (p - q) % l.length + 1) (1 + (p - q) / l.length), hL, Int.add_mul, Int.mul_comm ((p - q) / l.length)]
    congr 1; omega
  obtain ⟨d, hdd⟩ : ∃ d : Nat, (l.length : Int) - (p - q) % l.length = d := ⟨((l.length : Int) - (p - q) % l.length).toNat, by omega⟩
  have hu : d / 2 ≤ t := by omega
  have e : t = t - d / 2 + d / 2 := by omega
  have eq0 : q - (l.length : Int) + (p - q) % l.length = q - d := by omega
  rw [eq0] at hp' hp1'
  rw [e] at hp' hp1' hq hq1
  have A := jam_far h0 h (d / 2) (t - d / 2) _ hp' hp1'
  have B := gap_far h0 h (d / 2) (t - d / 2) _ hq hq1
  rcases Nat.mod_two_eq_zero_or_one d with h2 | h2
  · have e2 : q - (d : Int) + (d / 2 : Nat) = q - (d / 2 : Nat) := by omega
    rw [e2] at A
    rw [A.1] at B
    exact absurd B.1 (by decide)
  · have e2 : q - (d : Int) + (d / 2 : Nat) + 1 = q - (d / 2 : Nat) := by omega
    rw [e2] at A
    rw [A.2] at B
    exact absurd B.1 (by decide)
theorem fl_last {l : List Int} (h0 : 0 < l.length) (h : bit01 l) (t : Nat) (ht : l.length ≤ 2 * t + 1) : fl (itn t l) = mn (cars l) ((l.length : Int) - cars l) := by
  have hb := bits_itn h0 h t
  have a := fl_le_cars hb
  have b := fl_le_free hb
  rw [cars_itn h0 h] at a b
  rw [itn_len] at b
  have hc := cars_itn h0 h t
  have c : fl (itn t l) = cars l ∨ fl (itn t l) = (l.length : Int) - cars l := by
    by_cases hj : ∃ p : Int, cy (itn t l) p = 1 ∧ cy (itn t l) (p + 1) = 1
    · right
      obtain ⟨p, hp⟩ := hj
      have e : (l.length : Int) - cars l = sm (itn t l).length (fun p => 1 - cy (itn t l) ((p : Int) + 1)) := by
        rw [sm_sub, cars_shift, sm_const, Int.mul_one, hc, itn_len]
      rw [e]
      refine sm_congr (fun q _ => ?_)
      rcases hb (q : Int) with x | x <;> rcases hb ((q : Int) + 1) with y | y <;> simp [x, y]
      exact not_both h0 h t ht p _ hp.1 hp.2 x y
    · left
      rw [← hc]
      refine sm_congr (fun q _ => ?_)
      rcases hb (q : Int) with x | x <;> rcases hb ((q : Int) + 1) with y | y <;> simp [x, y]
      exact hj ⟨_, x, y⟩
  unfold mn
  split <;> omega
/-- A car that moves. -/
def M (l : List Int) (p : Nat) : Prop := cy l (p : Int) = 1 ∧ cy l ((p : Int) + 1) = 0
instance (l : List Int) (p : Nat) : Decidable (M l p) := by unfold M; infer_instance
def nxt (n i : Nat) : Nat := if i + 1 = n then 0 else i + 1
def prv (n q : Nat) : Nat := if q = 0 then n - 1 else q - 1
theorem prv_nxt {n i : Nat} (h : i < n) : prv n (nxt n i) = i := by
  unfold prv nxt; split <;> split <;> omega
theorem nxt_prv {n q : Nat} (h : q < n) : nxt n (prv n q) = q := by
  unfold prv nxt; split <;> split <;> omega
theorem nxt_lt {n i : Nat} (h : i < n) : nxt n i < n := by unfold nxt; split <;> omega
theorem prv_lt {n i : Nat} (h : i < n) : prv n i < n := by unfold prv; split <;> omega
theorem nxt_ne {n i : Nat} (h : i < n) (h2 : 2 ≤ n) : nxt n i ≠ i := by unfold nxt; split <;> omega
theorem cy_nxt {l : List Int} {i : Nat} (h : i < l.length) : cy l ((i : Int) + 1) = rd l ((nxt l.length i : Nat) : Int) := by
  have h3 := nxt_lt h
  rw [← cy_in h3]
  unfold nxt
  by_cases e : i + 1 = l.length
  · rw [if_pos e, show (i : Int) + 1 = ((l.length : Nat) : Int) by omega]
    have := cy_end l 0
    simpa using this
  · rw [if_neg e]; rfl
theorem cy_prv {l : List Int} {q : Nat} (h : q < l.length) : cy l ((prv l.length q : Nat) : Int) = cy l ((q : Int) - 1) ∧ cy l (((prv l.length q : Nat) : Int) + 1) = cy l (q : Int) := by
  refine ⟨?_, by rw [cy_nxt (prv_lt h), nxt_prv h, cy_in h]⟩
  unfold prv
  by_cases e : q = 0
  · subst e
    rw [if_pos rfl]
    have := cy_end l (-1)
    rw [show ((l.length - 1 : Nat) : Int) = ((l.length : Nat) : Int) + -1 by omega, this]
    rfl
  · rw [if_neg e, show ((q - 1 : Nat) : Int) = (q : Int) - 1 by omega]
theorem tmod_nxt {n i : Nat} (h : i < n) (hn : n ≤ 1048576) : Int.tmod (wrap64 ((i : Int) + 1)) (n : Int) = ((nxt n i : Nat) : Int) := by
  rw [w64s h (by omega), Int.tmod_eq_emod_of_nonneg (by omega)]
  unfold nxt
  by_cases e : i + 1 = n
  · rw [if_pos e, e]; simp
  · rw [if_neg e, Int.emod_eq_of_lt (by omega) (by omega)]
def spOut (l : List Int) (i q : Nat) : Int := if q < i ∧ M l q then 0 else if prv l.length q < i ∧ M l (prv l.length q) then 1 else rd l (q : Int)
theorem spOut_zero (l : List Int) : tab l.length (spOut l 0) = l := by
  refine (tab_ext rfl (fun q _ => ?_)).symm
  unfold spOut
  rw [if_neg (by omega), if_neg (by omega)]
theorem spOut_last {l : List Int} (h : bit01 l) : tab l.length (spOut l l.length) = nx l := by
  refine tab_congr (fun q hq => ?_)
  have h1 := prv_lt hq
  have h2 := cy_prv hq
  have m1 : M l q ↔ cy l (q : Int) = 1 ∧ cy l ((q : Int) + 1) = 0 := Iff.rfl
  have m2 : M l (prv l.length q) ↔ cy l ((q : Int) - 1) = 1 ∧ cy l (q : Int) = 0 := by unfold M; rw [h2.1, h2.2]
  unfold spOut
  rw [← cy_in hq]
  rcases h (q : Int) with a | a <;> rcases h ((q : Int) + 1) with b | b <;> rcases h ((q : Int) - 1) with c | c <;> simp [a, b, c, hq, h1, m1, m2]
theorem spOut_stay {l : List Int} {i : Nat} (h : ¬ M l i) (q : Nat) : spOut l i q = spOut l (i + 1) q := by
  have e : ∀ p, (p < i ∧ M l p) ↔ (p < i + 1 ∧ M l p) := by
    intro p
    refine ⟨fun a => ⟨by omega, a.2⟩, fun a => ⟨?_, a.2⟩⟩
    have : p ≠ i := fun e => h (e ▸ a.2)
    omega
  unfold spOut
  simp only [e]
theorem spOut_move {l : List Int} {i : Nat} (hi : i < l.length) (h2 : 2 ≤ l.length) (h : M l i) (q : Nat) (hq : q < l.length) :
    (if q = nxt l.length i then 1 else if q = i then 0 else spOut l i q) = spOut l (i + 1) q := by
  have hp := cy_prv hq
  by_cases e1 : q = nxt l.length i
  · rw [if_pos e1]
    have e2 : prv l.length q = i := by rw [e1, prv_nxt hi]
    have e3 : ¬ M l q := by
      intro hm
      have := h.2
      rw [← e2, hp.2, hm.1] at this
      exact absurd this (by decide)
    unfold spOut
    rw [if_neg (fun a => e3 a.2), e2, if_pos ⟨by omega, h⟩]
  · rw [if_neg e1]
    have e2 : prv l.length q ≠ i := fun e => e1 (by rw [← e, nxt_prv hq])
    by_cases e3 : q = i
    · rw [if_pos e3]; subst e3
      unfold spOut
      rw [if_pos ⟨by omega, h⟩]
    · rw [if_neg e3]
      have a1 : (q < i ∧ M l q) ↔ (q < i + 1 ∧ M l q) := ⟨fun a => ⟨by omega, a.2⟩, fun a => ⟨by omega, a.2⟩⟩
      have a2 : (prv l.length q < i ∧ M l (prv l.length q)) ↔ (prv l.length q < i + 1 ∧ M l (prv l.length q)) := ⟨fun a => ⟨by omega, a.2⟩, fun a => ⟨by omega, a.2⟩⟩
      unfold spOut
      simp only [a1, a2]
def imOut (l : List Int) (i q : Nat) : Int := if (q < i ∧ cy l (q : Int) = 1 ∧ ¬ M l q) ∨ (prv l.length q < i ∧ M l (prv l.length q)) then 1 else 0
/-- Where the car of a place goes. -/
def too (l : List Int) (q : Nat) : Int := if M l q then ((nxt l.length q : Nat) : Int) else (q : Int)
def imTo (l : List Int) (i q : Nat) : Int := if q < i then too l q else 0
theorem imOut_last {l : List Int} (h : bit01 l) : tab l.length (imOut l l.length) = nx l := by
  refine tab_congr (fun q hq => ?_)
  have h1 := prv_lt hq
  have h2 := cy_prv hq
  have m1 : M l q ↔ cy l (q : Int) = 1 ∧ cy l ((q : Int) + 1) = 0 := Iff.rfl
  have m2 : M l (prv l.length q) ↔ cy l ((q : Int) - 1) = 1 ∧ cy l (q : Int) = 0 := by unfold M; rw [h2.1, h2.2]
  unfold imOut
  rcases h (q : Int) with a | a <;> rcases h ((q : Int) + 1) with b | b <;> rcases h ((q : Int) - 1) with c | c <;> simp [a, b, c, hq, h1, m1, m2]
theorem imTo_last (l : List Int) : tab l.length (imTo l l.length) = tab l.length (too l) :=
  tab_congr (fun q hq => by unfold imTo; rw [if_pos hq])
theorem imOut_free {l : List Int} {i : Nat} (h : cy l (i : Int) = 0) (q : Nat) : imOut l i q = imOut l (i + 1) q := by
  have hm : ¬ M l i := fun a => by have := a.1; rw [h] at this; exact absurd this (by decide)
  have a1 : (q < i ∧ cy l (q : Int) = 1 ∧ ¬ M l q) ↔ (q < i + 1 ∧ cy l (q : Int) = 1 ∧ ¬ M l q) := by
    refine ⟨fun a => ⟨by omega, a.2⟩, fun a => ⟨?_, a.2⟩⟩
    have : q ≠ i := fun e => by subst e; have := a.2.1; rw [h] at this; exact absurd this (by decide)
    omega
  have a2 : (prv l.length q < i ∧ M l (prv l.length q)) ↔ (prv l.length q < i + 1 ∧ M l (prv l.length q)) := by
    refine ⟨fun a => ⟨by omega, a.2⟩, fun a => ⟨?_, a.2⟩⟩
    have : prv l.length q ≠ i := fun e => hm (e ▸ a.2)
    omega
  unfold imOut
  simp only [a1, a2]
theorem imOut_car {l : List Int} {i : Nat} (hi : i < l.length) (h : cy l (i : Int) = 1) (q : Nat) (hq : q < l.length) :
    (if q = (too l i).toNat then 1 else imOut l i q) = imOut l (i + 1) q := by
  by_cases hm : M l i
  · have et : (too l i).toNat = nxt l.length i := by unfold too; rw [if_pos hm]; simp
    rw [et]
    by_cases e1 : q = nxt l.length i
    · rw [if_pos e1]
      have e2 : prv l.length q = i := by rw [e1, prv_nxt hi]
      unfold imOut
      rw [if_pos (Or.inr (by rw [e2]; exact ⟨by omega, hm⟩))]
    · rw [if_neg e1]
      have e2 : prv l.length q ≠ i := fun e => e1 (by rw [← e, nxt_prv hq])
      have a1 : (q < i ∧ cy l (q : Int) = 1 ∧ ¬ M l q) ↔ (q < i + 1 ∧ cy l (q : Int) = 1 ∧ ¬ M l q) := by
        refine ⟨fun a => ⟨by omega, a.2⟩, fun a => ⟨?_, a.2⟩⟩
        have : q ≠ i := fun e => by subst e; exact a.2.2 hm
        omega
      have a2 : (prv l.length q < i ∧ M l (prv l.length q)) ↔ (prv l.length q < i + 1 ∧ M l (prv l.length q)) := ⟨fun a => ⟨by omega, a.2⟩, fun a => ⟨by omega, a.2⟩⟩
      unfold imOut
      simp only [a1, a2]
  · have et : (too l i).toNat = i := by unfold too; rw [if_neg hm]; simp
    rw [et]
    by_cases e1 : q = i
    · rw [if_pos e1]; subst e1
      unfold imOut
      rw [if_pos (Or.inl ⟨by omega, h, hm⟩)]
    · rw [if_neg e1]
      have a1 : (q < i ∧ cy l (q : Int) = 1 ∧ ¬ M l q) ↔ (q < i + 1 ∧ cy l (q : Int) = 1 ∧ ¬ M l q) := ⟨fun a => ⟨by omega, a.2⟩, fun a => ⟨by omega, a.2⟩⟩
      have a2 : (prv l.length q < i ∧ M l (prv l.length q)) ↔ (prv l.length q < i + 1 ∧ M l (prv l.length q)) := by
        refine ⟨fun a => ⟨by omega, a.2⟩, fun a => ⟨?_, a.2⟩⟩
        have : prv l.length q ≠ i := fun e => hm (e ▸ a.2)
        omega
      unfold imOut
      simp only [a1, a2]
theorem lane_of {l : List Int} (h : (inAll 0 1 l && inR 3 24 (l.length : Int)) = true) : bit01 l ∧ 3 ≤ l.length ∧ l.length ≤ 24 := by
  rw [Bool.and_eq_true, inAll_iff, inR_iff] at h
  refine ⟨bits_of (by omega) (fun x hx => ?_), by omega, by omega⟩
  have := h.1 x hx
  omega
/-- The flow's first i terms. -/
def fp (l : List Int) (i : Nat) : Int := sm i (fun p => if cy l (p : Int) = 1 ∧ cy l ((p : Int) + 1) = 0 then 1 else 0)
theorem fp_bound (l : List Int) (i : Nat) : 0 ≤ fp l i ∧ fp l i ≤ i := sm_bound (fun q => by split <;> omega) i
theorem fp_succ (l : List Int) (i : Nat) : fp l (i + 1) = fp l i + if M l i then 1 else 0 := rfl
theorem cars_bound {l : List Int} (h : bit01 l) (i : Nat) : 0 ≤ sm i (fun p => cy l (p : Int)) ∧ sm i (fun p => cy l (p : Int)) ≤ i := sm_bound (fun q => by rcases h (q : Int) with a | a <;> rw [a] <;> simp) i
theorem fl_mono {l : List Int} (h0 : 0 < l.length) (h : bit01 l) : fl l ≤ fl (nx l) := by
  have key : ∀ m : List Int, bit01 m → fl m = cars m - sm m.length (fun p => jm m (p : Int)) := by
    intro m hm
    unfold cars fl
    rw [← sm_sub]
    refine sm_congr (fun q _ => ?_)
    rcases hm (q : Int) with x | x <;> rcases hm ((q : Int) + 1) with y | y <;> simp [jm, x, y]
  rw [key l h, key (nx l) (bits_nx h0 h), cars_nx h0 h]
  have s := sm_cy_shift l (jm l) (by
    have a := cy_end l 0
    have b := cy_end l 1
    simp only [Int.add_zero] at a
    unfold jm
    rw [a, b]; rfl)
  rw [← s, nx_len]
  have : sm l.length (fun p => jm (nx l) (p : Int)) ≤ sm l.length (fun p => jm l ((p : Int) + 1)) := by
    refine sm_le (fun q _ => ?_)
    unfold jm
    by_cases hc : cy (nx l) (q : Int) = 1 ∧ cy (nx l) ((q : Int) + 1) = 1
    · rw [if_pos hc, if_pos (jam_back h0 h _ hc.1 hc.2)]; omega
    · rw [if_neg hc]; split <;> omega
  omega
end Go.Proofs.Ythkbjcihelmaeaa.Base
