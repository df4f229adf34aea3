/- FnWires: the left statement: for every code the law answers true. No condition. -/
import Derived.Test.YtciihopkgblpkaaQFnWiresx15
import Derived.Test.YtciihopkgblpkaaBase
import Derived.Test.YtciihopkgblpkaaU64
import Derived.Test.YtciihopkgblpkaaDraw
namespace Go.Proofs.Ytciihopkgblpkaa.Pure
open Go.RowKit Go.Proofs.Ytciihopkgblpkaa.QFnWires Go.Proofs.YtciihopkgblpkaaW.PrintWords Go.Proofs.YtciihopkgblpkaaW.PrintLast Go.Proofs.Ytciihopkgblpkaa.Base
set_option linter.unusedVariables false
set_option linter.unusedSimpArgs false

def FnWiresLeft : Prop := ∀ (l0 : List Int), l0.length ≤ maxLen → (∀ x ∈ l0, (Lit.int .u8 x).wf = true) → ∃ k, laws_FnWires.f k l0 = some true

theorem l1In_eq (a b c : Int) : spec_l1In.f a b c = some (inR b c a) := by
  unfold spec_l1In.f inR
  by_cases h : a ≥ b
  · have h' : b ≤ a := h
    rw [if_pos h]; simp [h']
  · have h' : ¬ b ≤ a := h
    rw [if_neg h]; simp [h']

theorem within_eq (a b c : Int) : impl_within.f a b c = some (inR b c a) := by
  unfold impl_within.f inR
  by_cases h : a ≥ b
  · have h' : b ≤ a := h
    rw [if_pos h]; simp [h']
  · have h' : ¬ b ≤ a := h
    rw [if_neg h]; simp [h']

theorem allWithin_ev (l : List Int) (a b : Int) (hl : l.length ≤ 1152921504606846976) : Ev (fun k => impl_allWithin.f k l a b) (inAll a b l) := by
  have key := down (P := fun i => Ev (fun k => impl_allWithin.l0 k a b l (l.length : Int) (i : Int)) (inAll a b (l.drop i))) (n := l.length)
    (ev_now (fun k => by
      simp only [impl_allWithin.l0]
      rw [if_neg (by omega)]
      simp [inAll_nil]))
    (fun i hi ih => by
      rw [drop_cons hi, inAll_cons]
      cases hc : inR a b (rd l (i : Int)) with
      | true =>
        rw [Bool.true_and]
        refine Ev.step (fun k => ?_) ih
        simp only [impl_allWithin.l0, within_eq, Option.bind_some, hc, if_true]
        rw [if_pos (by omega), if_pos (by omega), if_pos (by omega), w64s hi hl]
      | false =>
        refine ev_now (fun k => ?_)
        simp only [impl_allWithin.l0, within_eq, Option.bind_some, hc, Bool.false_eq_true, if_false]
        rw [if_pos (by omega), if_pos (by omega), if_pos (by omega)]
        simp)
  exact key 0 (by omega)

def wC (L : Int) (P W : List Int) (j : Nat) : Prop := (0 ≤ rd P (j : Int) ∧ rd P (j : Int) ≤ L) ∧ (0 < j → rd P ((j - 1 : Nat) : Int) < rd P (j : Int)) ∧ (rd W (j : Int) = 1 ∨ rd W (j : Int) = -1)
instance (L : Int) (P W : List Int) : DecidablePred (wC L P W) := fun j => by unfold wC; infer_instance
def wireV (L : Int) (P W : List Int) : Bool := decide ((1 ≤ L ∧ L ≤ 30) ∧ P.length ≤ 8 ∧ W.length = P.length) && allF P.length (wC L P W) 0
theorem wire_of {L : Int} {P W : List Int} (h : wireV L P W = true) : (1 ≤ L ∧ L ≤ 30) ∧ P.length ≤ 8 ∧ W.length = P.length ∧ ∀ j, j < P.length → wC L P W j := by
  unfold wireV at h
  rw [Bool.and_eq_true] at h
  have := of_decide_eq_true h.1
  exact ⟨this.1, this.2.1, this.2.2, allF_of h.2⟩
theorem wireV_no {L : Int} {P W : List Int} (h : ¬ ((1 ≤ L ∧ L ≤ 30) ∧ P.length ≤ 8 ∧ W.length = P.length)) : wireV L P W = false := by
  unfold wireV; rw [decide_eq_false h]; rfl
theorem wireV_yes {L : Int} {P W : List Int} (h : (1 ≤ L ∧ L ≤ 30) ∧ P.length ≤ 8 ∧ W.length = P.length) : wireV L P W = allF P.length (wC L P W) 0 := by
  unfold wireV; rw [decide_eq_true h]; rfl
theorem l8Wire_loop (L : Int) (P W : List Int) (hw : W.length = P.length) (hp : P.length ≤ 8) : Ev (fun k => spec_l8Wire.l0 k 0 L P W) (allF P.length (wC L P W) 0) := by
  have key := down (P := fun i => Ev (fun k => spec_l8Wire.l0 k (i : Int) L P W) (allF P.length (wC L P W) i)) (n := P.length)
    (ev_now (fun k => by simp only [spec_l8Wire.l0]; rw [if_neg (by omega), allF_end]))
    (fun i hi ih => by
      rw [allF_step hi]
      by_cases hc : wC L P W i
      · rw [decide_eq_true hc, Bool.true_and]
        refine Ev.step (fun k => ?_) ih
        simp only [spec_l8Wire.l0, l1In_eq, Option.bind_some]
        rw [if_pos (by omega), if_pos (by omega), if_pos (inR_iff.2 hc.1), w64s hi (by omega)]
        have hW : (if rd W (i : Int) = 1 then spec_l8Wire.l0 k ((i + 1 : Nat) : Int) L P W else if rd W (i : Int) = -1 then spec_l8Wire.l0 k ((i + 1 : Nat) : Int) L P W else some false) = spec_l8Wire.l0 k ((i + 1 : Nat) : Int) L P W := by
          rcases hc.2.2 with h | h
          · rw [if_pos h]
          · rw [if_neg (by omega), if_pos h]
        by_cases h0 : 0 < i
        · have h3 := hc.2.1 h0
          rw [if_pos (by omega), w64 (x := (i : Int) - 1) (by omega) (by omega), show (i : Int) - 1 = ((i - 1 : Nat) : Int) by omega, if_pos (by omega), if_pos (by omega), if_neg (by omega), if_pos (by omega), hW]
        · rw [if_neg (by omega), if_pos (by omega), hW]
      · rw [decide_eq_false hc, Bool.false_and]
        refine ev_now (fun k => ?_)
        simp only [spec_l8Wire.l0, l1In_eq, Option.bind_some]
        rw [if_pos (by omega), if_pos (by omega)]
        by_cases h1 : inR 0 L (rd P (i : Int)) = true
        · rw [if_pos h1]
          by_cases h0 : 0 < i
          · rw [if_pos (by omega), w64 (x := (i : Int) - 1) (by omega) (by omega), show (i : Int) - 1 = ((i - 1 : Nat) : Int) by omega, if_pos (by omega), if_pos (by omega)]
            by_cases h2 : rd P ((i - 1 : Nat) : Int) < rd P (i : Int)
            · have h3 : ¬ (rd W (i : Int) = 1 ∨ rd W (i : Int) = -1) := fun h => hc ⟨inR_iff.1 h1, fun _ => h2, h⟩
              rw [if_neg (by omega), if_pos (by omega), if_neg (fun h => h3 (.inl h)), if_neg (fun h => h3 (.inr h))]
            · rw [if_pos (by omega)]
          · have h3 : ¬ (rd W (i : Int) = 1 ∨ rd W (i : Int) = -1) := fun h => hc ⟨inR_iff.1 h1, fun h => absurd h h0, h⟩
            rw [if_neg (by omega), if_pos (by omega), if_neg (fun h => h3 (.inl h)), if_neg (fun h => h3 (.inr h))]
        · rw [if_neg h1])
  exact key 0 (by omega)
theorem l8Wire_ev (L : Int) (P W : List Int) : Ev (fun k => spec_l8Wire.f k L P W) (wireV L P W) := by
  unfold spec_l8Wire.f
  simp only [l1In_eq, Option.bind_some]
  have hno : Ev (fun k => spec_l8Wire.j0 k true L P W) false := ev_now (fun k => by simp only [spec_l8Wire.j0, if_true])
  by_cases h1 : inR 1 30 L = true
  · have g1 := inR_iff.1 h1
    refine ev_pos h1 ?_
    by_cases h2 : (P.length : Int) > 8
    · rw [wireV_no (by omega)]
      exact ev_pos h2 hno
    · refine ev_neg h2 ?_
      by_cases h3 : W.length = P.length
      · rw [wireV_yes ⟨g1, by omega, h3⟩]
        have e : ((W.length : Int) != (P.length : Int)) = false := by rw [h3]; simp
        rw [e]
        refine Ev.step (fun k => by simp only [spec_l8Wire.j0, Bool.false_eq_true, if_false]; rfl) ?_
        exact l8Wire_loop L P W h3 (by omega)
      · rw [wireV_no (by omega)]
        have e : ((W.length : Int) != (P.length : Int)) = true := by simp; omega
        rw [e]
        exact hno
  · rw [wireV_no (fun h => h1 (inR_iff.2 h.1))]
    exact ev_neg h1 hno

def wD (P W : List Int) (j : Nat) : Prop := (rd W (j : Int) = 1 ∨ rd W (j : Int) = -1) ∧ (0 < j → rd P ((j - 1 : Nat) : Int) < rd P (j : Int))
instance (P W : List Int) : DecidablePred (wD P W) := fun j => by unfold wD; infer_instance
theorem implWire_loop (L : Int) (P W : List Int) (hw : W.length = P.length) (hp : P.length ≤ 8) : Ev (fun k => impl_IsWire.l0 k W (W.length : Int) 0 L P W) (allF P.length (wD P W) 0) := by
  have key := down (P := fun i => Ev (fun k => impl_IsWire.l0 k W (W.length : Int) (i : Int) L P W) (allF P.length (wD P W) i)) (n := P.length)
    (ev_now (fun k => by simp only [impl_IsWire.l0]; rw [if_neg (by omega), allF_end]))
    (fun i hi ih => by
      rw [allF_step hi]
      by_cases hc : wD P W i
      · rw [decide_eq_true hc, Bool.true_and]
        refine Ev.step (fun k => ?_) ih
        simp only [impl_IsWire.l0]
        rw [if_pos (by omega), if_pos (by omega), if_pos (by omega), w64s hi (by omega)]
        have hR : (if (i : Int) > 0 then (if 0 ≤ wrap64 ((i : Int) - 1) then (if wrap64 ((i : Int) - 1) < (P.length : Int) then (if (i : Int) < (P.length : Int) then (if rd P (wrap64 ((i : Int) - 1)) ≥ rd P (i : Int) then some false else impl_IsWire.l0 k W (W.length : Int) ((i + 1 : Nat) : Int) L P W) else none) else none) else none) else impl_IsWire.l0 k W (W.length : Int) ((i + 1 : Nat) : Int) L P W) = impl_IsWire.l0 k W (W.length : Int) ((i + 1 : Nat) : Int) L P W := by
          by_cases h0 : 0 < i
          · have h3 := hc.2 h0
            rw [if_pos (by omega), w64 (x := (i : Int) - 1) (by omega) (by omega), show (i : Int) - 1 = ((i - 1 : Nat) : Int) by omega, if_pos (by omega), if_pos (by omega), if_pos (by omega), if_neg (by omega)]
          · rw [if_neg (by omega)]
        rcases hc.1 with h | h
        · rw [if_pos h, hR]
        · rw [if_neg (by omega), if_pos h, hR]
      · rw [decide_eq_false hc, Bool.false_and]
        refine ev_now (fun k => ?_)
        simp only [impl_IsWire.l0]
        rw [if_pos (by omega), if_pos (by omega), if_pos (by omega)]
        by_cases hs : rd W (i : Int) = 1 ∨ rd W (i : Int) = -1
        · have h0 : 0 < i := Nat.pos_of_ne_zero (fun h => hc ⟨hs, fun h' => by omega⟩)
          have h3 : ¬ rd P ((i - 1 : Nat) : Int) < rd P (i : Int) := fun h => hc ⟨hs, fun _ => h⟩
          have hR : ∀ X : Option Bool, (if (i : Int) > 0 then (if 0 ≤ wrap64 ((i : Int) - 1) then (if wrap64 ((i : Int) - 1) < (P.length : Int) then (if (i : Int) < (P.length : Int) then (if rd P (wrap64 ((i : Int) - 1)) ≥ rd P (i : Int) then some false else X) else none) else none) else none) else X) = some false := by
            intro X
            rw [if_pos (by omega), w64 (x := (i : Int) - 1) (by omega) (by omega), show (i : Int) - 1 = ((i - 1 : Nat) : Int) by omega, if_pos (by omega), if_pos (by omega), if_pos (by omega), if_pos (by omega)]
          rcases hs with h | h
          · rw [if_pos h, hR]
          · rw [if_neg (by omega), if_pos h, hR]
        · rw [if_neg (fun h => hs (.inl h)), if_neg (fun h => hs (.inr h))])
  exact key 0 (by omega)
theorem implIsWire_ev (L : Int) (P W : List Int) (hpl : P.length ≤ 1048576) : Ev (fun k => impl_IsWire.f k L P W) (wireV L P W) := by
  unfold impl_IsWire.f
  simp only [within_eq, Option.bind_some]
  have hno : Ev (fun k => impl_IsWire.j0 k true L P W) false := ev_now (fun k => by simp only [impl_IsWire.j0, if_true])
  by_cases h1 : inR 1 30 L = true
  · have g1 := inR_iff.1 h1
    refine ev_pos h1 ?_
    by_cases h2 : (P.length : Int) > 8
    · rw [wireV_no (by omega)]
      exact ev_pos h2 hno
    · refine ev_neg h2 ?_
      by_cases h3 : W.length = P.length
      · rw [wireV_yes ⟨g1, by omega, h3⟩]
        refine ev_pos (by omega) (Ev.bind (allWithin_ev P 0 L (by omega)) ?_)
        cases ha : inAll 0 L P with
        | true =>
          refine Ev.step (fun k => by simp only [impl_IsWire.j0, Bool.not_true, Bool.false_eq_true, if_false]; rfl) ?_
          have hl := implWire_loop L P W h3 (by omega)
          have e : allF P.length (wD P W) 0 = allF P.length (wC L P W) 0 := by
            rw [Bool.eq_iff_iff, allF_iff, allF_iff]
            have hA := inAll_iff.1 ha
            exact ⟨fun h j hj => ⟨hA _ (mem_of_rd hj), (h j hj).2, (h j hj).1⟩, fun h j hj => ⟨(h j hj).2.2, (h j hj).2.1⟩⟩
          rw [← e]
          exact hl
        | false =>
          have e : allF P.length (wC L P W) 0 = false := by
            rw [Bool.eq_false_iff]
            intro h
            have h' := allF_of h
            have : inAll 0 L P = true := inAll_iff.2 (all_of_rd (fun i hi => (h' i hi).1))
            rw [ha] at this
            exact absurd this (by decide)
          rw [e]
          exact hno
      · rw [wireV_no (by omega)]
        exact ev_neg (by omega) hno
  · rw [wireV_no (fun h => h1 (inR_iff.2 h.1))]
    exact ev_neg h1 hno

def shade (L : Int) (P W : List Int) (j : Nat) : Int := if rd W (j : Int) < 0 then rd P (j : Int) else L - rd P (j : Int)
def shades (L : Int) (P W : List Int) : List Int := tab P.length (shade L P W)
theorem shades_len (L : Int) (P W : List Int) : (shades L P W).length = P.length := tab_len _ _
theorem shade_bd {L : Int} {P W : List Int} (h : wireV L P W = true) {j : Nat} (hj : j < P.length) : 0 ≤ shade L P W j ∧ shade L P W j ≤ L := by
  have hc := (wire_of h).2.2.2 j hj
  unfold shade
  split
  · exact hc.1
  · have := hc.1; omega
theorem shade_row {L : Int} {P W : List Int} {i : Nat} (out : List Int) (h : out.length < 17592186044416) (hL : 0 ≤ L - rd P (i : Int) ∧ L - rd P (i : Int) ≤ 30) (F : List Int → Option (List Int)) :
    (if rd W (i : Int) < 0 then (if out.length < 17592186044416 then F (out ++ [rd P (i : Int)]) else none) else (if out.length < 17592186044416 then F (out ++ [wrap64 (L - rd P (i : Int))]) else none)) = F (out ++ [shade L P W i]) := by
  rw [if_pos h, if_pos h, w64 (by omega) (by omega)]
  unfold shade
  split <;> rfl
theorem implShades_ev (L : Int) (P W : List Int) (h : wireV L P W = true) : Ev (fun k => impl_Wire_shades.f k L P W) (shades L P W) := by
  have hw := wire_of h
  have key := down (P := fun i => Ev (fun k => impl_Wire_shades.l0 k (tab i (shade L P W)) P (P.length : Int) (i : Int) L P W) (shades L P W)) (n := P.length)
    (ev_now (fun k => by simp only [impl_Wire_shades.l0]; rw [if_neg (by omega)]; rfl))
    (fun i hi ih => by
      have hc := (hw.2.2.2 i hi).1
      refine Ev.step (fun k => ?_) ih
      simp only [impl_Wire_shades.l0]
      rw [if_pos (by omega), if_pos (by omega), if_pos (by omega), if_pos (by omega), w64s hi (by omega), shade_row (tab i (shade L P W)) (by rw [tab_len]; omega) (by omega) (fun o => impl_Wire_shades.l0 k o P (P.length : Int) ((i + 1 : Nat) : Int) L P W), tab_snoc i (shade L P W)])
  exact key 0 (by omega)

def srt (l : List Int) : List Int := l.mergeSort (fun a b => decide (a ≤ b))
theorem srt_perm (l : List Int) : (srt l).Perm l := List.mergeSort_perm l _
theorem srt_pw (l : List Int) : (srt l).Pairwise (· ≤ ·) := by
  have h := List.pairwise_mergeSort (le := fun a b : Int => decide (a ≤ b)) (by intro a b c; simp; omega) (by intro a b; simp; omega) l
  exact h.imp (fun h => by simpa using h)
theorem srt_of {a b : List Int} (p : a.Perm b) (h : b.Pairwise (· ≤ ·)) : srt a = b :=
  List.Perm.eq_of_pairwise (fun x y _ _ h1 h2 => Int.le_antisymm h1 h2) (srt_pw a) h ((srt_perm a).trans p)
theorem srt_len (l : List Int) : (srt l).length = l.length := (srt_perm l).length_eq
theorem srt_id {l : List Int} (h : l.Pairwise (· ≤ ·)) : srt l = l := srt_of (List.Perm.refl _) h
def insRev (x : Int) : List Int → List Int
  | [] => [x]
  | y :: r => if x < y then y :: insRev x r else x :: y :: r
def insR (x : Int) (a : List Int) : List Int := (insRev x a.reverse).reverse
theorem insRev_perm (x : Int) : ∀ r, (insRev x r).Perm (x :: r)
  | [] => List.Perm.refl _
  | y :: r => by
    unfold insRev
    split
    · exact ((insRev_perm x r).cons y).trans (List.Perm.swap x y r)
    · exact List.Perm.refl _
theorem insR_perm (x : Int) (a : List Int) : (insR x a).Perm (x :: a) :=
  (List.reverse_perm _).trans ((insRev_perm x _).trans ((List.reverse_perm a).cons x))
theorem insRev_pw (x : Int) : ∀ r : List Int, r.Pairwise (fun a b => b ≤ a) → (insRev x r).Pairwise (fun a b => b ≤ a)
  | [], _ => by simp [insRev]
  | y :: r, h => by
    unfold insRev
    rw [List.pairwise_cons] at h
    split
    · rename_i hlt
      rw [List.pairwise_cons]
      refine ⟨fun z hz => ?_, insRev_pw x r h.2⟩
      rcases List.mem_cons.1 ((insRev_perm x r).mem_iff.1 hz) with e | e
      · subst e; omega
      · exact h.1 z e
    · rename_i hlt
      rw [List.pairwise_cons]
      refine ⟨fun z hz => ?_, List.pairwise_cons.2 h⟩
      rcases List.mem_cons.1 hz with e | e
      · subst e; omega
      · have := h.1 z e; omega
theorem insR_pw (x : Int) (a : List Int) (h : a.Pairwise (· ≤ ·)) : (insR x a).Pairwise (· ≤ ·) := by
  unfold insR
  rw [List.pairwise_reverse]
  exact insRev_pw x _ (List.pairwise_reverse.2 h)
theorem insR_snoc_lt {x y : Int} (a : List Int) (h : x < y) : insR x (a ++ [y]) = insR x a ++ [y] := by
  simp [insR, insRev, h]
theorem insR_snoc_ge {x y : Int} (a : List Int) (h : ¬ x < y) : insR x (a ++ [y]) = a ++ [y] ++ [x] := by
  simp [insR, insRev, h]
theorem insR_nil (x : Int) : insR x [] = [x] := rfl
theorem srt_snoc (a : List Int) (x : Int) : srt (a ++ [x]) = insR x (srt a) :=
  srt_of ((List.perm_append_comm.trans ((srt_perm a).symm.cons x)).trans (insR_perm x _).symm) (insR_pw x _ (srt_pw a))
theorem cmpLess_eq (a b : Int) : cmp_Less_int.f a b = some (decide (a < b)) := by
  simp [cmp_Less_int.f, cmp_isNaN_int.f]
theorem rd_mid (A : List Int) (x : Int) (B : List Int) : rd (A ++ x :: B) (A.length : Int) = x := by
  simp [rd, List.getD]
theorem set_mid (A : List Int) (x v : Int) (B : List Int) : (A ++ x :: B).set A.length v = A ++ v :: B := by
  rw [List.set_append_right _ _ (Nat.le_refl _)]; simp
theorem swap_mid (A : List Int) (x y : Int) (B : List Int) : ((A ++ y :: x :: B).set (A.length + 1) y).set A.length x = A ++ x :: y :: B := by
  have h : A ++ y :: x :: B = (A ++ [y]) ++ x :: B := by simp
  rw [h, show A.length + 1 = (A ++ [y]).length by simp, set_mid, List.append_assoc, List.singleton_append, set_mid]
theorem insert_ev (n i : Int) (r : List Int) : ∀ (m : Nat) (A : List Int) (x : Int) (B : List Int), A.length = m → m + B.length + 1 ≤ 1048576 →
    Ev (fun k => slices_insertionSortOrdered_int.l0 k (insR x A ++ B) 0 n (wrap64 (i + 1))) r →
    Ev (fun k => slices_insertionSortOrdered_int.l1 k (A ++ x :: B) 0 n i (m : Int)) r := by
  intro m
  induction m with
  | zero =>
    intro A x B hA hb h
    obtain rfl := List.length_eq_zero_iff.1 hA
    refine Ev.step (fun k => ?_) h
    simp only [slices_insertionSortOrdered_int.l1]
    rw [if_neg (by omega), insR_nil]
    rfl
  | succ m ih =>
    intro A x B hA hb h
    obtain ⟨A', y, rfl⟩ := List.eq_nil_or_concat A |>.resolve_left (by intro e; subst e; simp at hA)
    simp only [List.concat_eq_append] at *
    have hA' : A'.length = m := by simpa using hA
    have e1 : rd (A' ++ [y] ++ x :: B) ((m + 1 : Nat) : Int) = x := by
      have := rd_mid (A' ++ [y]) x B
      rw [hA] at this; exact this
    have e2 : rd (A' ++ [y] ++ x :: B) ((m : Nat) : Int) = y := by
      have := rd_mid A' y (x :: B)
      rw [hA'] at this
      rw [List.append_assoc]; exact this
    have e3 : wrap64 (((m + 1 : Nat) : Int) - 1) = (m : Int) := by rw [w64 (by omega) (by omega)]; omega
    have hlen : (A' ++ [y] ++ x :: B).length = m + 1 + (B.length + 1) := by simp [hA']; omega
    by_cases hlt : x < y
    · have h2 : Ev (fun k => slices_insertionSortOrdered_int.l1 k (A' ++ x :: (y :: B)) 0 n i (m : Int)) r := by
        refine ih A' x (y :: B) hA' (by simp; omega) ?_
        rw [insR_snoc_lt A' hlt] at h
        simpa using h
      refine Ev.step (fun k => ?_) h2
      simp only [slices_insertionSortOrdered_int.l1, cmpLess_eq, Option.bind_some, e1, e2, e3, hlen]
      rw [if_pos (by omega), if_pos (by omega), if_pos (by omega), if_pos (by omega), if_pos (by omega), if_pos (by simpa using hlt)]
      congr 1
      rw [Int.toNat_natCast, Int.toNat_natCast, List.append_assoc, List.singleton_append, ← hA', swap_mid]
    · rw [insR_snoc_ge A' hlt] at h
      refine Ev.step (fun k => ?_) h
      simp only [slices_insertionSortOrdered_int.l1, cmpLess_eq, Option.bind_some, e1, e2, e3, hlen]
      rw [if_pos (by omega), if_pos (by omega), if_pos (by omega), if_pos (by omega), if_pos (by omega), if_neg (by simpa using hlt)]
      simp
theorem insertion_ev (l : List Int) (hl : l.length ≤ 1000000) : Ev (fun k => slices_insertionSortOrdered_int.f k l 0 (l.length : Int)) (srt l) := by
  have key := down (P := fun i => Ev (fun k => slices_insertionSortOrdered_int.l0 k (srt (l.take i) ++ l.drop i) 0 (l.length : Int) (i : Int)) (srt l)) (n := l.length)
    (ev_now (fun k => by simp only [slices_insertionSortOrdered_int.l0]; rw [if_neg (by omega), List.take_length, List.drop_length, List.append_nil]))
    (fun i hi ih => by
      have hd := drop_cons hi
      have ht : l.take (i + 1) = l.take i ++ [rd l (i : Int)] := by
        rw [List.take_succ_eq_append_getElem hi]
        congr 1
        simp [rd, List.getD, hi]
      rw [ht, srt_snoc] at ih
      have h2 := insert_ev (l.length : Int) (i : Int) (srt l) i (srt (l.take i)) (rd l (i : Int)) (l.drop (i + 1)) (by rw [srt_len, List.length_take]; omega) (by rw [List.length_drop]; omega) (by rw [w64s hi (by omega)]; exact ih)
      rw [hd]
      refine Ev.step (fun k => ?_) h2
      simp only [slices_insertionSortOrdered_int.l0]
      rw [if_pos (by omega)])
  unfold slices_insertionSortOrdered_int.f
  rw [show wrap64 ((0 : Int) + 1) = ((1 : Nat) : Int) by rw [w64 (by omega) (by omega)]; rfl]
  rcases Nat.lt_or_ge l.length 1 with h0 | h0
  · obtain rfl := List.length_eq_zero_iff.1 (Nat.lt_one_iff.1 h0)
    refine ev_now (fun k => ?_)
    simp only [slices_insertionSortOrdered_int.l0]
    rw [if_neg (by simp), srt_id (by simp)]
  · have k1 := key 1 h0
    have e : srt (l.take 1) ++ l.drop 1 = l := by
      rw [srt_id, List.take_append_drop]
      obtain ⟨x, t, rfl⟩ := List.exists_cons_of_length_pos h0
      simp
    rw [e] at k1
    exact k1
theorem bitsLen_small (k : Nat) {n : Nat} (h : n ≤ 12) : ∃ v, bits_Len.f k (n : Int) = some v := by
  unfold bits_Len.f
  have : ∀ m : Nat, m ≤ 12 → (lenOf (m : Int) [(0, 0), (1, 1), (2, 2), (3, 2), (4, 3), (5, 3), (6, 3), (7, 3), (8, 4), (9, 4), (10, 4), (11, 4), (12, 4)]).isSome = true := by decide
  exact Option.isSome_iff_exists.1 (this n h)
theorem sort_ev (l : List Int) (hl : l.length ≤ 12) : Ev (fun k => slices_Sort_int_int.f k l) (srt l) := by
  unfold slices_Sort_int_int.f
  rw [u64w (by omega) (by omega)]
  obtain ⟨v, hv⟩ := bitsLen_small 0 hl
  have hv' : ∀ k, bits_Len.f k (l.length : Int) = some v := fun k => by rw [show bits_Len.f k (l.length : Int) = bits_Len.f 0 (l.length : Int) from rfl]; exact hv
  refine Ev.congr (f := fun k => (slices_pdqsortOrdered_int.f k l 0 (l.length : Int) v).bind fun t => some t) (fun k => by rw [hv' k, Option.bind_some]) ?_
  refine Ev.bind (f := fun _ t => some t) ?_ (Ev.now _)
  refine Ev.step (fun k => by simp only [slices_pdqsortOrdered_int.f]; rfl) ?_
  refine Ev.step (f := fun k => (slices_insertionSortOrdered_int.f k l 0 (l.length : Int)).bind fun t => some t) (fun k => ?_) (Ev.bind (f := fun _ t => some t) (insertion_ev l (by omega)) (Ev.now _))
  simp only [slices_pdqsortOrdered_int.l0]
  rw [if_pos (by rw [w64 (by omega) (by omega)]; omega)]

theorem reverse_tab (l : List Int) : l.reverse = tab l.length (fun q => rd l ((l.length - 1 - q : Nat) : Int)) := by
  refine tab_ext (by simp) (fun q hq => ?_)
  rw [rd_nat, rd_nat, List.getD_eq_getElem?_getD, List.getD_eq_getElem?_getD, List.getElem?_reverse hq]
def rvF (l : List Int) (i q : Nat) : Int := if q < i ∨ l.length ≤ q + i then rd l ((l.length - 1 - q : Nat) : Int) else rd l (q : Int)
theorem reverse_ev (l : List Int) (hl : l.length ≤ 1152921504606846975) : Ev (fun k => slices_Reverse_int_int.f k l) l.reverse := by
  have key := down (P := fun i => Ev (fun k => slices_Reverse_int_int.l0 k (tab l.length (rvF l i)) (i : Int) ((l.length : Int) - 1 - (i : Int))) l.reverse) (n := l.length / 2)
    (ev_now (fun k => by
      simp only [slices_Reverse_int_int.l0]
      rw [if_neg (by omega), reverse_tab]
      refine congrArg some (tab_congr (fun q hq => ?_))
      unfold rvF
      by_cases h : q < l.length / 2 ∨ l.length ≤ q + l.length / 2
      · rw [if_pos h]
      · rw [if_neg h]
        have : l.length - 1 - q = q := by omega
        rw [this]))
    (fun i hi ih => by
      have e : (l.length : Int) - 1 - (i : Int) = ((l.length - 1 - i : Nat) : Int) := by omega
      refine Ev.step (fun k => ?_) ih
      simp only [slices_Reverse_int_int.l0]
      rw [e, if_pos (by omega), if_pos (by omega), tab_len, if_pos (by omega), if_pos (by omega), if_pos (by omega), w64s (n := l.length) (by omega) (by omega), w64 (by omega) (by omega), Int.toNat_natCast, Int.toNat_natCast, tab_rd (by omega), tab_rd (by omega), tab_set, tab_set]
      have e2 : ((l.length - 1 - i : Nat) : Int) - 1 = (l.length : Int) - 1 - ((i + 1 : Nat) : Int) := by omega
      rw [e2]
      refine congrArg (fun z => slices_Reverse_int_int.l0 k z _ _) (tab_congr (fun q hq => ?_))
      unfold rvF
      by_cases h1 : q = l.length - 1 - i
      · subst h1
        rw [if_pos rfl, if_neg (by omega), if_pos (by omega)]
        congr 2
        omega
      · rw [if_neg h1]
        by_cases h2 : q = i
        · subst h2
          rw [if_pos rfl, if_neg (by omega), if_pos (by omega)]
        · rw [if_neg h2]
          by_cases h3 : q < i ∨ l.length ≤ q + i
          · rw [if_pos h3, if_pos (by omega)]
          · rw [if_neg h3, if_neg (by omega)])
  refine Ev.congr (fun k => ?_) (key 0 (by omega))
  unfold slices_Reverse_int_int.f
  have e : tab l.length (rvF l 0) = l := by
    refine Eq.trans ?_ (tab_of l).symm
    refine tab_congr (fun q hq => ?_)
    unfold rvF
    rw [if_neg (by omega)]
  rw [e, w64 (by omega) (by omega)]
  simp

def goesL (W : List Int) (j : Nat) : Bool := decide (rd W (j : Int) < 0)
def fL (L : Int) (P W : List Int) (i : Nat) : List Int := ((List.range i).filter (goesL W)).map (shade L P W)
def fR (L : Int) (P W : List Int) (i : Nat) : List Int := ((List.range i).filter (fun j => !goesL W j)).map (shade L P W)
theorem fL_step (L : Int) (P W : List Int) (i : Nat) : fL L P W (i + 1) = if rd W (i : Int) < 0 then fL L P W i ++ [shade L P W i] else fL L P W i := by
  unfold fL
  rw [List.range_succ, List.filter_append, List.map_append]
  by_cases h : rd W (i : Int) < 0
  · rw [if_pos h]; simp [goesL, h]
  · rw [if_neg h]; simp [goesL, h]
theorem fR_step (L : Int) (P W : List Int) (i : Nat) : fR L P W (i + 1) = if rd W (i : Int) < 0 then fR L P W i else fR L P W i ++ [shade L P W i] := by
  unfold fR
  rw [List.range_succ, List.filter_append, List.map_append]
  by_cases h : rd W (i : Int) < 0
  · rw [if_pos h]; simp [goesL, h]
  · rw [if_neg h]; simp [goesL, h]
theorem fLR_len (L : Int) (P W : List Int) (i : Nat) : (fL L P W i).length + (fR L P W i).length = i := by
  induction i with
  | zero => rfl
  | succ i ih =>
    rw [fL_step, fR_step]
    split <;> simp <;> omega
theorem wire_lt {L : Int} {P W : List Int} (h : wireV L P W = true) : ∀ i j : Nat, i < j → j < P.length → rd P (i : Int) < rd P (j : Int) := by
  have hw := (wire_of h).2.2.2
  intro i j hij hj
  induction j with
  | zero => omega
  | succ j ih =>
    have h1 := (hw (j + 1) hj).2.1 (by omega)
    rw [show j + 1 - 1 = j by omega] at h1
    rcases Nat.lt_or_ge i j with h2 | h2
    · have := ih h2 (by omega); omega
    · obtain rfl : i = j := by omega
      exact h1
theorem fL_pw {L : Int} {P W : List Int} (h : wireV L P W = true) : (fL L P W P.length).Pairwise (· ≤ ·) := by
  unfold fL
  rw [List.pairwise_map]
  refine List.Pairwise.imp_of_mem ?_ (List.Pairwise.filter (goesL W) (List.pairwise_lt_range (n := P.length)))
  intro a b ha hb hab
  have h1 : rd W (a : Int) < 0 := by simpa [goesL] using (List.mem_filter.1 ha).2
  have h2 : rd W (b : Int) < 0 := by simpa [goesL] using (List.mem_filter.1 hb).2
  have h3 := List.mem_range.1 (List.mem_filter.1 hb).1
  have := wire_lt h a b hab h3
  unfold shade
  rw [if_pos h1, if_pos h2]
  omega
theorem fR_pw {L : Int} {P W : List Int} (h : wireV L P W = true) : (fR L P W P.length).Pairwise (fun a b => b ≤ a) := by
  unfold fR
  rw [List.pairwise_map]
  refine List.Pairwise.imp_of_mem ?_ (List.Pairwise.filter (fun j => !goesL W j) (List.pairwise_lt_range (n := P.length)))
  intro a b ha hb hab
  have h1 : ¬ rd W (a : Int) < 0 := by simpa [goesL] using (List.mem_filter.1 ha).2
  have h2 : ¬ rd W (b : Int) < 0 := by simpa [goesL] using (List.mem_filter.1 hb).2
  have h3 := List.mem_range.1 (List.mem_filter.1 hb).1
  have := wire_lt h a b hab h3
  unfold shade
  rw [if_neg h1, if_neg h2]
  omega
def fallT (L : Int) (P W : List Int) : List Int := fL L P W P.length ++ fR L P W P.length
def fallS (L : Int) (P W : List Int) : List Int := List.replicate (fL L P W P.length).length (-1) ++ List.replicate (fR L P W P.length).length 1
theorem fallT_len (L : Int) (P W : List Int) : (fallT L P W).length = P.length := by
  unfold fallT; rw [List.length_append, fLR_len]
theorem fallS_len (L : Int) (P W : List Int) : (fallS L P W).length = P.length := by
  unfold fallS; rw [List.length_append, List.length_replicate, List.length_replicate, fLR_len]
theorem rd_shades {L : Int} {P W : List Int} {i : Nat} (h : i < P.length) : rd (shades L P W) (i : Int) = shade L P W i := tab_rd h
theorem repeat_eq (k : Nat) (v : Int) (n : Nat) (h : n ≤ 24) : slices_Repeat_int_int.f k [v] (n : Int) = some (List.replicate n v) := by
  unfold slices_Repeat_int_int.f Repeat.f
  simp only []
  rw [if_pos (by omega), Int.toNat_natCast]
theorem implFalls_ev (L : Int) (P W : List Int) (h : wireV L P W = true) : Ev (fun k => impl_Wire_falls.f k L P W) (fallT L P W, fallS L P W) := by
  have hw := wire_of h
  unfold impl_Wire_falls.f
  refine Ev.bind (implShades_ev L P W h) ?_
  have hsl := shades_len L P W
  have key := down (P := fun i => Ev (fun k => impl_Wire_falls.l0 k (fL L P W i) (fR L P W i) (shades L P W) ((shades L P W).length : Int) (i : Int) L P W) (fallT L P W, fallS L P W)) (n := P.length)
    (by
      have h1 := fLR_len L P W P.length
      have e1 : srt (fL L P W P.length) = fL L P W P.length := srt_id (fL_pw h)
      have e2 : srt (fR L P W P.length) = (fR L P W P.length).reverse := srt_of (List.reverse_perm _).symm (List.pairwise_reverse.2 (fR_pw h))
      refine Ev.step (f := fun k => (slices_Sort_int_int.f k (fL L P W P.length)).bind fun t309 => ((slices_Sort_int_int.f k (fR L P W P.length)).bind fun t310 => ((slices_Reverse_int_int.f k t310).bind fun t311 => ((slices_Repeat_int_int.f k (([(-1)] : List Int)) ((fL L P W P.length).length : Int)).bind fun t315 => ((slices_Repeat_int_int.f k (([1] : List Int)) ((fR L P W P.length).length : Int)).bind fun t321 => (if t315.length + t321.length < 17592186044416 then (if t309.length + t311.length < 17592186044416 then (some ((t309 ++ t311), (t315 ++ t321))) else (none)) else (none))))))) (fun k => by simp only [impl_Wire_falls.l0]; rw [if_neg (by omega)]) ?_
      refine Ev.bind (sort_ev _ (by omega)) ?_
      refine Ev.bind (sort_ev _ (by omega)) ?_
      rw [e1, e2]
      refine Ev.bind (reverse_ev _ (by rw [List.length_reverse]; omega)) ?_
      rw [List.reverse_reverse]
      refine Ev.bind (Ev.congr (fun k => repeat_eq k _ _ (by omega)) (Ev.now _)) ?_
      refine Ev.bind (Ev.congr (fun k => repeat_eq k _ _ (by omega)) (Ev.now _)) ?_
      refine ev_pos (by simp; omega) (ev_pos (by omega) (Ev.now _)))
    (fun i hi ih => by
      obtain ⟨⟨hc1, hc2⟩, _, hc3⟩ := hw.2.2.2 i hi
      have h1 := fLR_len L P W i
      refine Ev.step (fun k => ?_) ih
      simp only [impl_Wire_falls.l0]
      rw [if_pos (by omega), if_pos (by omega), if_pos (by omega), if_pos (by omega), w64s hi (by omega), rd_shades hi, fL_step, fR_step]
      by_cases hlt : rd W (i : Int) < 0
      · rw [if_pos hlt, if_pos hlt, if_pos hlt, if_pos (by omega)]
      · rw [if_neg hlt, if_neg hlt, if_neg hlt, if_pos (by omega)])
  exact key 0 (by omega)
theorem rep_snoc (n : Nat) (v : Int) : List.replicate n v ++ [v] = List.replicate (n + 1) v := by
  rw [List.replicate_succ']
theorem specFalls_loops (L : Int) (P W : List Int) (h : wireV L P W = true) : Ev (fun k => spec_FallsOf.l0 k [] [] 0 L P W) (fallT L P W, fallS L P W, true) := by
  have hw := wire_of h
  have key1 := down (P := fun i => Ev (fun k => spec_FallsOf.l1 k (fL L P W P.length ++ fR L P W i) (List.replicate (fL L P W P.length).length (-1) ++ List.replicate (fR L P W i).length 1) (i : Int) L P W) (fallT L P W, fallS L P W, true)) (n := P.length)
    (ev_now (fun k => by simp only [spec_FallsOf.l1]; rw [if_neg (by omega)]; rfl))
    (fun i hi ih => by
      obtain ⟨⟨hc1, hc2⟩, _, hc3⟩ := hw.2.2.2 i hi
      have h1 := fLR_len L P W i
      have h2 := fLR_len L P W P.length
      refine Ev.step (fun k => ?_) ih
      simp only [spec_FallsOf.l1]
      rw [if_pos (by omega), if_pos (by omega), if_pos (by omega), w64s hi (by omega), fR_step]
      by_cases hlt : rd W (i : Int) < 0
      · rw [if_neg (by omega), if_pos hlt]
      · have hs : shade L P W i = L - rd P (i : Int) := by unfold shade; rw [if_neg hlt]
        rw [if_pos (by omega), if_neg hlt, if_pos (by rw [List.length_append]; omega), if_pos (by simp; omega), w64 (by omega) (by omega), hs, List.append_assoc, List.append_assoc, List.length_append, List.length_singleton, rep_snoc])
  have key := down (P := fun i => Ev (fun k => spec_FallsOf.l0 k (fL L P W i) (List.replicate (fL L P W i).length (-1)) (i : Int) L P W) (fallT L P W, fallS L P W, true)) (n := P.length)
    (by
      have k0 := key1 0 (by omega)
      have e : fR L P W 0 = [] := rfl
      rw [e, List.append_nil, List.length_nil, List.replicate_zero, List.append_nil] at k0
      refine Ev.step (fun k => ?_) k0
      simp only [spec_FallsOf.l0]
      rw [if_neg (by omega)]
      rfl)
    (fun i hi ih => by
      obtain ⟨⟨hc1, hc2⟩, _, hc3⟩ := hw.2.2.2 i hi
      have h1 := fLR_len L P W i
      refine Ev.step (fun k => ?_) ih
      simp only [spec_FallsOf.l0]
      rw [if_pos (by omega), if_pos (by omega), if_pos (by omega), w64s hi (by omega), fL_step]
      by_cases hlt : rd W (i : Int) < 0
      · have hs : shade L P W i = rd P (i : Int) := by unfold shade; rw [if_pos hlt]
        rw [if_pos hlt, if_pos hlt, if_pos (by omega), if_pos (by simp; omega), hs, List.length_append, List.length_singleton, rep_snoc]
      · rw [if_neg hlt, if_neg hlt])
  exact key 0 (by omega)
def fallsR (L : Int) (P W : List Int) : List Int × List Int × Bool := if wireV L P W = true then (fallT L P W, fallS L P W, true) else ([], [], false)
theorem fallsR_len (L : Int) (P W : List Int) : (fallsR L P W).1.length ≤ 8 ∧ (fallsR L P W).2.1.length ≤ 8 := by
  unfold fallsR
  split
  · rename_i h
    have := wire_of h
    simp only [fallT_len, fallS_len]
    omega
  · simp
theorem specFallsOf_ev (L : Int) (P W : List Int) : Ev (fun k => spec_FallsOf.f k L P W) (fallsR L P W) := by
  unfold spec_FallsOf.f fallsR
  simp only [Option.bind_some]
  refine Ev.bind (l8Wire_ev L P W) ?_
  cases hv : wireV L P W with
  | true => exact ev_pos rfl (specFalls_loops L P W hv)
  | false => exact ev_neg (by simp) (Ev.now _)

theorem implFallsOf_ev (L : Int) (P W : List Int) (hp : P.length ≤ 1048576) : Ev (fun k => impl_FallsOf.f k L P W) (fallsR L P W) := by
  unfold impl_FallsOf.f fallsR
  refine Ev.bind (implIsWire_ev L P W hp) ?_
  cases hv : wireV L P W with
  | true => exact ev_pos rfl (Ev.bind (f := fun _ t => some (t.1, t.2, true)) (implFalls_ev L P W hv) (Ev.now _))
  | false => exact ev_neg (by simp) (Ev.now _)

def putB (x : Int) : List Int → List Int
  | [] => [x]
  | y :: r => if y ≤ x then y :: putB x r else x :: y :: r
theorem putB_perm (x : Int) : ∀ l : List Int, (putB x l).Perm (x :: l)
  | [] => List.Perm.refl _
  | y :: r => by
    unfold putB
    split
    · exact ((putB_perm x r).cons y).trans (List.Perm.swap x y r)
    · exact List.Perm.refl _
theorem putB_pw (x : Int) : ∀ l : List Int, l.Pairwise (· ≤ ·) → (putB x l).Pairwise (· ≤ ·)
  | [], _ => by simp [putB]
  | y :: r, h => by
    unfold putB
    rw [List.pairwise_cons] at h
    split
    · rename_i hlt
      rw [List.pairwise_cons]
      refine ⟨fun z hz => ?_, putB_pw x r h.2⟩
      rcases List.mem_cons.1 ((putB_perm x r).mem_iff.1 hz) with e | e
      · subst e; omega
      · exact h.1 z e
    · rename_i hlt
      rw [List.pairwise_cons]
      refine ⟨fun z hz => ?_, List.pairwise_cons.2 h⟩
      rcases List.mem_cons.1 hz with e | e
      · subst e; omega
      · have := h.1 z e; omega
theorem srt_putB (a : List Int) (x : Int) : srt (a ++ [x]) = putB x (srt a) :=
  srt_of ((List.perm_append_comm.trans ((srt_perm a).symm.cons x)).trans (putB_perm x _).symm) (putB_pw x _ (srt_pw a))
def bdT (F : List Int) (t : Int) (i : Nat) : List Int := ((List.range i).filter (fun (j : Nat) => decide (t ≤ rd F (j : Int)))).map (fun (j : Nat) => (j : Int))
theorem bdT_step (F : List Int) (t : Int) (i : Nat) : bdT F t (i + 1) = if t ≤ rd F (i : Int) then bdT F t i ++ [(i : Int)] else bdT F t i := by
  unfold bdT
  rw [List.range_succ, List.filter_append, List.map_append]
  by_cases h : t ≤ rd F (i : Int)
  · rw [if_pos h]; simp [h]
  · rw [if_neg h]; simp [h]
theorem bdT_len (F : List Int) (t : Int) (i : Nat) : (bdT F t i).length ≤ i := by
  unfold bdT
  rw [List.length_map]
  exact Nat.le_trans (List.length_filter_le _ _) (by simp)
def plT (L : Int) (P W : List Int) (t : Int) (i : Nat) : List Int := ((List.range i).filter (fun (j : Nat) => decide (t ≤ shade L P W j))).map (fun (j : Nat) => rd P (j : Int) + rd W (j : Int) * t)
theorem plT_step (L : Int) (P W : List Int) (t : Int) (i : Nat) : plT L P W t (i + 1) = if t ≤ shade L P W i then plT L P W t i ++ [rd P (i : Int) + rd W (i : Int) * t] else plT L P W t i := by
  unfold plT
  rw [List.range_succ, List.filter_append, List.map_append]
  by_cases h : t ≤ shade L P W i
  · rw [if_pos h]; simp [h]
  · rw [if_neg h]; simp [h]
theorem plT_len (L : Int) (P W : List Int) (t : Int) (i : Nat) : (plT L P W t i).length ≤ i := by
  unfold plT
  rw [List.length_map]
  exact Nat.le_trans (List.length_filter_le _ _) (by simp)
theorem place_eq {L : Int} {P W : List Int} {t : Int} {i : Nat} (h : wireV L P W = true) (hi : i < P.length) (h0 : 0 ≤ t) (ht : t ≤ shade L P W i) : wrap64 (rd P (i : Int) + wrap64 (rd W (i : Int) * t)) = rd P (i : Int) + rd W (i : Int) * t := by
  have hb := shade_bd h hi
  obtain ⟨⟨hc1, hc2⟩, _, hc3⟩ := (wire_of h).2.2.2 i hi
  have hL := (wire_of h).1
  rcases hc3 with e | e <;> rw [e] <;> rw [w64 (x := _ * t) (by omega) (by omega), w64 (by omega) (by omega)]
def beadsR (L : Int) (P W : List Int) (t : Int) : List Int × List Int × Bool := if wireV L P W = true ∧ 0 ≤ t then (bdT (fallT L P W) t P.length, srt (plT L P W t P.length), true) else ([], [], false)
theorem beadsR_len (L : Int) (P W : List Int) (t : Int) : (beadsR L P W t).1.length ≤ 8 ∧ (beadsR L P W t).2.1.length ≤ 8 := by
  unfold beadsR
  split
  · rename_i h
    have := wire_of h.1
    have h1 := bdT_len (fallT L P W) t P.length
    have h2 := plT_len L P W t P.length
    simp only [srt_len]
    omega
  · simp

theorem l8Shades_ev (L : Int) (P W : List Int) (h : wireV L P W = true) : Ev (fun k => spec_l8Shades.f k L P W) (shades L P W) := by
  have hw := wire_of h
  have key := down (P := fun i => Ev (fun k => spec_l8Shades.l0 k (tab i (shade L P W)) (i : Int) L P W) (shades L P W)) (n := P.length)
    (ev_now (fun k => by simp only [spec_l8Shades.l0]; rw [if_neg (by omega)]; rfl))
    (fun i hi ih => by
      have hc := (hw.2.2.2 i hi).1
      refine Ev.step (fun k => ?_) ih
      simp only [spec_l8Shades.l0]
      rw [if_pos (by omega), if_pos (by omega), if_pos (by omega), w64s hi (by omega), shade_row (tab i (shade L P W)) (by rw [tab_len]; omega) (by omega) (fun o => spec_l8Shades.l0 k o ((i + 1 : Nat) : Int) L P W), tab_snoc i (shade L P W)])
  exact key 0 (by omega)

theorem implBeadsAt_ev (L : Int) (P W : List Int) (t : Int) (hp : P.length ≤ 1048576) : Ev (fun k => impl_BeadsAt.f k L P W t) (beadsR L P W t) := by
  unfold impl_BeadsAt.f beadsR
  refine Ev.bind (implIsWire_ev L P W hp) ?_
  cases hv : wireV L P W with
  | false =>
    refine ev_neg (by simp) ?_
    refine Ev.step (fun k => by simp only [impl_BeadsAt.j0]; rfl) ?_
    exact ev_pos (by simp) (ev_const (by simp))
  | true =>
    refine ev_pos rfl ?_
    by_cases ht : 0 ≤ t
    · rw [decide_eq_false (by omega), if_pos ⟨rfl, ht⟩]
      have hw := wire_of hv
      refine Ev.step (fun k => by simp only [impl_BeadsAt.j0]; rfl) ?_
      refine ev_neg (by simp) ?_
      refine Ev.bind (implFalls_ev L P W hv) ?_
      dsimp only
      have hfl := fallT_len L P W
      have key2 := down (P := fun i => Ev (fun k => impl_BeadsAt.l1 k t (bdT (fallT L P W) t P.length) (plT L P W t i) (shades L P W) ((shades L P W).length : Int) (i : Int) L P W) (bdT (fallT L P W) t P.length, srt (plT L P W t P.length), true)) (n := P.length)
        (by
          have hl := plT_len L P W t P.length
          refine Ev.step (f := fun k => (slices_Sort_int_int.f k (plT L P W t P.length)).bind fun t357 => (some (bdT (fallT L P W) t P.length, t357, true))) (fun k => by simp only [impl_BeadsAt.l1]; rw [if_neg (by rw [shades_len]; omega)]) ?_
          exact Ev.bind (f := fun _ t357 => some (bdT (fallT L P W) t P.length, t357, true)) (sort_ev _ (by omega)) (Ev.now _))
        (fun i hi ih => by
          have hl := plT_len L P W t i
          have hsl := shades_len L P W
          refine Ev.step (fun k => ?_) ih
          simp only [impl_BeadsAt.l1]
          rw [if_pos (by omega), if_pos (by omega), if_pos (by omega), rd_shades hi, w64s hi (by omega), plT_step]
          by_cases hs : t ≤ shade L P W i
          · rw [if_pos (by omega), if_pos (by omega), if_pos (by omega), if_pos (by omega), if_pos hs, place_eq hv hi ht hs]
          · rw [if_neg (by omega), if_neg hs])
      have key1 := down (P := fun i => Ev (fun k => impl_BeadsAt.l0 k t (bdT (fallT L P W) t i) [] (fallT L P W) ((fallT L P W).length : Int) (i : Int) L P W) (bdT (fallT L P W) t P.length, srt (plT L P W t P.length), true)) (n := P.length)
        (by
          refine Ev.step (f := fun k => (impl_Wire_shades.f k L P W).bind fun t348 => (impl_BeadsAt.l1 k t (bdT (fallT L P W) t P.length) [] t348 (t348.length : Int) 0 L P W)) (fun k => by simp only [impl_BeadsAt.l0]; rw [if_neg (by omega)]) ?_
          exact Ev.bind (implShades_ev L P W hv) (key2 0 (by omega)))
        (fun i hi ih => by
          have hl := bdT_len (fallT L P W) t i
          refine Ev.step (fun k => ?_) ih
          simp only [impl_BeadsAt.l0]
          rw [if_pos (by omega), if_pos (by omega), if_pos (by omega), w64s hi (by omega), bdT_step]
          by_cases hs : t ≤ rd (fallT L P W) (i : Int)
          · rw [if_pos (by omega), if_pos (by omega), if_pos hs]
          · rw [if_neg (by omega), if_neg hs])
      exact key1 0 (by omega)
    · rw [decide_eq_true (by omega), if_neg (fun h => ht h.2)]
      refine Ev.step (fun k => by simp only [impl_BeadsAt.j0]; rfl) ?_
      exact ev_pos (by simp) (Ev.now _)
theorem ins_ev2 (L : Int) (P W X B : List Int) (t p : Int) (i : Nat) (S : List Int) (hS : S.length ≤ 1048576) (r : List Int × List Int × Bool) (h : Ev (fun k => spec_BeadsAt.l1 k t B (putB p S) X (wrap64 ((i : Int) + 1)) L P W) r) :
    Ev (fun k => spec_BeadsAt.l2 k t B S X (i : Int) p 0 L P W) r := by
  have key := down (P := fun j => Ev (fun k => spec_BeadsAt.l1 k t B (S.take j ++ putB p (S.drop j)) X (wrap64 ((i : Int) + 1)) L P W) r → Ev (fun k => spec_BeadsAt.l2 k t B S X (i : Int) p (j : Int) L P W) r) (n := S.length)
    (fun hr => by
      refine Ev.step (fun k => ?_) hr
      simp only [spec_BeadsAt.l2, spec_l1Own.f, Option.bind_some]
      rw [if_neg (by omega), if_pos (by omega), if_pos (by omega), Int.toNat_natCast]
      simp only [List.take_length, List.drop_length, putB, List.append_nil, List.nil_append]
      rw [if_pos (by simp; omega), Option.bind_some, if_pos (by simp; omega), if_pos (by simp; omega)])
    (fun j hj ih hr => by
      have hd := drop_cons hj
      rw [hd] at hr
      unfold putB at hr
      by_cases hle : rd S (j : Int) ≤ p
      · rw [if_pos hle] at hr
        have e : S.take j ++ rd S (j : Int) :: putB p (S.drop (j + 1)) = S.take (j + 1) ++ putB p (S.drop (j + 1)) := by
          rw [List.take_succ_eq_append_getElem hj, List.append_assoc]
          congr 1
          simp [rd, List.getD, hj]
        rw [e] at hr
        refine Ev.step (fun k => ?_) (ih hr)
        simp only [spec_BeadsAt.l2]
        rw [if_pos (by omega), if_pos (by omega), if_pos hle, w64s hj (by omega)]
      · rw [if_neg hle, ← hd] at hr
        refine Ev.step (fun k => ?_) hr
        simp only [spec_BeadsAt.l2, spec_l1Own.f, Option.bind_some]
        rw [if_pos (by omega), if_pos (by omega), if_neg hle, if_pos (by omega), Int.toNat_natCast]
        simp only [List.nil_append]
        rw [if_pos (by simp; omega), Option.bind_some, if_pos (by simp; omega), if_pos (by simp; omega)]
        simp)
  exact key 0 (by omega) (by simpa using h)
theorem specBeadsAt_ev (L : Int) (P W : List Int) (t : Int) : Ev (fun k => spec_BeadsAt.f k L P W t) (beadsR L P W t) := by
  unfold spec_BeadsAt.f beadsR
  simp only [Option.bind_some]
  refine Ev.bind (l8Wire_ev L P W) ?_
  cases hv : wireV L P W with
  | false =>
    refine ev_neg (by simp) ?_
    refine Ev.step (fun k => by simp only [spec_BeadsAt.j0]; rfl) ?_
    exact ev_pos (by simp) (ev_const (by simp))
  | true =>
    refine ev_pos rfl ?_
    by_cases ht : 0 ≤ t
    · rw [decide_eq_false (by omega), if_pos ⟨rfl, ht⟩]
      have hw := wire_of hv
      refine Ev.step (fun k => by simp only [spec_BeadsAt.j0]; rfl) ?_
      refine ev_neg (by simp) ?_
      have hF := specFallsOf_ev L P W
      unfold fallsR at hF
      rw [if_pos hv] at hF
      refine Ev.bind hF ?_
      dsimp only
      have hfl := fallT_len L P W
      have key2 := down (P := fun i => Ev (fun k => spec_BeadsAt.l1 k t (bdT (fallT L P W) t P.length) (srt (plT L P W t i)) (shades L P W) (i : Int) L P W) (bdT (fallT L P W) t P.length, srt (plT L P W t P.length), true)) (n := P.length)
        (ev_now (fun k => by simp only [spec_BeadsAt.l1]; rw [if_neg (by rw [shades_len]; omega)]))
        (fun i hi ih => by
          have hl := plT_len L P W t i
          have hsl := shades_len L P W
          rw [plT_step] at ih
          by_cases hs : t ≤ shade L P W i
          · rw [if_pos hs, srt_putB] at ih
            refine Ev.step (fun k => ?_) (ins_ev2 L P W (shades L P W) (bdT (fallT L P W) t P.length) t (rd P (i : Int) + rd W (i : Int) * t) i (srt (plT L P W t i)) (by rw [srt_len]; omega) _ (by rw [w64s hi (by omega)]; exact ih))
            simp only [spec_BeadsAt.l1]
            rw [if_pos (by omega), if_pos (by omega), rd_shades hi, if_neg (by omega), if_pos (by omega), if_pos (by omega), place_eq hv hi ht hs]
          · rw [if_neg hs] at ih
            refine Ev.step (fun k => ?_) ih
            simp only [spec_BeadsAt.l1]
            rw [if_pos (by omega), if_pos (by omega), rd_shades hi, if_pos (by omega), w64s hi (by omega)])
      have key1 := down (P := fun i => Ev (fun k => spec_BeadsAt.l0 k t (bdT (fallT L P W) t i) [] (fallT L P W) (i : Int) L P W) (bdT (fallT L P W) t P.length, srt (plT L P W t P.length), true)) (n := P.length)
        (by
          refine Ev.step (f := fun k => (spec_l8Shades.f k L P W).bind fun t348 => (spec_BeadsAt.l1 k t (bdT (fallT L P W) t P.length) [] t348 0 L P W)) (fun k => by simp only [spec_BeadsAt.l0]; rw [if_neg (by omega)]) ?_
          exact Ev.bind (l8Shades_ev L P W hv) (by simpa [plT, srt] using key2 0 (by omega)))
        (fun i hi ih => by
          have hl := bdT_len (fallT L P W) t i
          refine Ev.step (fun k => ?_) ih
          simp only [spec_BeadsAt.l0, Option.bind_some]
          rw [if_pos (by omega), if_pos (by omega), w64s hi (by omega), bdT_step]
          by_cases hs : t ≤ rd (fallT L P W) (i : Int)
          · rw [if_pos (by omega), if_pos (by simp; omega), if_pos hs]
          · rw [if_neg (by omega), if_neg hs])
      exact key1 0 (by omega)
    · rw [decide_eq_true (by omega), if_neg (fun h => ht h.2)]
      refine Ev.step (fun k => by simp only [spec_BeadsAt.j0]; rfl) ?_
      exact ev_pos (by simp) (Ev.now _)

theorem slicesMax_ev (l : List Int) (h0 : 0 < l.length) (hl : l.length ≤ 1048576) : Ev (fun k => slices_Max_int_int.f k l) (rmax (rd l 0) (fun j => rd l ((j + 1 : Nat) : Int)) (l.length - 1)) := by
  have key := down (P := fun i => Ev (fun k => slices_Max_int_int.l0 k l (rmax (rd l 0) (fun j => rd l ((j + 1 : Nat) : Int)) i) ((i + 1 : Nat) : Int)) (rmax (rd l 0) (fun j => rd l ((j + 1 : Nat) : Int)) (l.length - 1))) (n := l.length - 1)
    (ev_now (fun k => by simp only [slices_Max_int_int.l0]; rw [if_neg (by omega)]))
    (fun i hi ih => by
      refine Ev.step (fun k => ?_) ih
      simp only [slices_Max_int_int.l0]
      rw [if_pos (by omega), if_pos (by omega), w64s (n := l.length) (by omega) (by omega)]
      rfl)
  unfold slices_Max_int_int.f
  exact ev_neg (by omega) (ev_pos (by omega) (key 0 (by omega)))

theorem l1Most_eq (a b : Int) : spec_l1Most.f a b = some (mx a b) := by
  unfold spec_l1Most.f mx
  by_cases h : a > b
  · rw [if_pos h, if_neg (by omega)]
  · rw [if_neg h]
    by_cases h2 : a < b
    · rw [if_pos h2]
    · rw [if_neg h2]; congr 1; omega
def lastR (L : Int) (P W : List Int) : Int × Bool := if wireV L P W = true then (rmax 0 (shade L P W) P.length, true) else (0, false)
theorem specLast_ev (L : Int) (P W : List Int) : Ev (fun k => spec_LastFall.f k L P W) (lastR L P W) := by
  unfold spec_LastFall.f lastR
  refine Ev.bind (l8Wire_ev L P W) ?_
  cases hv : wireV L P W with
  | true =>
    have hw := wire_of hv
    refine ev_pos rfl (Ev.bind (l8Shades_ev L P W hv) ?_)
    have key := down (P := fun i => Ev (fun k => spec_LastFall.l0 k (rmax 0 (shade L P W) i) (shades L P W) (i : Int)) (rmax 0 (shade L P W) P.length, true)) (n := P.length)
      (ev_now (fun k => by simp only [spec_LastFall.l0]; rw [if_neg (by rw [shades_len]; omega)]))
      (fun i hi ih => by
        refine Ev.step (fun k => ?_) ih
        simp only [spec_LastFall.l0, l1Most_eq, Option.bind_some]
        rw [if_pos (by rw [shades_len]; omega), if_pos (by omega), w64s hi (by omega)]
        unfold shades
        rw [tab_rd hi]
        rfl)
    exact key 0 (by omega)
  | false => exact ev_neg (by simp) (Ev.now _)
theorem last_same {L : Int} {P W : List Int} (h : wireV L P W = true) : rmax (rd (shades L P W ++ [0]) 0) (fun j => rd (shades L P W ++ [0]) ((j + 1 : Nat) : Int)) ((shades L P W ++ [0]).length - 1) = rmax 0 (shade L P W) P.length := by
  have hlen : (shades L P W ++ [0]).length - 1 = P.length := by simp [shades_len]
  rw [hlen]
  have at_lt : ∀ j, j < P.length → rd (shades L P W ++ [0]) (j : Int) = shade L P W j := fun j hj => by
    rw [rd_app_l (by rw [shades_len]; exact hj)]; unfold shades; rw [tab_rd hj]
  have at_end : rd (shades L P W ++ [0]) (P.length : Int) = 0 := by
    have := rd_snoc (shades L P W) 0
    rwa [shades_len] at this
  have g1 := rmax_ge (rd (shades L P W ++ [0]) 0) (fun j => rd (shades L P W ++ [0]) ((j + 1 : Nat) : Int)) P.length
  have g2 := rmax_ge 0 (shade L P W) P.length
  have upA : ∀ j, j ≤ P.length → rd (shades L P W ++ [0]) (j : Int) ≤ rmax 0 (shade L P W) P.length := by
    intro j hj
    by_cases e : j = P.length
    · rw [e, at_end]; exact g2.1
    · rw [at_lt j (by omega)]; exact g2.2 j (by omega)
  have upB : ∀ j, j ≤ P.length → rd (shades L P W ++ [0]) (j : Int) ≤ rmax (rd (shades L P W ++ [0]) 0) (fun j => rd (shades L P W ++ [0]) ((j + 1 : Nat) : Int)) P.length := by
    intro j hj
    match j, hj with
    | 0, _ => exact g1.1
    | j + 1, hj => exact g1.2 j (by omega)
  apply Int.le_antisymm
  · rcases rmax_mem (rd (shades L P W ++ [0]) 0) (fun j => rd (shades L P W ++ [0]) ((j + 1 : Nat) : Int)) P.length with e | ⟨j, hj, e⟩
    · rw [e]; exact upA 0 (by omega)
    · rw [e]; exact upA (j + 1) (by omega)
  · rcases rmax_mem 0 (shade L P W) P.length with e | ⟨j, hj, e⟩
    · rw [e]
      have := upB P.length (Nat.le_refl _)
      rwa [at_end] at this
    · rw [e]
      have := upB j (by omega)
      rwa [at_lt j hj] at this
theorem implLast_ev (L : Int) (P W : List Int) (hp : P.length ≤ 1048576) : Ev (fun k => impl_LastFall.f k L P W) (lastR L P W) := by
  unfold impl_LastFall.f lastR
  refine Ev.bind (implIsWire_ev L P W hp) ?_
  cases hv : wireV L P W with
  | true =>
    have hw := wire_of hv
    refine ev_pos rfl (Ev.bind (implShades_ev L P W hv) (ev_pos (by rw [shades_len]; omega) ?_))
    have hm := slicesMax_ev (shades L P W ++ [0]) (by simp) (by simp [shades_len]; omega)
    rw [last_same hv] at hm
    exact Ev.bind hm (Ev.now _)
  | false => exact ev_neg (by simp) (Ev.now _)

def is1 (W : List Int) (i : Nat) : Int := if rd W (i : Int) = 1 then 1 else 0
def meet2 (W : List Int) (i k : Nat) : Int := if i < k ∧ rd W (i : Int) = 1 ∧ rd W (k : Int) = -1 then 1 else 0
def meets (W : List Int) (n : Nat) : Int := sm n (fun i => sm n (meet2 W i))
def meetI (W : List Int) (n : Nat) : Int := sm n (fun k => if rd W (k : Int) = 1 then 0 else sm k (is1 W))
theorem meet_row {W : List Int} {n i : Nat} (h : n ≤ i) : meet2 W i n = 0 := by unfold meet2; rw [if_neg (by omega)]
theorem meets_eq {W : List Int} (n : Nat) (h : ∀ j, j < n → rd W (j : Int) = 1 ∨ rd W (j : Int) = -1) : meets W n = meetI W n := by
  induction n with
  | zero => rfl
  | succ n ih =>
    have e0 : sm (n + 1) (meet2 W n) = 0 := by
      have : sm (n + 1) (meet2 W n) = sm (n + 1) (fun _ => 0) := sm_congr (fun q hq => meet_row (by omega))
      rw [this, sm_const]; omega
    have e1 : meets W (n + 1) = sm n (fun i => sm n (meet2 W i) + meet2 W i n) + 0 := by
      unfold meets
      rw [sm_succ, e0]
      rfl
    have e2 : sm n (fun i => meet2 W i n) = if rd W (n : Int) = 1 then 0 else sm n (is1 W) := by
      by_cases h1 : rd W (n : Int) = 1
      · rw [if_pos h1]
        have : sm n (fun i => meet2 W i n) = sm n (fun _ => 0) := sm_congr (fun q hq => by unfold meet2; rw [if_neg (by omega)])
        rw [this, sm_const]; omega
      · rw [if_neg h1]
        have h2 : rd W (n : Int) = -1 := by have := h n (by omega); omega
        refine sm_congr (fun q hq => ?_)
        unfold meet2 is1
        by_cases h3 : rd W (q : Int) = 1
        · rw [if_pos ⟨hq, h3, h2⟩, if_pos h3]
        · rw [if_neg (fun a => h3 a.2.1), if_neg h3]
    rw [e1, sm_add, e2]
    have := ih (fun j hj => h j (by omega))
    unfold meets at this
    rw [this]
    unfold meetI
    rw [sm_succ]
    omega
theorem is1_bd (W : List Int) (n : Nat) : 0 ≤ sm n (is1 W) ∧ sm n (is1 W) ≤ n := sm_bound (fun q => by unfold is1; split <;> omega) n
theorem meetI_bd (W : List Int) (n : Nat) : 0 ≤ meetI W n ∧ meetI W n ≤ n * n := by
  unfold meetI
  induction n with
  | zero => exact ⟨Int.le_refl _, Int.le_refl _⟩
  | succ n ih =>
    rw [sm_succ]
    have := is1_bd W n
    have e : ((n + 1 : Nat) : Int) * ((n + 1 : Nat) : Int) = (n : Int) * n + n + n + 1 := by
      rw [Int.natCast_succ, Int.add_mul, Int.mul_add]; omega
    rw [e]
    split <;> omega
theorem mrow_low (W : List Int) (i : Nat) : sm (i + 1) (meet2 W i) = 0 := by
  have : sm (i + 1) (meet2 W i) = sm (i + 1) (fun _ => 0) := sm_congr (fun q hq => meet_row (by omega))
  rw [this, sm_const]; omega
theorem mrow_bd (W : List Int) (i k : Nat) : 0 ≤ sm k (meet2 W i) ∧ sm k (meet2 W i) ≤ k := sm_bound (fun q => by unfold meet2; split <;> omega) k
theorem mpart_bd (W : List Int) (n i : Nat) : 0 ≤ sm i (fun i => sm n (meet2 W i)) ∧ sm i (fun i => sm n (meet2 W i)) ≤ (n : Int) * i := by
  induction i with
  | zero => exact ⟨Int.le_refl _, by simp [sm]⟩
  | succ i ih =>
    rw [sm_succ]
    have := mrow_bd W i n
    rw [Int.natCast_succ, Int.mul_add]
    omega
def meetsR (L : Int) (P W : List Int) : Int × Bool := if wireV L P W = true then (meets W W.length, true) else (0, false)
theorem specMeets_ev (L : Int) (P W : List Int) : Ev (fun k => spec_CountMeets.f k L P W) (meetsR L P W) := by
  unfold spec_CountMeets.f meetsR
  refine Ev.bind (l8Wire_ev L P W) ?_
  cases hv : wireV L P W with
  | true =>
    have hw := wire_of hv
    refine ev_pos rfl ?_
    have key := down (P := fun i => Ev (fun k => spec_CountMeets.l0 k (sm i (fun i => sm W.length (meet2 W i))) (i : Int) L P W) (meets W W.length, true)) (n := W.length)
      (ev_now (fun k => by simp only [spec_CountMeets.l0]; rw [if_neg (by omega)]; rfl))
      (fun i hi ih => by
        have hb := mpart_bd W W.length i
        have hb2 : (W.length : Int) * i ≤ 64 := by
          have h1 : (W.length : Int) ≤ 8 := by omega
          have h2 : (i : Int) ≤ 8 := by omega
          calc (W.length : Int) * i ≤ 8 * i := Int.mul_le_mul_of_nonneg_right h1 (by omega)
            _ ≤ 64 := by omega
        refine Ev.step (f := fun k => spec_CountMeets.l1 k (sm i (fun i => sm W.length (meet2 W i)) + sm (i + 1) (meet2 W i)) (i : Int) ((i + 1 : Nat) : Int) L P W) (fun k => ?_) ?_
        · simp only [spec_CountMeets.l0]
          rw [if_pos (by omega), w64s hi (by omega), mrow_low, Int.add_zero]
        have inner := down (P := fun q => i + 1 ≤ q → Ev (fun k => spec_CountMeets.l1 k (sm i (fun i => sm W.length (meet2 W i)) + sm q (meet2 W i)) (i : Int) (q : Int) L P W) (meets W W.length, true)) (n := W.length)
          (fun _ => by
            refine Ev.step (fun k => ?_) ih
            simp only [spec_CountMeets.l1]
            rw [if_neg (by omega), w64s hi (by omega)]
            rfl)
          (fun q hq ihq hiq => by
            have hr := mrow_bd W i q
            refine Ev.step (fun k => ?_) (ihq (by omega))
            simp only [spec_CountMeets.l1]
            rw [if_pos (by omega), if_pos (by omega), if_pos (by omega), w64s hq (by omega), sm_succ q]
            by_cases h1 : rd W (i : Int) = 1
            · rw [if_pos h1, if_pos (by omega)]
              by_cases h2 : rd W (q : Int) = -1
              · have e : meet2 W i q = 1 := by unfold meet2; rw [if_pos ⟨by omega, h1, h2⟩]
                rw [if_pos h2, w64 (by omega) (by omega), e]
                congr 1; omega
              · have e : meet2 W i q = 0 := by unfold meet2; rw [if_neg (fun a => h2 a.2.2)]
                rw [if_neg h2, e, Int.add_zero]
            · have e : meet2 W i q = 0 := by unfold meet2; rw [if_neg (fun a => h1 a.2.1)]
              rw [if_neg h1, e, Int.add_zero])
        exact inner (i + 1) (by omega) (Nat.le_refl _))
    exact key 0 (by omega)
  | false => exact ev_neg (by simp) (Ev.now _)
theorem implMeets_ev (L : Int) (P W : List Int) (hp : P.length ≤ 1048576) : Ev (fun k => impl_CountMeets.f k L P W) (meetsR L P W) := by
  unfold impl_CountMeets.f meetsR
  refine Ev.bind (implIsWire_ev L P W hp) ?_
  cases hv : wireV L P W with
  | true =>
    have hw := wire_of hv
    refine ev_pos rfl ?_
    rw [meets_eq W.length (fun j hj => (hw.2.2.2 j (by omega)).2.2)]
    have key := down (P := fun i => Ev (fun k => impl_CountMeets.l0 k (sm i (is1 W)) (meetI W i) W (W.length : Int) (i : Int)) (meetI W W.length, true)) (n := W.length)
      (ev_now (fun k => by simp only [impl_CountMeets.l0]; rw [if_neg (by omega)]))
      (fun i hi ih => by
        have hb := is1_bd W i
        have hb2 := meetI_bd W i
        have hb3 : (i : Int) * i ≤ 64 := by
          have h2 : (i : Int) ≤ 8 := by omega
          calc (i : Int) * i ≤ 8 * i := Int.mul_le_mul_of_nonneg_right h2 (by omega)
            _ ≤ 64 := by omega
        have hs := (hw.2.2.2 i (by omega)).2.2
        refine Ev.step (fun k => ?_) ih
        simp only [impl_CountMeets.l0]
        rw [if_pos (by omega), if_pos (by omega), if_pos (by omega), w64s hi (by omega)]
        unfold meetI
        rw [sm_succ, sm_succ]
        rcases hs with h1 | h1
        · have e : is1 W i = 1 := by unfold is1; rw [if_pos h1]
          rw [if_pos (by omega), w64 (by omega) (by omega), e, if_pos h1, Int.add_zero]
        · have e : is1 W i = 0 := by unfold is1; rw [if_neg (by omega)]
          have hI : meetI W i = sm i (fun k => if rd W (k : Int) = 1 then 0 else sm k (is1 W)) := rfl
          rw [if_neg (by omega), e, Int.add_zero, if_neg (by omega), ← hI, w64 (by omega) (by omega)])
    exact key 0 (by omega)
  | false => exact ev_neg (by simp) (Ev.now _)

theorem mapped_ev (g : Int → Option Int) (h : Int → Int) (l : List Int) (hl : l.length ≤ 1048576) (hg : ∀ x ∈ l, g x = some (h x)) : Ev (fun k => Mapped.f g k l) (l.map h) := by
  have e : l.map h = tab l.length (fun q => h (rd l (q : Int))) := by
    refine tab_ext (by simp) (fun q hq => ?_)
    rw [rd_nat, rd_nat, List.getD_eq_getElem?_getD, List.getD_eq_getElem?_getD, List.getElem?_map, List.getElem?_eq_getElem hq]
    rfl
  rw [e]
  have key := down (P := fun i => Ev (fun k => Mapped.l0 g k (tab i (fun q => h (rd l (q : Int)))) l (l.length : Int) (i : Int)) (tab l.length (fun q => h (rd l (q : Int))))) (n := l.length)
    (ev_now (fun k => by simp only [Mapped.l0]; rw [if_neg (by omega)]))
    (fun i hi ih => by
      refine Ev.step (fun k => ?_) ih
      simp only [Mapped.l0]
      rw [if_pos (by omega), if_pos (by omega), if_pos (by omega), hg _ (mem_of_rd hi), Option.bind_some, tab_len, if_pos (by omega), w64s hi (by omega), tab_snoc i (fun q => h (rd l (q : Int)))])
  exact key 0 (by omega)

def mirP (L : Int) (P : List Int) : List Int := tab P.length (fun q => wrap64 (L - rd P ((P.length - 1 - q : Nat) : Int)))
def mirV (W : List Int) : List Int := tab W.length (fun q => wrap64 (-(rd W ((W.length - 1 - q : Nat) : Int))))
def mirWR (L : Int) (P W : List Int) : Int × List Int × List Int × Bool := if wireV L P W = true then (L, mirP L P, mirV W, true) else (0, [], [], false)
theorem mirWR_len (L : Int) (P W : List Int) : (mirWR L P W).2.1.length ≤ 1048576 ∧ (mirWR L P W).2.2.1.length ≤ 1048576 := by
  unfold mirWR
  split
  · rename_i h
    have := wire_of h
    simp only [mirP, mirV, tab_len]
    omega
  · simp
theorem map_rev_tab (f : Int → Int) (l : List Int) : (l.map f).reverse = tab l.length (fun q => f (rd l ((l.length - 1 - q : Nat) : Int))) := by
  rw [reverse_tab, List.length_map]
  refine tab_congr (fun q hq => ?_)
  rw [rd_nat, rd_nat, List.getD_eq_getElem?_getD, List.getD_eq_getElem?_getD, List.getElem?_map, List.getElem?_eq_getElem (by omega)]
  rfl
theorem specMirW_ev (L : Int) (P W : List Int) : Ev (fun k => spec_MirrorWire.f k L P W) (mirWR L P W) := by
  unfold spec_MirrorWire.f mirWR
  refine Ev.bind (l8Wire_ev L P W) ?_
  cases hv : wireV L P W with
  | true =>
    obtain ⟨hL, hp, hw, _⟩ := wire_of hv
    simp only [if_true]
    have key := down (P := fun i => Ev (fun k => spec_MirrorWire.l0 k ((P.length : Int) - 1 - (i : Int)) L P W L (tab i (fun q => wrap64 (L - rd P ((P.length - 1 - q : Nat) : Int)))) (tab i (fun q => wrap64 (-(rd W ((P.length - 1 - q : Nat) : Int)))))) (L, mirP L P, mirV W, true)) (n := P.length)
      (ev_now (fun k => by simp only [spec_MirrorWire.l0]; rw [if_neg (by omega)]; unfold mirP mirV; rw [hw]))
      (fun i hi ih => by
        have e : (P.length : Int) - 1 - (i : Int) = ((P.length - 1 - i : Nat) : Int) := by omega
        refine Ev.step (fun k => ?_) ih
        simp only [spec_MirrorWire.l0]
        rw [e, if_pos (by omega), if_pos (by omega), if_pos (by omega), tab_len, if_pos (by omega), if_pos (by omega), tab_len, if_pos (by omega), w64 (x := ((P.length - 1 - i : Nat) : Int) - 1) (by omega) (by omega), tab_snoc i (fun q => wrap64 (L - rd P ((P.length - 1 - q : Nat) : Int))), tab_snoc i (fun q => wrap64 (-(rd W ((P.length - 1 - q : Nat) : Int))))]
        have e2 : ((P.length - 1 - i : Nat) : Int) - 1 = (P.length : Int) - 1 - ((i + 1 : Nat) : Int) := by omega
        rw [e2])
    have k0 := key 0 (by omega)
    rw [w64 (by omega) (by omega)]
    simpa [tab_zero] using k0
  | false =>
    simp only [Bool.false_eq_true, if_false]
    exact Ev.now _
theorem implMirW_ev (L : Int) (P W : List Int) (hpl : P.length ≤ 1048576) : Ev (fun k => impl_MirrorWire.f k L P W) (mirWR L P W) := by
  unfold impl_MirrorWire.f mirWR
  refine Ev.bind (implIsWire_ev L P W hpl) ?_
  cases hv : wireV L P W with
  | true =>
    obtain ⟨hL, hp, hw, _⟩ := wire_of hv
    simp only [if_true]
    refine Ev.bind (g := fun k => mapped_49.f k P L) (mapped_ev _ (fun x => wrap64 (L - x)) P hpl (fun x _ => rfl)) ?_
    refine Ev.bind (g := fun k => mapped_50.f k W) (mapped_ev _ (fun x => wrap64 (-x)) W (by omega) (fun x _ => rfl)) ?_
    refine Ev.bind (reverse_ev _ (by simp; omega)) (Ev.bind (reverse_ev _ (by simp; omega)) ?_)
    rw [map_rev_tab, map_rev_tab]
    exact Ev.now _
  | false =>
    simp only [Bool.false_eq_true, if_false]
    exact Ev.now _
def shadeR (L : Int) (P W : List Int) : List Int × Bool := if wireV L P W = true then (shades L P W, true) else ([], false)
theorem shadeR_len (L : Int) (P W : List Int) : (shadeR L P W).1.length ≤ 1048576 := by
  unfold shadeR
  split
  · rename_i h
    have := wire_of h
    simp only [shades_len]; omega
  · simp
theorem specShade_ev (L : Int) (P W : List Int) : Ev (fun k => spec_ShadeTimes.f k L P W) (shadeR L P W) := by
  unfold spec_ShadeTimes.f shadeR
  refine Ev.bind (l8Wire_ev L P W) ?_
  cases hv : wireV L P W with
  | true => exact ev_pos rfl (Ev.bind (l8Shades_ev L P W hv) (Ev.now _))
  | false => exact ev_neg (by simp) (Ev.now _)
theorem implShade_ev (L : Int) (P W : List Int) (hp : P.length ≤ 1048576) : Ev (fun k => impl_ShadeTimes.f k L P W) (shadeR L P W) := by
  unfold impl_ShadeTimes.f shadeR
  refine Ev.bind (implIsWire_ev L P W hp) ?_
  cases hv : wireV L P W with
  | true => exact ev_pos rfl (Ev.bind (implShades_ev L P W hv) (Ev.now _))
  | false => exact ev_neg (by simp) (Ev.now _)

def sl : List Int → Int
  | [] => 0
  | x :: l => x + sl l
theorem sl_app (a b : List Int) : sl (a ++ b) = sl a + sl b := by
  induction a with
  | nil => simp [sl]
  | cons x a ih => simp only [List.cons_append, sl, ih]; omega
theorem sl_perm {a b : List Int} (h : a.Perm b) : sl a = sl b := by
  induction h with
  | nil => rfl
  | cons x _ ih => simp only [sl, ih]
  | swap x y l => simp only [sl]; omega
  | trans _ _ h1 h2 => exact h1.trans h2
theorem sl_bd {l : List Int} {b : Int} (h : ∀ x ∈ l, 0 ≤ x ∧ x ≤ b) : 0 ≤ sl l ∧ sl l ≤ b * l.length := by
  induction l with
  | nil => simp [sl]
  | cons x l ih =>
    have h1 := ih (fun y hy => h y (List.mem_cons_of_mem _ hy))
    have h2 := h x List.mem_cons_self
    simp only [sl, List.length_cons, Int.natCast_succ, Int.mul_add]
    omega
theorem sl_take {l : List Int} {i : Nat} (h : i < l.length) : sl (l.take (i + 1)) = sl (l.take i) + rd l (i : Int) := by
  have e : l.take (i + 1) = l.take i ++ [rd l (i : Int)] := by
    rw [List.take_succ_eq_append_getElem h]; congr 1; simp [rd, List.getD, h]
  rw [e, sl_app]
  simp [sl]
theorem rSumW_ev (l : List Int) (hb : ∀ x ∈ l, 0 ≤ x ∧ x ≤ 30) (hl : l.length ≤ 8) : Ev (fun k => laws_rSum.f k l) (sl l) := by
  unfold laws_rSum.f
  have key := down (P := fun i => Ev (fun k => laws_rSum.l0 k l (sl (l.take i)) (i : Int)) (sl l)) (n := l.length)
    (ev_now (fun k => by simp only [laws_rSum.l0]; rw [if_neg (by omega), List.take_length]))
    (fun i hi ih => by
      rw [sl_take hi] at ih
      have h1 := sl_bd (l := l.take i) (b := 30) (fun x hx => hb x (List.mem_of_mem_take hx))
      have h2 := hb _ (mem_of_rd hi)
      have h3 : (l.take i).length ≤ 8 := by rw [List.length_take]; omega
      refine Ev.step (fun k => ?_) ih
      simp only [laws_rSum.l0]
      rw [if_pos (by omega), if_pos (by omega), w64s hi (by omega), w64 (x := sl (l.take i) + rd l (i : Int)) (by omega) (by omega)])
  exact key 0 (by omega)
theorem fall_perm (L : Int) (P W : List Int) (i : Nat) : (fL L P W i ++ fR L P W i).Perm (tab i (shade L P W)) := by
  induction i with
  | zero => exact List.Perm.refl _
  | succ i ih =>
    rw [fL_step, fR_step, ← tab_snoc]
    split
    · rw [List.append_assoc]
      refine (List.perm_append_comm_assoc _ _ _).trans ?_
      exact (List.perm_append_comm.trans (ih.append_right _))
    · rw [← List.append_assoc]
      exact ih.append_right _
theorem fallT_perm (L : Int) (P W : List Int) : (fallT L P W).Perm (shades L P W) := fall_perm L P W P.length
theorem fallT_bd {L : Int} {P W : List Int} (h : wireV L P W = true) : ∀ x ∈ fallT L P W, 0 ≤ x ∧ x ≤ 30 := fun x hx => by
  have hx2 := (fallT_perm L P W).mem_iff.1 hx
  obtain ⟨i, hi, rfl⟩ := rd_of_mem hx2
  have hl := shades_len L P W
  rw [rd_shades (by omega)]
  have := shade_bd h (j := i) (by omega)
  have := (wire_of h).1
  omega
theorem shades_bd {L : Int} {P W : List Int} (h : wireV L P W = true) : ∀ x ∈ shades L P W, 0 ≤ x ∧ x ≤ 30 := fun x hx => fallT_bd h x ((fallT_perm L P W).mem_iff.2 hx)
theorem rmax_le {a b : Int} {f : Nat → Int} {n : Nat} (ha : a ≤ b) (h : ∀ j, j < n → f j ≤ b) : rmax a f n ≤ b := by
  rcases rmax_mem a f n with e | ⟨j, hj, e⟩
  · omega
  · have := h j hj; omega
theorem rmax_perm {a : Int} {l m : List Int} (h : ∀ x, x ∈ l → x ∈ m) : rmax a (fun j => rd l (j : Int)) l.length ≤ rmax a (fun j => rd m (j : Int)) m.length := by
  have hm := rmax_ge a (fun j => rd m (j : Int)) m.length
  refine rmax_le hm.1 (fun j hj => ?_)
  obtain ⟨k, hk, e⟩ := rd_of_mem (h _ (mem_of_rd hj))
  rw [← e]
  exact hm.2 k hk
theorem rmax_fall (L : Int) (P W : List Int) : rmax 0 (fun j => rd (fallT L P W) (j : Int)) P.length = rmax 0 (shade L P W) P.length := by
  have h1 := rmax_perm (a := 0) (l := fallT L P W) (m := shades L P W) (fun x hx => (fallT_perm L P W).mem_iff.1 hx)
  have h2 := rmax_perm (a := 0) (l := shades L P W) (m := fallT L P W) (fun x hx => (fallT_perm L P W).mem_iff.2 hx)
  rw [fallT_len, shades_len] at h1 h2
  have h3 : ∀ n, n ≤ P.length → rmax 0 (fun j => rd (shades L P W) (j : Int)) n = rmax 0 (shade L P W) n := by
    intro n
    induction n with
    | zero => intro _; rfl
    | succ n ih => intro hn; unfold rmax; rw [ih (by omega), rd_shades (by omega)]
  rw [h3 _ (Nat.le_refl _)] at h1 h2
  omega
def cm1 (l : List Int) (j : Nat) : Int := if rd l (j : Int) = -1 then 1 else 0
theorem cm1_bd (l : List Int) (n : Nat) : 0 ≤ sm n (cm1 l) ∧ sm n (cm1 l) ≤ n := sm_bound (fun q => by unfold cm1; split <;> omega) n
theorem rd_fallS {L : Int} {P W : List Int} {i : Nat} (h : i < P.length) : rd (fallS L P W) (i : Int) = if i < (fL L P W P.length).length then -1 else 1 := by
  have := fLR_len L P W P.length
  unfold fallS rd
  rw [Int.toNat_natCast]
  by_cases c : i < (fL L P W P.length).length
  · rw [if_pos c, List.getD_eq_getElem?_getD, List.getElem?_append_left (by simpa using c), List.getElem?_replicate, if_pos c]; rfl
  · rw [if_neg c, List.getD_eq_getElem?_getD, List.getElem?_append_right (by simpa using Nat.not_lt.1 c), List.length_replicate, List.getElem?_replicate, if_pos (by omega)]; rfl
theorem sm_low (m n : Nat) (h : m ≤ n) : sm n (fun j => if j < m then (1 : Int) else 0) = m := by
  induction n with
  | zero => have : m = 0 := by omega
            subst this; rfl
  | succ n ih =>
    rw [sm_succ]
    by_cases e : m = n + 1
    · subst e
      rw [sm_congr (g := fun _ => (1 : Int)) (fun q hq => by rw [if_pos (by omega)]), sm_const, if_pos (by omega)]
      omega
    · rw [ih (by omega), if_neg (by omega)]; omega
theorem cnt_sides (L : Int) (P W : List Int) : sm P.length (cm1 (fallS L P W)) = (fL L P W P.length).length := by
  have := fLR_len L P W P.length
  rw [← sm_low (fL L P W P.length).length P.length (by omega)]
  refine sm_congr (fun q hq => ?_)
  unfold cm1
  rw [rd_fallS hq]
  by_cases c : q < (fL L P W P.length).length
  · rw [if_pos c, if_pos rfl, if_pos c]
  · rw [if_neg c, if_neg (by omega), if_neg c]
theorem cnt_ways {L : Int} {P W : List Int} (h : wireV L P W = true) : ∀ n, n ≤ P.length → sm n (cm1 W) = (fL L P W n).length := by
  intro n
  induction n with
  | zero => intro _; rfl
  | succ n ih =>
    intro hn
    have hw := ((wire_of h).2.2.2 n (by omega)).2.2
    rw [sm_succ, ih (by omega), fL_step]
    unfold cm1
    rcases hw with e | e
    · rw [if_neg (by omega), if_neg (by omega)]; omega
    · rw [if_pos e, if_pos (by omega), List.length_append, List.length_singleton]; omega
theorem sides_up {L : Int} {P W : List Int} {i : Nat} (h : i + 1 < P.length) : ¬ rd (fallS L P W) ((i + 1 : Nat) : Int) < rd (fallS L P W) (i : Int) := by
  rw [rd_fallS h, rd_fallS (by omega)]
  split <;> split <;> omega
theorem sm_rev (n : Nat) (f : Nat → Int) : sm n (fun i => f (n - 1 - i)) = sm n f := by
  induction n generalizing f with
  | zero => rfl
  | succ n ih =>
    rw [sm_succ n f]
    have h1 := sm_shift n (fun i => f (n + 1 - 1 - i))
    have h2 : sm n (fun p => (fun i => f (n + 1 - 1 - i)) (p + 1)) = sm n (fun i => f (n - 1 - i)) := sm_congr (fun q hq => by
      show f (n + 1 - 1 - (q + 1)) = f (n - 1 - q)
      congr 1; omega)
    rw [h2, ih f] at h1
    simp only [Nat.sub_self, Nat.add_sub_cancel, Nat.sub_zero] at h1 ⊢
    rw [sm_succ]
    simp only [Nat.sub_self]
    omega
theorem sm_comm (n m : Nat) (f : Nat → Nat → Int) : sm n (fun i => sm m (f i)) = sm m (fun k => sm n (fun i => f i k)) := by
  induction n with
  | zero => 
    have : sm m (fun k => sm 0 (fun i => f i k)) = sm m (fun _ => 0) := sm_congr (fun _ _ => rfl)
    rw [this, sm_const]; simp [sm]
  | succ n ih =>
    rw [sm_succ, ih, ← sm_add]
    exact sm_congr (fun q _ => rfl)
theorem mirP_rd {L : Int} {P W : List Int} (h : wireV L P W = true) {q : Nat} (hq : q < P.length) : rd (mirP L P) (q : Int) = L - rd P ((P.length - 1 - q : Nat) : Int) := by
  have h1 := ((wire_of h).2.2.2 (P.length - 1 - q) (by omega)).1
  have h2 := (wire_of h).1
  unfold mirP
  rw [tab_rd hq, w64 (by omega) (by omega)]
theorem mirV_rd {L : Int} {P W : List Int} (h : wireV L P W = true) {q : Nat} (hq : q < P.length) : rd (mirV W) (q : Int) = -(rd W ((P.length - 1 - q : Nat) : Int)) := by
  have h1 := ((wire_of h).2.2.2 (P.length - 1 - q) (by omega)).2.2
  have h3 := (wire_of h).2.2.1
  unfold mirV
  rw [tab_rd (by omega), h3, w64 (by omega) (by omega)]
theorem mirP_len (L : Int) (P : List Int) : (mirP L P).length = P.length := tab_len _ _
theorem mirV_len (W : List Int) : (mirV W).length = W.length := tab_len _ _
theorem mir_wire {L : Int} {P W : List Int} (h : wireV L P W = true) : wireV L (mirP L P) (mirV W) = true := by
  have hw := wire_of h
  rw [wireV_yes ⟨hw.1, by rw [mirP_len]; exact hw.2.1, by rw [mirP_len, mirV_len]; exact hw.2.2.1⟩, mirP_len, allF_iff]
  intro j hj
  unfold wC
  rw [mirP_rd h hj, mirV_rd h hj]
  have h1 := hw.2.2.2 (P.length - 1 - j) (by omega)
  unfold wC at h1
  refine ⟨by omega, fun h0 => ?_, by omega⟩
  rw [mirP_rd h (by omega)]
  have := wire_lt h (P.length - 1 - j) (P.length - 1 - (j - 1)) (by omega) (by omega)
  omega
theorem mir_shade {L : Int} {P W : List Int} (h : wireV L P W = true) {q : Nat} (hq : q < P.length) : shade L (mirP L P) (mirV W) q = shade L P W (P.length - 1 - q) := by
  have h1 := ((wire_of h).2.2.2 (P.length - 1 - q) (by omega)).2.2
  unfold shade
  rw [mirP_rd h hq, mirV_rd h hq]
  split <;> split <;> omega
theorem mir_last {L : Int} {P W : List Int} (h : wireV L P W = true) : rmax 0 (shade L (mirP L P) (mirV W)) P.length = rmax 0 (shade L P W) P.length := by
  have a := rmax_ge 0 (shade L (mirP L P) (mirV W)) P.length
  have b := rmax_ge 0 (shade L P W) P.length
  have c := rmax_le (f := shade L (mirP L P) (mirV W)) (n := P.length) b.1 (fun j hj => by rw [mir_shade h hj]; exact b.2 _ (by omega))
  have d := rmax_le (f := shade L P W) (n := P.length) a.1 (fun j hj => by
    have := a.2 (P.length - 1 - j) (by omega)
    rw [mir_shade h (by omega), show P.length - 1 - (P.length - 1 - j) = j by omega] at this
    exact this)
  omega
theorem mir_meets {L : Int} {P W : List Int} (h : wireV L P W = true) : meets (mirV W) W.length = meets W W.length := by
  have hl := (wire_of h).2.2.1
  unfold meets
  have e : ∀ i, i < W.length → ∀ k, k < W.length → meet2 (mirV W) i k = meet2 W (W.length - 1 - k) (W.length - 1 - i) := by
    intro i hi k hk
    have h1 := mirV_rd h (q := i) (by omega)
    have h2 := mirV_rd h (q := k) (by omega)
    rw [← hl] at h1 h2
    unfold meet2
    rw [h1, h2]
    by_cases c : i < k ∧ -(rd W ((W.length - 1 - i : Nat) : Int)) = 1 ∧ -(rd W ((W.length - 1 - k : Nat) : Int)) = -1
    · rw [if_pos c, if_pos ⟨by omega, by omega, by omega⟩]
    · rw [if_neg c, if_neg (fun d => c ⟨by omega, by omega, by omega⟩)]
  rw [sm_congr (g := fun i => sm W.length (fun k => meet2 W (W.length - 1 - k) (W.length - 1 - i))) (fun i hi => sm_congr (fun k hk => e i hi k hk))]
  rw [sm_congr (g := fun i => sm W.length (fun k => meet2 W k (W.length - 1 - i))) (fun i hi => sm_rev W.length (fun k => meet2 W k (W.length - 1 - i)))]
  rw [sm_rev W.length (fun i => sm W.length (fun k => meet2 W k i))]
  exact (sm_comm W.length W.length (fun k i => meet2 W k i)).symm
theorem filt_len (n : Nat) (f : Nat → Int) (t : Int) : ((List.range n).filter (fun j => decide (t ≤ f j))).length = ((tab n f).filter (fun x => decide (t ≤ x))).length := by
  unfold tab
  rw [List.filter_map, List.length_map]
  rfl
theorem beads_len (L : Int) (P W : List Int) (t : Int) : (bdT (fallT L P W) t P.length).length = (plT L P W t P.length).length := by
  unfold bdT plT
  rw [List.length_map, List.length_map, filt_len, filt_len]
  have e : tab P.length (fun j => rd (fallT L P W) (j : Int)) = fallT L P W := by
    rw [← fallT_len L P W]; exact (tab_of _).symm
  rw [e]
  exact ((fallT_perm L P W).filter _).length_eq
theorem bdT_ok (F : List Int) (t : Int) (n : Nat) : (∀ x ∈ bdT F t n, ∃ j : Nat, x = j ∧ j < n ∧ t ≤ rd F (j : Int)) ∧ (bdT F t n).Pairwise (· < ·) := by
  unfold bdT
  refine ⟨fun x hx => ?_, ?_⟩
  · obtain ⟨j, hj, e⟩ := List.mem_map.1 hx
    have h := List.mem_filter.1 hj
    exact ⟨j, e.symm, List.mem_range.1 h.1, of_decide_eq_true h.2⟩
  · rw [List.pairwise_map]
    exact List.Pairwise.imp (fun h => by omega) (List.Pairwise.filter _ (List.pairwise_lt_range (n := n)))
theorem plT_ok {L : Int} {P W : List Int} {t : Int} (h : wireV L P W = true) (h0 : 0 ≤ t) : ∀ x ∈ srt (plT L P W t P.length), 0 ≤ x ∧ x ≤ L := by
  intro x hx
  obtain ⟨j, hj, e⟩ := List.mem_map.1 ((srt_perm _).mem_iff.1 hx)
  have hf := List.mem_filter.1 hj
  have hjl := List.mem_range.1 hf.1
  have ht := of_decide_eq_true hf.2
  have hc := (wire_of h).2.2.2 j hjl
  unfold shade at ht
  unfold wC at hc
  rcases hc.2.2 with e2 | e2
  · rw [e2] at e ht
    rw [if_neg (by omega)] at ht
    omega
  · rw [e2] at e ht
    rw [if_pos (by omega)] at ht
    omega
theorem pw_rd {l : List Int} {R : Int → Int → Prop} (h : l.Pairwise R) {i : Nat} (hi : i + 1 < l.length) : R (rd l (i : Int)) (rd l ((i + 1 : Nat) : Int)) := by
  have := List.pairwise_iff_getElem.1 h i (i + 1) (by omega) hi (by omega)
  have e1 : rd l (i : Int) = l[i] := by simp [rd, List.getD, show i < l.length by omega]
  have e2 : rd l ((i + 1 : Nat) : Int) = l[i + 1] := by
    unfold rd; rw [Int.toNat_natCast]; simp [List.getD, hi]
  rw [e1, e2]
  exact this

theorem and255w (x : Int) : 0 ≤ wrap64 (Go.bits .and .u64 (IntKind.u64.wrap x / 1099511627776) 255) ∧ wrap64 (Go.bits .and .u64 (IntKind.u64.wrap x / 1099511627776) 255) ≤ 255 := by
  have := and255 x
  rw [w64 (by omega) (by omega)]
  exact this
theorem cur_next {l : List Int} (hb : ∀ x ∈ l, 0 ≤ x ∧ x ≤ 255) (s1 s2 : Int) (h0 : 0 ≤ s1) (h1 : s1 ≤ 1000000) : ∃ v s, spec_l1Cur_next.f l s1 s2 = some (v, s1 + 1, s) ∧ 0 ≤ v ∧ v ≤ 255 := by
  unfold spec_l1Cur_next.f
  rw [w64 (x := s1 + 1) (by omega) (by omega)]
  by_cases c : s1 < (l.length : Int)
  · have hm : rd l s1 ∈ l := by
      obtain ⟨n, rfl⟩ := Int.eq_ofNat_of_zero_le h0
      unfold rd
      rw [Int.toNat_natCast, List.getD_eq_getElem?_getD, List.getElem?_eq_getElem (by omega)]
      exact List.getElem_mem _
    have hv := hb _ hm
    rw [if_pos c, if_pos h0, if_pos (by omega)]
    exact ⟨_, _, rfl, by rw [w64 (by omega) (by omega)]; exact hv⟩
  · rw [if_neg c, if_neg (by omega)]
    exact ⟨_, _, rfl, and255w _⟩
theorem cur_pick {l : List Int} (hb : ∀ x ∈ l, 0 ≤ x ∧ x ≤ 255) (s1 s2 a : Int) (h0 : 0 ≤ s1) (h1 : s1 ≤ 1000000) (ha : 2 ≤ a ∧ a ≤ 200) : ∃ v s, spec_l1Cur_pick.f l s1 s2 a = some (v, s1 + 1, s) ∧ 0 ≤ v ∧ v < a := by
  obtain ⟨v, s, h, v0, v1⟩ := cur_next hb s1 s2 h0 h1
  unfold spec_l1Cur_pick.f
  rw [if_neg (by omega), h]
  simp only [Option.bind_some]
  rw [if_neg (by omega), if_neg (by omega)]
  exact ⟨_, _, rfl, Int.tmod_nonneg _ v0, Int.tmod_lt_of_pos _ (by omega)⟩
theorem cur_among {l : List Int} (hb : ∀ x ∈ l, 0 ≤ x ∧ x ≤ 255) (s1 s2 : Int) (L : List Int) (h0 : 0 ≤ s1) (h1 : s1 ≤ 1000000) (ha : 2 ≤ L.length ∧ L.length ≤ 200) : ∃ v s, spec_l1Cur_among.f l s1 s2 L = some (v, s1 + 1, s) ∧ v ∈ L := by
  obtain ⟨v, s, h, v0, v1⟩ := cur_pick hb s1 s2 (L.length : Int) h0 h1 (by omega)
  unfold spec_l1Cur_among.f
  rw [h]
  simp only [Option.bind_some]
  rw [if_pos v0, if_pos v1]
  refine ⟨_, _, rfl, ?_⟩
  obtain ⟨n, rfl⟩ := Int.eq_ofNat_of_zero_le v0
  unfold rd
  rw [Int.toNat_natCast, List.getD_eq_getElem?_getD, List.getElem?_eq_getElem (by omega)]
  exact List.getElem_mem _
theorem cur_one {l : List Int} (hb : ∀ x ∈ l, 0 ≤ x ∧ x ≤ 255) (s1 s2 a : Int) (h0 : 0 ≤ s1) (h1 : s1 ≤ 1000000) (ha : 2 ≤ a ∧ a ≤ 200) : ∃ b s, spec_l1Cur_one.f l s1 s2 a = some (b, s1 + 1, s) := by
  obtain ⟨v, s, h, v0, v1⟩ := cur_pick hb s1 s2 a h0 h1 ha
  unfold spec_l1Cur_one.f
  rw [h]
  exact ⟨_, _, rfl⟩

theorem rInts_same (l : List Int) (hl : l.length ≤ 1048576) : Ev (fun k => laws_rInts.f k l l) true := by
  unfold laws_rInts.f
  refine ev_pos rfl ?_
  have key := down (P := fun i => Ev (fun k => laws_rInts.l0 k l l (i : Int)) true) (n := l.length)
    (ev_now (fun k => by simp only [laws_rInts.l0]; rw [if_neg (by omega)]))
    (fun i hi ih => Ev.step (fun k => by
      simp only [laws_rInts.l0]
      rw [if_pos (by omega), if_pos (by omega), if_pos (by omega), w64s hi (by omega)]
      simp) ih)
  exact key 0 (by omega)
theorem cur_pickn {l : List Int} (hb : ∀ x ∈ l, 0 ≤ x ∧ x ≤ 255) (s1 s2 a : Int) (h0 : 0 ≤ s1) (h1 : s1 ≤ 1000000) (ha : 1 ≤ a ∧ a ≤ 200) : ∃ v t s, spec_l1Cur_pick.f l s1 s2 a = some (v, t, s) ∧ (s1 ≤ t ∧ t ≤ s1 + 1) ∧ 0 ≤ v ∧ v < a := by
  by_cases c : a ≤ 1
  · unfold spec_l1Cur_pick.f
    rw [if_pos c]
    exact ⟨0, s1, s2, rfl, by omega, by omega⟩
  · obtain ⟨v, s, h, hv⟩ := cur_pick hb s1 s2 a h0 h1 (by omega)
    exact ⟨v, s1 + 1, s, h, by omega, hv⟩
def wrOk (f : Nat → Option (Int × List Int × List Int × Int × Int)) : Prop := ∃ r, Ev f r ∧ r.2.1.length ≤ 100 ∧ r.2.2.1.length ≤ 100 ∧ 0 ≤ r.2.2.2.1 ∧ r.2.2.2.1 ≤ 2000
theorem wr_end {l : List Int} (hb : ∀ x ∈ l, 0 ≤ x ∧ x ≤ 255) (p L : Int) (P W : List Int) (s1 s2 : Int) (hl : P.length = W.length) (hp : P.length ≤ 20) (h0 : 0 ≤ s1) (h1 : s1 ≤ 1000) : wrOk (fun k => spec_l1Cur_wire.j1 k p false l s1 s2 L P W) := by
  obtain ⟨v, s, hpk, v0, v1⟩ := cur_pick hb s1 s2 50 h0 (by omega) (by omega)
  have e : ∀ k, spec_l1Cur_wire.j1 (k + 1) p false l s1 s2 L P W = _ := fun k => by
    simp only [spec_l1Cur_wire.j1]; rw [if_neg (by decide), hpk]
  simp only [Option.bind_some] at e
  by_cases c0 : v = 0
  · obtain ⟨u, t, ha, _⟩ := cur_among hb (s1 + 1) s [0, 31, (-1)] (by omega) (by omega) (by simp)
    exact ⟨(u, P, W, s1 + 1 + 1, t), ev_now (fun k => by rw [e, if_pos c0, ha]; rfl), by simp only; omega, by simp only; omega, by simp only; omega, by simp only; omega⟩
  by_cases c1 : v = 1
  · by_cases cn : (P.length : Int) > 0
    · obtain ⟨i, t, s', hpi, ht, hi0, hi1⟩ := cur_pickn hb (s1 + 1) s (P.length : Int) (by omega) (by omega) (by omega)
      obtain ⟨u, t2, ha, _⟩ := cur_among hb t s' [(-1), wrap64 (L + 1), 0] (by omega) (by omega) (by simp)
      exact ⟨(L, P.set i.toNat u, W, t + 1, t2), ev_now (fun k => by
        rw [e, if_neg c0, if_pos c1, if_pos cn, hpi]
        simp only [Option.bind_some]
        rw [ha]
        simp only [Option.bind_some]
        rw [if_pos hi0, if_pos hi1]), by simp only [List.length_set]; omega, by simp only; omega, by simp only; omega, by simp only; omega⟩
    · exact ⟨(L, P, W, s1 + 1, s), ev_now (fun k => by rw [e, if_neg c0, if_pos c1, if_neg cn]), by simp only; omega, by simp only; omega, by simp only; omega, by simp only; omega⟩
  by_cases c2 : v = 2
  · by_cases cn : (P.length : Int) > 0
    · obtain ⟨i, t, s', hpi, ht, hi0, hi1⟩ := cur_pickn hb (s1 + 1) s (P.length : Int) (by omega) (by omega) (by omega)
      obtain ⟨u, t2, ha, _⟩ := cur_among hb t s' [0, 2] (by omega) (by omega) (by simp)
      exact ⟨(L, P, W.set i.toNat u, t + 1, t2), ev_now (fun k => by
        rw [e, if_neg c0, if_neg c1, if_pos c2, if_pos cn, hpi]
        simp only [Option.bind_some]
        rw [ha]
        simp only [Option.bind_some]
        rw [if_pos hi0, if_pos (by omega)]), by simp only; omega, by simp only [List.length_set]; omega, by simp only; omega, by simp only; omega⟩
    · exact ⟨(L, P, W, s1 + 1, s), ev_now (fun k => by rw [e, if_neg c0, if_neg c1, if_pos c2, if_neg cn]), by simp only; omega, by simp only; omega, by simp only; omega, by simp only; omega⟩
  by_cases c3 : v = 3
  · exact ⟨(L, P, W ++ [1], s1 + 1, s), ev_now (fun k => by rw [e, if_neg c0, if_neg c1, if_neg c2, if_pos c3, if_pos (by omega)]), by simp only; omega, by simp; omega, by simp only; omega, by simp only; omega⟩
  by_cases c4 : v = 4
  · exact ⟨(30, [0, 1, 2, 3, 4, 5, 6, 7, 8], [1, 1, 1, 1, 1, 1, 1, 1, 1], s1 + 1, s), ev_now (fun k => by rw [e, if_neg c0, if_neg c1, if_neg c2, if_neg c3, if_pos c4]), by simp, by simp, by simp only; omega, by simp only; omega⟩
  · exact ⟨(L, P, W, s1 + 1, s), ev_now (fun k => by rw [e, if_neg c0, if_neg c1, if_neg c2, if_neg c3, if_neg c4]), by simp only; omega, by simp only; omega, by simp only; omega, by simp only; omega⟩
theorem wr_step {f g : Nat → Option (Int × List Int × List Int × Int × Int)} (h : ∀ k, f (k + 1) = g k) (k : wrOk g) : wrOk f := by
  obtain ⟨r, hr, h1⟩ := k
  exact ⟨r, Ev.step h hr, h1⟩
theorem wr_l0 {l : List Int} (hb : ∀ x ∈ l, 0 ≤ x ∧ x ≤ 255) (L : Int) (hL : L ≤ 100) : ∀ (m : Nat) (p : Int) (P W : List Int) (s1 s2 : Int), 0 ≤ p → p + m = L + 1 → P.length = W.length → P.length ≤ 8 → 0 ≤ s1 → s1 + 2 * m ≤ 500 → wrOk (fun k => spec_l1Cur_wire.l0 k p l s1 s2 L P W)
  | 0, p, P, W, s1, s2, hp0, hp, hl, h8, h0, h1 => wr_step (fun k => by simp only [spec_l1Cur_wire.l0]; rw [if_neg (by omega)]) (wr_end hb p L P W s1 s2 hl (by omega) h0 (by omega))
  | m + 1, p, P, W, s1, s2, hp0, hp, hl, h8, h0, h1 => by
    by_cases c : (P.length : Int) < 8
    · obtain ⟨b, s, ho⟩ := cur_one hb s1 s2 3 h0 (by omega) (by omega)
      refine wr_step (g := fun k => spec_l1Cur_wire.j1 k p true l s1 s2 L P W) (fun k => by simp only [spec_l1Cur_wire.l0]; rw [if_pos (by omega), decide_eq_true c]) ?_
      cases b with
      | true =>
        obtain ⟨v, s', hpk, _⟩ := cur_pick hb (s1 + 1) s 2 (by omega) (by omega) (by omega)
        refine wr_step (fun k => ?_) (wr_l0 hb L hL m (p + 1) (P ++ [p]) (W ++ [wrap64 (1 - wrap64 (2 * v))]) (s1 + 1 + 1) s' (by omega) (by omega) (by simp [hl]) (by simp; omega) (by omega) (by omega))
        simp only [spec_l1Cur_wire.j1, ho, Option.bind_some]
        rw [if_pos True.intro, if_pos True.intro, if_pos (by omega), hpk]
        simp only [Option.bind_some]
        rw [if_pos (by omega), w64 (x := p + 1) (by omega) (by omega)]
      | false =>
        refine wr_step (fun k => ?_) (wr_l0 hb L hL m (p + 1) P W (s1 + 1) s (by omega) (by omega) hl h8 (by omega) (by omega))
        simp only [spec_l1Cur_wire.j1, ho, Option.bind_some]
        rw [if_pos True.intro, if_neg (by decide), w64 (x := p + 1) (by omega) (by omega)]
    · exact wr_step (fun k => by simp only [spec_l1Cur_wire.l0]; rw [if_pos (by omega), decide_eq_false c]) (wr_end hb p L P W s1 s2 hl (by omega) h0 (by omega))
theorem wire_ok {l : List Int} (hb : ∀ x ∈ l, 0 ≤ x ∧ x ≤ 255) : wrOk (fun k => spec_l1Cur_wire.f k l 0 0) := by
  obtain ⟨L, t, ha, hm⟩ := cur_among hb 0 0 [6, 8, 10, 5, 3, 1, 20, 30] (by omega) (by omega) (by simp)
  have hL : 0 ≤ L ∧ L ≤ 30 := by
    simp only [List.mem_cons, List.not_mem_nil, or_false] at hm
    omega
  obtain ⟨r, h, hr⟩ := wr_l0 hb L (by omega) (L + 1).toNat 0 [] [] (0 + 1) t (by omega) (by omega) rfl (by simp) (by omega) (by omega)
  refine ⟨r, ?_, hr⟩
  unfold spec_l1Cur_wire.f
  simp only [ha, Option.bind_some]
  exact h
set_option maxHeartbeats 1000000 in
theorem wi_l2 {L : Int} {P W : List Int} (h : wireV L P W = true) : Ev (fun k => laws_FnWires.l2 k (fallT L P W) (shades L P W) (rmax 0 (shade L P W) P.length) (meets W W.length) ((fL L P W P.length).length : Int) (rmax 0 (shade L P W) P.length) 0 0 L P W L (mirP L P) (mirV W)) true := by
  have hw := wire_of h
  have hm := mir_wire h
  have t1 := implMeets_ev L (mirP L P) (mirV W) (by rw [mirP_len]; omega)
  have t2 := implLast_ev L (mirP L P) (mirV W) (by rw [mirP_len]; omega)
  have e1 : meetsR L (mirP L P) (mirV W) = (meets W W.length, true) := by unfold meetsR; rw [if_pos hm, mirV_len, mir_meets h]
  have e2 : lastR L (mirP L P) (mirV W) = (rmax 0 (shade L P W) P.length, true) := by unfold lastR; rw [if_pos hm, mirP_len, mir_last h]
  rw [e1] at t1
  rw [e2] at t2
  have s1 := rSumW_ev (fallT L P W) (fallT_bd h) (by rw [fallT_len]; omega)
  have s2 := rSumW_ev (shades L P W) (shades_bd h) (by rw [shades_len]; omega)
  generalize rmax 0 (shade L P W) P.length = lt at *
  generalize hmw : meets W W.length = mw at *
  have hcw := cnt_ways h P.length (Nat.le_refl _)
  rw [← hw.2.2.1] at hcw
  have hend : Ev (fun k => laws_FnWires.l2 k (fallT L P W) (shades L P W) lt mw ((fL L P W P.length).length : Int) lt (sm W.length (cm1 W)) (W.length : Int) L P W L (mirP L P) (mirV W)) true := by
    refine Ev.step (fun k => by simp only [laws_FnWires.l2]; rw [if_neg (by omega)]) ?_
    refine Ev.bind t1 (Ev.bind t2 (ev_pos rfl (ev_pos rfl (ev_pos (by rw [hcw, hw.2.2.1]) (ev_pos (by first | exact True.intro | rfl) (Ev.bind s1 (Ev.bind s2 (ev_pos (sl_perm (fallT_perm L P W)) (ev_pos rfl ?_)))))))))
    exact ev_const (by simp)
  have key := down (P := fun i => Ev (fun k => laws_FnWires.l2 k (fallT L P W) (shades L P W) lt mw ((fL L P W P.length).length : Int) lt (sm i (cm1 W)) (i : Int) L P W L (mirP L P) (mirV W)) true) (n := W.length) hend
    (fun i hi ih => by
      have hb := cm1_bd W i
      rw [sm_succ] at ih
      by_cases c : rd W (i : Int) = -1
      · have e3 : cm1 W i = 1 := by unfold cm1; rw [if_pos c]
        rw [e3] at ih
        refine Ev.step (fun k => ?_) ih
        simp only [laws_FnWires.l2]
        rw [if_pos (by omega), if_pos (by omega), if_pos c, w64s hi (by omega), w64 (x := sm i (cm1 W) + 1) (by omega) (by omega)]
      · have e3 : cm1 W i = 0 := by unfold cm1; rw [if_neg c]
        rw [e3, Int.add_zero] at ih
        refine Ev.step (fun k => ?_) ih
        simp only [laws_FnWires.l2]
        rw [if_pos (by omega), if_pos (by omega), if_neg c, w64s hi (by omega)])
  exact key 0 (by omega)
set_option maxHeartbeats 1000000 in
theorem wi_l1 {L : Int} {P W : List Int} (h : wireV L P W = true) : Ev (fun k => laws_FnWires.l1 k (fallT L P W) (fallS L P W) (shades L P W) (rmax 0 (shade L P W) P.length) (meets W W.length) 0 0 0 L P W L (mirP L P) (mirV W)) true := by
  have hw := wire_of h
  have h2 := wi_l2 h
  have hfl := fallT_len L P W
  have hsl := fallS_len L P W
  have hmx := rmax_fall L P W
  have hcs := cnt_sides L P W
  generalize rmax 0 (shade L P W) P.length = lt at *
  generalize meets W W.length = mw at *
  generalize shades L P W = sh at *
  have key := down (P := fun i => Ev (fun k => laws_FnWires.l1 k (fallT L P W) (fallS L P W) sh lt mw (sm i (cm1 (fallS L P W))) (rmax 0 (fun j => rd (fallT L P W) (j : Int)) i) (i : Int) L P W L (mirP L P) (mirV W)) true) (n := P.length)
    (by
      rw [hmx, hcs]
      exact Ev.step (fun k => by simp only [laws_FnWires.l1]; rw [if_neg (by omega)]) h2)
    (fun i hi ih => by
      have hb := cm1_bd (fallS L P W) i
      have hm := mx_ge (rmax 0 (fun j => rd (fallT L P W) (j : Int)) i) (rd (fallT L P W) (i : Int))
      have e4 : rmax 0 (fun j => rd (fallT L P W) (j : Int)) (i + 1) = mx (rmax 0 (fun j => rd (fallT L P W) (j : Int)) i) (rd (fallT L P W) (i : Int)) := rfl
      rw [sm_succ, e4] at ih
      refine Ev.step (f := fun k => laws_FnWires.j10 k (fallT L P W) (fallS L P W) sh lt mw (sm i (cm1 (fallS L P W))) (rmax 0 (fun j => rd (fallT L P W) (j : Int)) i) (i : Int) false L P W L (mirP L P) (mirV W)) (fun k => ?_) (Ev.step (fun k => ?_) ih)
      · simp only [laws_FnWires.l1]
        rw [if_pos (by omega)]
        by_cases c : (i : Int) > 0
        · rw [if_pos c, if_pos (by omega), if_pos (by omega), w64 (x := (i : Int) - 1) (by omega) (by omega), if_pos (by omega), if_pos (by omega)]
          obtain ⟨j, rfl⟩ : ∃ j, i = j + 1 := ⟨i - 1, by omega⟩
          have := sides_up (L := L) (P := P) (W := W) (i := j) hi
          rw [show (((j + 1 : Nat) : Int) - 1) = (j : Int) by omega, decide_eq_false this]
        · rw [if_neg c]
      · generalize rmax 0 (fun j => rd (fallT L P W) (j : Int)) i = mo at *
        have e5 : mx mo (rd (fallT L P W) (i : Int)) = if rd (fallT L P W) (i : Int) > mo then rd (fallT L P W) (i : Int) else mo := by unfold mx; rfl
        simp only [laws_FnWires.j10]
        rw [if_neg (by decide), if_pos (by omega), if_pos (by omega), w64s hi (by omega), e5]
        by_cases c : rd (fallS L P W) (i : Int) = -1
        · have e3 : cm1 (fallS L P W) i = 1 := by unfold cm1; rw [if_pos c]
          rw [if_pos c, if_pos (by omega), e3, w64 (x := sm i (cm1 (fallS L P W)) + 1) (by omega) (by omega)]
          split <;> rfl
        · have e3 : cm1 (fallS L P W) i = 0 := by unfold cm1; rw [if_neg c]
          rw [if_neg c, if_pos (by omega), e3, Int.add_zero]
          split <;> rfl)
  exact key 0 (by omega)
theorem wi_j8 (L : Int) (P W : List Int) : Ev (fun k => laws_FnWires.j8 k (fallsR L P W).1 (fallsR L P W).2.1 (fallsR L P W).2.2 (shadeR L P W).1 (lastR L P W).1 (meetsR L P W).1 L P W (mirWR L P W).1 (mirWR L P W).2.1 (mirWR L P W).2.2.1) true := by
  cases h : wireV L P W with
  | true =>
    have e1 : fallsR L P W = (fallT L P W, fallS L P W, true) := by unfold fallsR; rw [if_pos h]
    have e2 : shadeR L P W = (shades L P W, true) := by unfold shadeR; rw [if_pos h]
    have e3 : lastR L P W = (rmax 0 (shade L P W) P.length, true) := by unfold lastR; rw [if_pos h]
    have e4 : meetsR L P W = (meets W W.length, true) := by unfold meetsR; rw [if_pos h]
    have e5 : mirWR L P W = (L, mirP L P, mirV W, true) := by unfold mirWR; rw [if_pos h]
    rw [e1, e2, e3, e4, e5]
    exact Ev.step (fun k => by simp only [laws_FnWires.j8]; rw [if_pos True.intro]) (wi_l1 h)
  | false =>
    have e1 : (fallsR L P W).2.2 = false := by unfold fallsR; rw [h]; rfl
    rw [e1]
    exact ev_now (fun k => by simp only [laws_FnWires.j8]; rw [if_neg (by decide)])
set_option maxHeartbeats 1000000 in
theorem wi_j5 (L : Int) (P W : List Int) (M : Int) (Q V : List Int) (t : Int) (hQ : Q.length ≤ 100) : Ev (fun k => laws_FnWires.j5 k (fallsR L P W).1 (fallsR L P W).2.1 (fallsR L P W).2.2 (shadeR L P W).1 (lastR L P W).1 (meetsR L P W).1 t (beadsR M Q V t).1 (beadsR M Q V t).2.1 (beadsR M Q V t).2.2 false L P W (mirWR L P W).1 (mirWR L P W).2.1 (mirWR L P W).2.2.1 M Q V) true := by
  have h8 := wi_j8 L P W
  generalize fallsR L P W = fr at *
  generalize shadeR L P W = sr at *
  generalize lastR L P W = lr at *
  generalize meetsR L P W = mr at *
  generalize mirWR L P W = mi at *
  by_cases c : wireV M Q V = true ∧ 0 ≤ t
  · have e1 : beadsR M Q V t = (bdT (fallT M Q V) t Q.length, srt (plT M Q V t Q.length), true) := by unfold beadsR; rw [if_pos c]
    obtain ⟨hv, ht⟩ := c
    have e2 : fallsR M Q V = (fallT M Q V, fallS M Q V, true) := by unfold fallsR; rw [if_pos hv]
    have t1 := implFallsOf_ev M Q V (by omega)
    rw [e2] at t1
    rw [e1]
    have hlen := beads_len M Q V t
    have hsl := srt_len (plT M Q V t Q.length)
    obtain ⟨hbd, hbp⟩ := bdT_ok (fallT M Q V) t Q.length
    have hpl := plT_ok hv ht
    have hps := srt_pw (plT M Q V t Q.length)
    have hfl := fallT_len M Q V
    have hw := wire_of hv
    have hbl := bdT_len (fallT M Q V) t Q.length
    generalize bdT (fallT M Q V) t Q.length = B at *
    generalize plT M Q V t Q.length = pl at *
    generalize srt pl = S at *
    refine Ev.step (fun k => by simp only [laws_FnWires.j5]; rw [if_neg (by decide), if_pos True.intro]) (Ev.bind t1 (ev_pos rfl ?_))
    have e3 : ((B.length : Int) != (S.length : Int)) = false := by rw [hlen, hsl]; simp
    rw [e3]
    refine Ev.step (fun k => by simp only [laws_FnWires.j6]; rw [if_neg (by decide)]) ?_
    have key := down (P := fun i => Ev (fun k => laws_FnWires.l0 k fr.1 fr.2.1 fr.2.2 sr.1 lr.1 mr.1 t B S (fallT M Q V) (i : Int) L P W mi.1 mi.2.1 mi.2.2.1 M Q V) true) (n := B.length)
      (Ev.step (fun k => by simp only [laws_FnWires.l0]; rw [if_neg (by omega)]) h8)
      (fun i hi ih => by
        obtain ⟨j, ej, hj, hjt⟩ := hbd _ (mem_of_rd hi)
        have hs1 := hpl _ (mem_of_rd (show i < S.length by omega))
        refine Ev.step (fun k => ?_) ih
        simp only [laws_FnWires.l0]
        rw [ej, if_pos (by omega), if_pos (by omega), if_pos (by omega), if_pos (by omega), if_neg (by omega)]
        by_cases c : (i : Int) > 0
        · obtain ⟨q, rfl⟩ : ∃ q, i = q + 1 := ⟨i - 1, by omega⟩
          have h1 := pw_rd hbp hi
          have h2 := pw_rd hps (i := q) (by omega)
          rw [ej] at h1
          rw [if_pos c, w64 (x := ((q + 1 : Nat) : Int) - 1) (by omega) (by omega), show (((q + 1 : Nat) : Int) - 1) = (q : Int) by omega, if_pos (by omega), if_pos (by omega), if_neg (by omega), if_pos (by omega), if_pos (by omega), if_neg (by omega), if_neg (by omega), if_neg (by omega), w64s hi (by omega)]
        · rw [if_neg c, if_pos (by omega), if_neg (by omega), if_neg (by omega), w64s hi (by omega)])
    exact key 0 (by omega)
  · have e1 : beadsR M Q V t = ([], [], false) := by unfold beadsR; rw [if_neg c]
    rw [e1]
    exact Ev.step (fun k => by simp only [laws_FnWires.j5]; rw [if_neg (by decide), if_neg (by decide)]) h8
set_option maxHeartbeats 2000000 in
theorem FnWires : FnWiresLeft := by
  intro code _ hwf
  have hb : ∀ x ∈ code, 0 ≤ x ∧ x ≤ 255 := fun x hx => by
    have := hwf x hx
    simp [Lit.wf, IntKind.min, IntKind.max, IntKind.signed, IntKind.bits] at this
    omega
  refine Ev.rounds (g := fun k => laws_FnWires.f k code) ?_
  unfold laws_FnWires.f laws_rBig.f
  simp only [Option.bind_some]
  by_cases hbig : (code.length : Int) > 65536
  · exact ev_pos (decide_eq_true hbig) (Ev.now _)
  refine ev_neg (by rw [decide_eq_false hbig]; simp) ?_
  obtain ⟨⟨L, P, W, c, s⟩, hd, hp, hww, hc0, hc1⟩ := wire_ok hb
  obtain ⟨t, u, ha, _⟩ := cur_among hb c s [1, 2, 3, 0, 5, 8, 30, (-1), 4611686018427387904] hc0 (by simp only at hc1; omega) (by simp)
  simp only at hp hww hc0 hc1
  have hdraw : Ev (fun k => spec_DrawFallsOf.f k code) (L, P, W) := by
    unfold spec_DrawFallsOf.f spec_DrawIsWire.f
    exact Ev.bind (Ev.bind hd (Ev.now _)) (Ev.now _)
  have hdraw2 : Ev (fun k => spec_DrawBeadsAt.f k code) (L, P, W, t) := by
    unfold spec_DrawBeadsAt.f
    refine Ev.bind hd ?_
    simp only [ha, Option.bind_some]
    exact Ev.now _
  have hfl := fallsR_len L P W
  have hsl := shadeR_len L P W
  have hml := mirWR_len L P W
  have hbl := beadsR_len L P W t
  have h5 := wi_j5 L P W L P W t hp
  have f1 : (fallsR L P W).2.2 = wireV L P W := by unfold fallsR; cases wireV L P W <;> rfl
  have f2 : (shadeR L P W).2 = wireV L P W := by unfold shadeR; cases wireV L P W <;> rfl
  have f3 : (lastR L P W).2 = wireV L P W := by unfold lastR; cases wireV L P W <;> rfl
  have f4 : (meetsR L P W).2 = wireV L P W := by unfold meetsR; cases wireV L P W <;> rfl
  have f5 : (mirWR L P W).2.2.2 = wireV L P W := by unfold mirWR; cases wireV L P W <;> rfl
  refine Ev.bind hdraw (Ev.bind (implFallsOf_ev L P W (by omega)) (Ev.bind (specFallsOf_ev L P W) (ev_neg (by simp) ?_)))
  refine Ev.bind (implIsWire_ev L P W (by omega)) (ev_neg (by rw [f1]; simp) ?_)
  refine Ev.bind (rInts_same _ (by omega)) (ev_pos rfl (Ev.bind (rInts_same _ (by omega)) ?_))
  refine Ev.step (fun k => by simp only [laws_FnWires.j0]; rw [if_neg (by decide)]) ?_
  refine Ev.bind (implShade_ev L P W (by omega)) (Ev.bind (specShade_ev L P W) (ev_neg (by simp) (ev_neg (by rw [f1, f2]; simp) ?_)))
  refine Ev.bind (rInts_same _ hsl) ?_
  refine Ev.step (fun k => by simp only [laws_FnWires.j1]; rw [if_neg (by decide)]) ?_
  refine Ev.bind (implLast_ev L P W (by omega)) (Ev.bind (specLast_ev L P W) (ev_pos rfl (ev_neg (by simp) ?_)))
  have g3 : ((lastR L P W).2 != (fallsR L P W).2.2) = false := by rw [f1, f3]; simp
  rw [g3]
  refine Ev.step (fun k => by simp only [laws_FnWires.j2]; rw [if_neg (by decide)]) ?_
  refine Ev.bind (implMeets_ev L P W (by omega)) (Ev.bind (specMeets_ev L P W) (ev_pos rfl (ev_neg (by simp) ?_)))
  have g4 : ((meetsR L P W).2 != (fallsR L P W).2.2) = false := by rw [f1, f4]; simp
  rw [g4]
  refine Ev.step (fun k => by simp only [laws_FnWires.j3]; rw [if_neg (by decide)]) ?_
  refine Ev.bind (implMirW_ev L P W (by omega)) (Ev.bind (specMirW_ev L P W) (ev_neg (by simp) (ev_neg (by rw [f1, f5]; simp) ?_)))
  have hrw : Ev (fun k => laws_rWire.f k (mirWR L P W).1 (mirWR L P W).2.1 (mirWR L P W).2.2.1 (mirWR L P W).1 (mirWR L P W).2.1 (mirWR L P W).2.2.1) true := by
    unfold laws_rWire.f
    exact ev_pos rfl (Ev.bind (rInts_same _ hml.1) (ev_pos rfl (Ev.bind (rInts_same _ hml.2) (Ev.now _))))
  refine Ev.bind hrw ?_
  refine Ev.step (fun k => by simp only [laws_FnWires.j4]; rw [if_neg (by decide)]) ?_
  refine Ev.bind hdraw2 (Ev.bind (implBeadsAt_ev L P W t (by omega)) (Ev.bind (specBeadsAt_ev L P W t) (ev_neg (by simp) ?_)))
  refine Ev.bind (rInts_same _ (by omega)) (ev_pos rfl (Ev.bind (rInts_same _ (by omega)) ?_))
  exact h5

end Go.Proofs.Ytciihopkgblpkaa.Pure
