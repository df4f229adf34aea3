/- FnExactAreSameForm: the left statement: for all crowds the law answers true. No condition. -/
import Derived.Test.YtjmpanikfomgeaaQFnExactAreSameFormx10
import Derived.Test.YtjmpanikfomgeaaBase
import Derived.Test.YtjmpanikfomgeaaU64
namespace Go.Proofs.Ytjmpanikfomgeaa.Pure
open Go.RowKit Go.Proofs.Ytjmpanikfomgeaa.QFnExactAreSameForm Go.Proofs.YtjmpanikfomgeaaW.PrintWords Go.Proofs.YtjmpanikfomgeaaW.PrintLast Go.Proofs.Ytjmpanikfomgeaa.Base
set_option linter.unusedVariables false
set_option linter.unusedSimpArgs false

def FnExactAreSameFormLeft : Prop := ∀ (a0_0 : Int) (l0_1 : List Int) (a1_0 : Int) (l1_1 : List Int), (Lit.int .i64 a0_0).wf = true → l0_1.length ≤ maxLen → (∀ x ∈ l0_1, (Lit.int .i64 x).wf = true) → (Lit.int .i64 a1_0).wf = true → l1_1.length ≤ maxLen → (∀ x ∈ l1_1, (Lit.int .i64 x).wf = true) → ∃ k, laws_FnExactAreSameForm.f k a0_0 l0_1 a1_0 l1_1 = some true

def srt (l : List Int) : List Int := l.mergeSort (fun a b => decide (a ≤ b))
theorem srt_perm (l : List Int) : (srt l).Perm l := List.mergeSort_perm l _
theorem srt_pw (l : List Int) : (srt l).Pairwise (· ≤ ·) := by
  have h := List.pairwise_mergeSort (le := fun a b : Int => decide (a ≤ b)) (by intro a b c; simp; omega) (by intro a b; simp; omega) l
  exact h.imp (fun h => by simpa using h)
theorem srt_of {a b : List Int} (p : a.Perm b) (h : b.Pairwise (· ≤ ·)) : srt a = b :=
  List.Perm.eq_of_pairwise (fun x y _ _ h1 h2 => Int.le_antisymm h1 h2) (srt_pw a) h ((srt_perm a).trans p)
theorem srt_congr {a b : List Int} (p : a.Perm b) : srt a = srt b := srt_of (p.trans (srt_perm b).symm) (srt_pw b)
theorem srt_len (l : List Int) : (srt l).length = l.length := (srt_perm l).length_eq
theorem srt_id {l : List Int} (h : l.Pairwise (· ≤ ·)) : srt l = l := srt_of (List.Perm.refl _) h
/-- One step of insertion from the right. -/
def insRev (x : Int) : List Int → List Int
  | [] => [x]
  | y :: r => if x < y then y :: insRev x r else x :: y :: r
def insR (x : Int) (a : List Int) : List Int := (insRev x a.reverse).reverse
theorem insRev_perm (x : Int) : ∀ r, (insRev x r).Perm (x :: r)
  | [] => List.Perm.refl _
  | y :: r => by
    unfold insRev
    split
    · exact ((insRev_perm x r).cons y).trans (List.Perm.swap x y r)
    · exact List.Perm.refl _
theorem insR_perm (x : Int) (a : List Int) : (insR x a).Perm (x :: a) :=
  (List.reverse_perm _).trans ((insRev_perm x _).trans ((List.reverse_perm a).cons x))
theorem insRev_pw (x : Int) : ∀ r : List Int, r.Pairwise (fun a b => b ≤ a) → (insRev x r).Pairwise (fun a b => b ≤ a)
  | [], _ => by simp [insRev]
  | y :: r, h => by
    unfold insRev
    rw [List.pairwise_cons] at h
    split
    · rename_i hlt
      rw [List.pairwise_cons]
      refine ⟨fun z hz => ?_, insRev_pw x r h.2⟩
      rcases List.mem_cons.1 ((insRev_perm x r).mem_iff.1 hz) with e | e
      · subst e; omega
      · exact h.1 z e
    · rename_i hlt
      rw [List.pairwise_cons]
      refine ⟨fun z hz => ?_, List.pairwise_cons.2 h⟩
      rcases List.mem_cons.1 hz with e | e
      · subst e; omega
      · have := h.1 z e; omega
theorem insR_pw (x : Int) (a : List Int) (h : a.Pairwise (· ≤ ·)) : (insR x a).Pairwise (· ≤ ·) := by
  unfold insR
  rw [List.pairwise_reverse]
  exact insRev_pw x _ (List.pairwise_reverse.2 h)
theorem insR_snoc_lt {x y : Int} (a : List Int) (h : x < y) : insR x (a ++ [y]) = insR x a ++ [y] := by
  simp [insR, insRev, h]
theorem insR_snoc_ge {x y : Int} (a : List Int) (h : ¬ x < y) : insR x (a ++ [y]) = a ++ [y] ++ [x] := by
  simp [insR, insRev, h]
theorem insR_nil (x : Int) : insR x [] = [x] := rfl
theorem srt_snoc (a : List Int) (x : Int) : srt (a ++ [x]) = insR x (srt a) :=
  srt_of ((List.perm_append_comm.trans ((srt_perm a).symm.cons x)).trans (insR_perm x _).symm) (insR_pw x _ (srt_pw a))
/-- What puts a number behind all that are less, taken from the left. -/
def putL (x : Int) : List Int → List Int
  | [] => [x]
  | y :: r => if y < x then y :: putL x r else if y = x then y :: r else x :: y :: r
theorem putL_perm (x : Int) : ∀ l : List Int, x ∉ l → (putL x l).Perm (x :: l)
  | [], _ => List.Perm.refl _
  | y :: r, h => by
    unfold putL
    simp only [List.mem_cons, not_or] at h
    split
    · exact ((putL_perm x r h.2).cons y).trans (List.Perm.swap x y r)
    · rw [if_neg (fun e => h.1 e.symm)]
theorem putL_pw (x : Int) : ∀ l : List Int, x ∉ l → l.Pairwise (· ≤ ·) → (putL x l).Pairwise (· ≤ ·)
  | [], _, _ => by simp [putL]
  | y :: r, hm, h => by
    unfold putL
    simp only [List.mem_cons, not_or] at hm
    rw [List.pairwise_cons] at h
    split
    · rename_i hlt
      rw [List.pairwise_cons]
      refine ⟨fun z hz => ?_, putL_pw x r hm.2 h.2⟩
      rcases List.mem_cons.1 ((putL_perm x r hm.2).mem_iff.1 hz) with e | e
      · subst e; omega
      · exact h.1 z e
    · rw [if_neg (fun e => hm.1 e.symm)]
      rw [List.pairwise_cons]
      refine ⟨fun z hz => ?_, List.pairwise_cons.2 h⟩
      rcases List.mem_cons.1 hz with e | e
      · subst e; omega
      · have := h.1 z e; omega
theorem srt_put {a : List Int} {x : Int} (h : x ∉ a) : srt (a ++ [x]) = putL x (srt a) :=
  srt_of ((List.perm_append_comm.trans ((srt_perm a).symm.cons x)).trans (putL_perm x _ (fun hm => h ((srt_perm a).mem_iff.1 hm))).symm) (putL_pw x _ (fun hm => h ((srt_perm a).mem_iff.1 hm)) (srt_pw a))

theorem cmpLess_eq (a b : Int) : cmp_Less_int.f a b = some (decide (a < b)) := by
  simp [cmp_Less_int.f, cmp_isNaN_int.f]
theorem rd_mid (A : List Int) (x : Int) (B : List Int) : rd (A ++ x :: B) (A.length : Int) = x := by
  simp [rd, List.getD]
theorem set_mid (A : List Int) (x v : Int) (B : List Int) : (A ++ x :: B).set A.length v = A ++ v :: B := by
  rw [List.set_append_right _ _ (Nat.le_refl _)]; simp
theorem swap_mid (A : List Int) (x y : Int) (B : List Int) : ((A ++ y :: x :: B).set (A.length + 1) y).set A.length x = A ++ x :: y :: B := by
  have h : A ++ y :: x :: B = (A ++ [y]) ++ x :: B := by simp
  rw [h, show A.length + 1 = (A ++ [y]).length by simp, set_mid, List.append_assoc, List.singleton_append, set_mid]
theorem insert_ev (n i : Int) (r : List Int) : ∀ (m : Nat) (A : List Int) (x : Int) (B : List Int), A.length = m → m + B.length + 1 ≤ 1048576 →
    Ev (fun k => slices_insertionSortOrdered_int.l0 k (insR x A ++ B) 0 n (wrap64 (i + 1))) r →
    Ev (fun k => slices_insertionSortOrdered_int.l1 k (A ++ x :: B) 0 n i (m : Int)) r := by
  intro m
  induction m with
  | zero =>
    intro A x B hA hb h
    obtain rfl := List.length_eq_zero_iff.1 hA
    refine Ev.step (fun k => ?_) h
    simp only [slices_insertionSortOrdered_int.l1]
    rw [if_neg (by omega), insR_nil]
    rfl
  | succ m ih =>
    intro A x B hA hb h
    obtain ⟨A', y, rfl⟩ := List.eq_nil_or_concat A |>.resolve_left (by intro e; subst e; simp at hA)
    simp only [List.concat_eq_append] at *
    have hA' : A'.length = m := by simpa using hA
    have e1 : rd (A' ++ [y] ++ x :: B) ((m + 1 : Nat) : Int) = x := by
      have := rd_mid (A' ++ [y]) x B
      rw [hA] at this; exact this
    have e2 : rd (A' ++ [y] ++ x :: B) ((m : Nat) : Int) = y := by
      have := rd_mid A' y (x :: B)
      rw [hA'] at this
      rw [List.append_assoc]; exact this
    have e3 : wrap64 (((m + 1 : Nat) : Int) - 1) = (m : Int) := by rw [w64 (by omega) (by omega)]; omega
    have hlen : (A' ++ [y] ++ x :: B).length = m + 1 + (B.length + 1) := by simp [hA']; omega
    by_cases hlt : x < y
    · have h2 : Ev (fun k => slices_insertionSortOrdered_int.l1 k (A' ++ x :: (y :: B)) 0 n i (m : Int)) r := by
        refine ih A' x (y :: B) hA' (by simp; omega) ?_
        rw [insR_snoc_lt A' hlt] at h
        simpa using h
      refine Ev.step (fun k => ?_) h2
      simp only [slices_insertionSortOrdered_int.l1, cmpLess_eq, Option.bind_some, e1, e2, e3, hlen]
      rw [if_pos (by omega), if_pos (by omega), if_pos (by omega), if_pos (by omega), if_pos (by omega), if_pos (by simpa using hlt)]
      congr 1
      rw [Int.toNat_natCast, Int.toNat_natCast, List.append_assoc, List.singleton_append, ← hA', swap_mid]
    · rw [insR_snoc_ge A' hlt] at h
      refine Ev.step (fun k => ?_) h
      simp only [slices_insertionSortOrdered_int.l1, cmpLess_eq, Option.bind_some, e1, e2, e3, hlen]
      rw [if_pos (by omega), if_pos (by omega), if_pos (by omega), if_pos (by omega), if_pos (by omega), if_neg (by simpa using hlt)]
      simp
theorem insertion_ev (l : List Int) (hl : l.length ≤ 1000000) : Ev (fun k => slices_insertionSortOrdered_int.f k l 0 (l.length : Int)) (srt l) := by
  have key := down (P := fun i => Ev (fun k => slices_insertionSortOrdered_int.l0 k (srt (l.take i) ++ l.drop i) 0 (l.length : Int) (i : Int)) (srt l)) (n := l.length)
    (ev_now (fun k => by simp only [slices_insertionSortOrdered_int.l0]; rw [if_neg (by omega), List.take_length, List.drop_length, List.append_nil]))
    (fun i hi ih => by
      have hd := drop_cons hi
      have ht : l.take (i + 1) = l.take i ++ [rd l (i : Int)] := by
        rw [List.take_succ_eq_append_getElem hi]
        congr 1
        simp [rd, List.getD, hi]
      rw [ht, srt_snoc] at ih
      have h2 := insert_ev (l.length : Int) (i : Int) (srt l) i (srt (l.take i)) (rd l (i : Int)) (l.drop (i + 1)) (by rw [srt_len, List.length_take]; omega) (by rw [List.length_drop]; omega) (by rw [w64s hi (by omega)]; exact ih)
      rw [hd]
      refine Ev.step (fun k => ?_) h2
      simp only [slices_insertionSortOrdered_int.l0]
      rw [if_pos (by omega)])
  unfold slices_insertionSortOrdered_int.f
  rw [show wrap64 ((0 : Int) + 1) = ((1 : Nat) : Int) by rw [w64 (by omega) (by omega)]; rfl]
  rcases Nat.lt_or_ge l.length 1 with h0 | h0
  · obtain rfl := List.length_eq_zero_iff.1 (Nat.lt_one_iff.1 h0)
    refine ev_now (fun k => ?_)
    simp only [slices_insertionSortOrdered_int.l0]
    rw [if_neg (by simp), srt_id (by simp)]
  · have k1 := key 1 h0
    have e : srt (l.take 1) ++ l.drop 1 = l := by
      rw [srt_id, List.take_append_drop]
      obtain ⟨x, t, rfl⟩ := List.exists_cons_of_length_pos h0
      simp
    rw [e] at k1
    exact k1
theorem bitsLen_small (k : Nat) {n : Nat} (h : n ≤ 12) : ∃ v, bits_Len.f k (n : Int) = some v := by
  unfold bits_Len.f
  have : ∀ m : Nat, m ≤ 12 → (lenOf (m : Int) [(0, 0), (1, 1), (2, 2), (3, 2), (4, 3), (5, 3), (6, 3), (7, 3), (8, 4), (9, 4), (10, 4), (11, 4), (12, 4)]).isSome = true := by decide
  exact Option.isSome_iff_exists.1 (this n h)
theorem sort_ev (l : List Int) (hl : l.length ≤ 12) : Ev (fun k => slices_Sort_int_int.f k l) (srt l) := by
  unfold slices_Sort_int_int.f
  rw [u64w (by omega) (by omega)]
  obtain ⟨v, hv⟩ := bitsLen_small 0 hl
  have hv' : ∀ k, bits_Len.f k (l.length : Int) = some v := fun k => by rw [show bits_Len.f k (l.length : Int) = bits_Len.f 0 (l.length : Int) from rfl]; exact hv
  refine Ev.congr (f := fun k => (slices_pdqsortOrdered_int.f k l 0 (l.length : Int) v).bind fun t => some t) (fun k => by rw [hv' k, Option.bind_some]) ?_
  refine Ev.bind (f := fun _ t => some t) ?_ (Ev.now _)
  refine Ev.step (fun k => by simp only [slices_pdqsortOrdered_int.f]; rfl) ?_
  refine Ev.step (f := fun k => (slices_insertionSortOrdered_int.f k l 0 (l.length : Int)).bind fun t => some t) (fun k => ?_) (Ev.bind (f := fun _ t => some t) (insertion_ev l (by omega)) (Ev.now _))
  simp only [slices_pdqsortOrdered_int.l0]
  rw [if_pos (by rw [w64 (by omega) (by omega)]; omega)]

theorem mapped_ev (g : Int → Option Int) (h : Int → Int) (l : List Int) (hl : l.length ≤ 1048576) (hg : ∀ x ∈ l, g x = some (h x)) : Ev (fun k => Mapped.f g k l) (l.map h) := by
  have e : l.map h = tab l.length (fun q => h (rd l (q : Int))) := by
    refine tab_ext (by simp) (fun q hq => ?_)
    rw [rd_nat, rd_nat, List.getD_eq_getElem?_getD, List.getD_eq_getElem?_getD, List.getElem?_map, List.getElem?_eq_getElem hq]
    rfl
  rw [e]
  have key := down (P := fun i => Ev (fun k => Mapped.l0 g k (tab i (fun q => h (rd l (q : Int)))) l (l.length : Int) (i : Int)) (tab l.length (fun q => h (rd l (q : Int))))) (n := l.length)
    (ev_now (fun k => by simp only [Mapped.l0]; rw [if_neg (by omega)]))
    (fun i hi ih => by
      refine Ev.step (fun k => ?_) ih
      simp only [Mapped.l0]
      rw [if_pos (by omega), if_pos (by omega), if_pos (by omega), hg _ (mem_of_rd hi), Option.bind_some, tab_len, if_pos (by omega), w64s hi (by omega), tab_snoc i (fun q => h (rd l (q : Int)))])
  exact key 0 (by omega)

def crowdV (s : Int) (l : List Int) : Bool := inR 3 12 s && (inR 1 6 (l.length : Int) && ris l 0 (s - 1) 0)
theorem crowd_of {s : Int} {l : List Int} (h : crowdV s l = true) : (3 ≤ s ∧ s ≤ 12) ∧ (1 ≤ l.length ∧ l.length ≤ 6) ∧ ∀ j, j < l.length → risC l 0 (s - 1) j := by
  unfold crowdV at h
  rw [Bool.and_eq_true, Bool.and_eq_true, inR_iff, inR_iff] at h
  exact ⟨h.1, by omega, ris_of h.2.2⟩

theorem ris_lt {l : List Int} {lo hi : Int} (h : ∀ j, j < l.length → risC l lo hi j) : ∀ i j : Nat, i < j → j < l.length → rd l (i : Int) < rd l (j : Int) := by
  intro i j hij hj
  induction j with
  | zero => omega
  | succ j ih =>
    have h1 := (h (j + 1) hj).2.2 (by omega)
    rw [show j + 1 - 1 = j by omega] at h1
    rcases Nat.lt_or_ge i j with h2 | h2
    · have := ih h2 (by omega); omega
    · obtain rfl : i = j := by omega
      exact h1
theorem ris_pw {l : List Int} {lo hi : Int} (h : ∀ j, j < l.length → risC l lo hi j) : l.Pairwise (· < ·) := by
  rw [List.pairwise_iff_getElem]
  intro i j hi hj hij
  have := ris_lt h i j hij hj
  simpa [rd, List.getD, hi, hj] using this
theorem ris_mem {l : List Int} {lo hi : Int} (h : ∀ j, j < l.length → risC l lo hi j) : ∀ x ∈ l, lo ≤ x ∧ x ≤ hi := by
  intro x hx
  obtain ⟨i, hi', rfl⟩ := rd_of_mem hx
  exact ⟨(h i hi').1, (h i hi').2.1⟩
theorem put_ev (l : List Int) (x : Int) (hx : x ∉ l) (hl : l.length ≤ 1048576) : Ev (fun k => spec_l1Put.f k l x) (putL x l) := by
  have key := down (P := fun i => Ev (fun k => spec_l1Put.l0 k l x (i : Int)) (l.take i ++ putL x (l.drop i))) (n := l.length)
    (ev_now (fun k => by
      simp only [spec_l1Put.l0, Option.bind_some]
      rw [if_neg (by omega), if_pos (by omega), if_pos (by omega), Int.toNat_natCast, if_pos (by simp; omega), if_pos (by simp; omega), if_pos (by simp; omega)]
      simp [putL]))
    (fun i hi ih => by
      have hd := drop_cons hi
      have hne : rd l (i : Int) ≠ x := fun e => hx (e ▸ mem_of_rd hi)
      rw [hd]
      unfold putL
      by_cases hlt : rd l (i : Int) < x
      · rw [if_pos hlt]
        have e : l.take i ++ rd l (i : Int) :: putL x (l.drop (i + 1)) = l.take (i + 1) ++ putL x (l.drop (i + 1)) := by
          rw [List.take_succ_eq_append_getElem hi, List.append_assoc]
          congr 1
          simp [rd, List.getD, hi]
        rw [e]
        refine Ev.step (fun k => ?_) ih
        simp only [spec_l1Put.l0, Option.bind_some]
        rw [if_pos (by omega), if_pos (by omega), if_pos hlt, w64s hi (by omega)]
      · rw [if_neg hlt, if_neg hne, ← hd]
        refine ev_now (fun k => ?_)
        simp only [spec_l1Put.l0, Option.bind_some]
        rw [if_pos (by omega), if_pos (by omega), if_neg hlt, if_neg hne, if_pos (by omega), Int.toNat_natCast, if_pos (by simp; omega), if_pos (by simp; omega), if_pos (by simp; omega)]
        rw [hd]
        simp)
  exact key 0 (by omega)
theorem nodup_map {l : List Int} {f : Int → Int} (h : l.Pairwise (· < ·)) (hf : ∀ x ∈ l, ∀ y ∈ l, x < y → f x ≠ f y) : (l.map f).Nodup := by
  unfold List.Nodup
  rw [List.pairwise_map]
  exact h.imp_of_mem (fun {a b} ha hb hab => hf a ha b hb hab)
theorem nodup_step {l : List Int} {f : Int → Int} {i : Nat} (hi : i < l.length) (h : (l.map f).Nodup) : f (rd l (i : Int)) ∉ (l.take i).map f := by
  have e : l = l.take i ++ rd l (i : Int) :: l.drop (i + 1) := by rw [← drop_cons hi, List.take_append_drop]
  rw [e, List.map_append, List.map_cons] at h
  intro hm
  have := (List.nodup_append.1 h).2.2 _ hm _ List.mem_cons_self
  exact this rfl
theorem emod_ne {n a b : Int} (hn : 0 < n) (h : a < b) (h2 : b - a < n) : a % n ≠ b % n := by
  intro e
  have h3 : (b - a) % n = 0 := Int.emod_eq_emod_iff_emod_sub_eq_zero.1 e.symm
  rw [Int.emod_eq_of_lt (by omega) h2] at h3
  omega
def gT (n s p : Int) : Int := (p + s) % n
def gM (n x p : Int) : Int := (x - p + n) % n
theorem gT_eq {n s p : Int} (hn : 3 ≤ n ∧ n ≤ 12) (hs : 0 ≤ s ∧ s ≤ n) (hp : 0 ≤ p ∧ p ≤ n - 1) : Int.tmod (wrap64 (p + s)) n = gT n s p := by
  rw [w64 (by omega) (by omega)]
  exact Int.tmod_eq_emod_of_nonneg (by omega)
theorem gM_eq {n x p : Int} (hn : 3 ≤ n ∧ n ≤ 12) (hx : 0 ≤ x ∧ x ≤ n) (hp : 0 ≤ p ∧ p ≤ n - 1) : Int.tmod (wrap64 ((wrap64 (x - p)) + n)) n = gM n x p := by
  rw [w64 (x := x - p) (by omega) (by omega), w64 (by omega) (by omega)]
  exact Int.tmod_eq_emod_of_nonneg (by omega)
def trn (n s : Int) (l : List Int) : List Int := srt (l.map (gT n s))
def mir (n x : Int) (l : List Int) : List Int := srt (l.map (gM n x))
theorem gT_nodup {n s : Int} {l : List Int} (hn : 3 ≤ n ∧ n ≤ 12) (h : l.Pairwise (· < ·)) (hm : ∀ x ∈ l, 0 ≤ x ∧ x ≤ n - 1) : (l.map (gT n s)).Nodup :=
  nodup_map h (fun x hx y hy hxy => emod_ne (by omega) (by omega) (by have := hm x hx; have := hm y hy; omega))
theorem gM_nodup {n s : Int} {l : List Int} (hn : 3 ≤ n ∧ n ≤ 12) (h : l.Pairwise (· < ·)) (hm : ∀ x ∈ l, 0 ≤ x ∧ x ≤ n - 1) : (l.map (gM n s)).Nodup :=
  nodup_map h (fun x hx y hy hxy => (emod_ne (by omega) (by omega) (by have := hm x hx; have := hm y hy; omega)).symm)
theorem srt_take_step {l : List Int} {f : Int → Int} {i : Nat} (hi : i < l.length) (h : (l.map f).Nodup) : putL (f (rd l (i : Int))) (srt ((l.take i).map f)) = srt ((l.take (i + 1)).map f) := by
  have ht : l.take (i + 1) = l.take i ++ [rd l (i : Int)] := by
    rw [List.take_succ_eq_append_getElem hi]
    congr 1
    simp [rd, List.getD, hi]
  rw [ht, List.map_append, List.map_cons, List.map_nil, srt_put (nodup_step hi h)]
theorem moved_ev (n : Int) (l : List Int) (g : Int → Option Int) (h : Int → Int) (hl : l.length ≤ 12) (hg : ∀ x ∈ l, g x = some (h x)) : Ev (fun k => impl_Crowd_moved.f k n l g) (n, srt (l.map h)) := by
  unfold impl_Crowd_moved.f mapped_G.f
  refine Ev.bind (f := fun k t => (slices_Sort_int_int.f k t).bind fun t => some (n, t)) (mapped_ev g h l (by omega) hg) ?_
  exact Ev.bind (f := fun _ t => some (n, t)) (sort_ev _ (by simp; omega)) (Ev.now _)

theorem crowd_facts {n : Int} {l : List Int} (h : crowdV n l = true) : (3 ≤ n ∧ n ≤ 12) ∧ (1 ≤ l.length ∧ l.length ≤ 6) ∧ l.Pairwise (· < ·) ∧ ∀ x ∈ l, 0 ≤ x ∧ x ≤ n - 1 := by
  obtain ⟨h1, h2, h3⟩ := crowd_of h
  exact ⟨h1, h2, ris_pw h3, ris_mem h3⟩

theorem trn_len (n s : Int) (l : List Int) : (trn n s l).length = l.length := by simp [trn, srt_len]
theorem mir_len (n s : Int) (l : List Int) : (mir n s l).length = l.length := by simp [mir, srt_len]

/-- One list before another one of the same length. -/
def lxl : List Int → List Int → Bool
  | x :: xs, y :: ys => if x = y then lxl xs ys else decide (x < y)
  | _, _ => false
theorem lxl_cons (x y : Int) (xs ys : List Int) : lxl (x :: xs) (y :: ys) = if x = y then lxl xs ys else decide (x < y) := rfl
def cmpL : List Int → List Int → Int
  | x :: xs, y :: ys => if x = y then cmpL xs ys else if x < y then -1 else 1
  | _, _ => 0
theorem cmpL_cons (x y : Int) (xs ys : List Int) : cmpL (x :: xs) (y :: ys) = if x = y then cmpL xs ys else if x < y then -1 else 1 := rfl
theorem cmpL_lxl (a b : List Int) (he : a.length = b.length) : cmpL a b = if lxl a b = true then -1 else if lxl b a = true then 1 else 0 := by
  induction a generalizing b with
  | nil => cases b <;> simp_all [cmpL, lxl]
  | cons x xs ih =>
    cases b with
    | nil => simp at he
    | cons y ys =>
      rw [cmpL_cons, lxl_cons, lxl_cons]
      by_cases e : x = y
      · rw [if_pos e, if_pos e, if_pos e.symm]
        exact ih ys (by simpa using he)
      · rw [if_neg e, if_neg e, if_neg (show ¬ y = x from fun h => e h.symm)]
        by_cases h : x < y
        · simp [h]
        · have : y < x := by omega
          simp [h, this]
theorem lxl_asymm (a b : List Int) (h : lxl a b = true) : lxl b a = false := by
  induction a generalizing b with
  | nil => cases b <;> simp_all [lxl]
  | cons x xs ih =>
    cases b with
    | nil => simp [lxl] at h
    | cons y ys =>
      rw [lxl_cons] at h ⊢
      by_cases e : x = y
      · rw [if_pos e] at h
        rw [if_pos e.symm]
        exact ih ys h
      · rw [if_neg e] at h
        rw [if_neg (show ¬ y = x from fun h => e h.symm)]
        have := of_decide_eq_true h
        exact decide_eq_false (by omega)

theorem lxl_irrefl (a : List Int) : lxl a a = false := by
  induction a with
  | nil => rfl
  | cons x xs ih => rw [lxl_cons, if_pos rfl]; exact ih
theorem lxl_trans {a b c : List Int} (hab : a.length = b.length) (hbc : b.length = c.length) (h1 : lxl a b = true) (h2 : lxl b c = true) : lxl a c = true := by
  induction a generalizing b c with
  | nil => cases b <;> simp_all [lxl]
  | cons x xs ih =>
    cases b with
    | nil => simp at hab
    | cons y ys =>
      cases c with
      | nil => simp at hbc
      | cons z zs =>
        rw [lxl_cons] at h1 h2 ⊢
        by_cases e1 : x = y
        · rw [if_pos e1] at h1
          by_cases e2 : y = z
          · rw [if_pos e2] at h2
            rw [if_pos (e1.trans e2)]
            exact ih (by simpa using hab) (by simpa using hbc) h1 h2
          · rw [if_neg e2] at h2
            have := of_decide_eq_true h2
            rw [if_neg (by omega)]
            exact decide_eq_true (by omega)
        · rw [if_neg e1] at h1
          have h3 := of_decide_eq_true h1
          by_cases e2 : y = z
          · rw [if_neg (by omega)]
            exact decide_eq_true (by omega)
          · rw [if_neg e2] at h2
            have := of_decide_eq_true h2
            rw [if_neg (by omega)]
            exact decide_eq_true (by omega)

theorem srt_lt {a : List Int} (h : a.Nodup) : (srt a).Pairwise (· < ·) := by
  have h1 : (srt a).Nodup := (srt_perm a).nodup_iff.2 h
  have h2 := srt_pw a
  exact (h2.and h1).imp (fun ⟨x, y⟩ => by omega)
theorem gT_bd {n s p : Int} (hn : 3 ≤ n) : 0 ≤ gT n s p ∧ gT n s p ≤ n - 1 := by
  unfold gT
  have := Int.emod_nonneg (p + s) (show n ≠ 0 by omega)
  have := Int.emod_lt_of_pos (p + s) (show 0 < n by omega)
  omega
theorem gM_bd {n s p : Int} (hn : 3 ≤ n) : 0 ≤ gM n s p ∧ gM n s p ≤ n - 1 := by
  unfold gM
  have := Int.emod_nonneg (s - p + n) (show n ≠ 0 by omega)
  have := Int.emod_lt_of_pos (s - p + n) (show 0 < n by omega)
  omega
theorem mem_trn {n s x : Int} {l : List Int} : x ∈ trn n s l ↔ ∃ p ∈ l, gT n s p = x := by
  unfold trn
  rw [(srt_perm _).mem_iff, List.mem_map]
theorem mem_mir {n s x : Int} {l : List Int} : x ∈ mir n s l ↔ ∃ p ∈ l, gM n s p = x := by
  unfold mir
  rw [(srt_perm _).mem_iff, List.mem_map]
theorem mir_ok {n s : Int} {l : List Int} (hn : 3 ≤ n ∧ n ≤ 12) (h : l.Pairwise (· < ·)) (hm : ∀ x ∈ l, 0 ≤ x ∧ x ≤ n - 1) : (mir n s l).Pairwise (· < ·) ∧ ∀ x ∈ mir n s l, 0 ≤ x ∧ x ≤ n - 1 := by
  refine ⟨srt_lt (gM_nodup hn h hm), fun x hx => ?_⟩
  obtain ⟨p, hp, rfl⟩ := mem_mir.1 hx
  exact gM_bd (by omega)
theorem trn_zero {n : Int} {l : List Int} (h : l.Pairwise (· < ·)) (hm : ∀ x ∈ l, 0 ≤ x ∧ x ≤ n - 1) : trn n 0 l = l := by
  have e : l.map (gT n 0) = l := by
    conv => rhs; rw [← List.map_id l]
    refine List.map_congr_left (fun x hx => ?_)
    have := hm x hx
    unfold gT
    rw [Int.add_zero, Int.emod_eq_of_lt (by omega) (by omega)]
    rfl
  unfold trn
  rw [e]
  exact srt_id (h.imp (fun h => by omega))
def best2 (b c : List Int) : List Int := if lxl c b = true then c else b
def formAt (n : Int) (l : List Int) : Nat → List Int
  | 0 => l
  | i + 1 => best2 (best2 (formAt n l i) (trn n (i : Int) l)) (trn n (i : Int) (mir n (n - 1) l))
theorem best2_len {b c : List Int} (h : c.length = b.length) : (best2 b c).length = b.length := by
  unfold best2; split
  · exact h
  · rfl
theorem formAt_len (n : Int) (l : List Int) (i : Nat) : (formAt n l i).length = l.length := by
  induction i with
  | zero => rfl
  | succ i ih =>
    unfold formAt
    rw [best2_len (by rw [best2_len (by rw [trn_len, ih]), trn_len, mir_len, ih]), best2_len (by rw [trn_len, ih]), ih]
/-- What is not before the best stays so. -/
theorem best2_keep {x b c : List Int} (hx : x.length = b.length) (hc : c.length = b.length) (h : lxl x b = false) : lxl x (best2 b c) = false := by
  unfold best2
  split
  · rename_i hcb
    cases e : lxl x c with
    | false => rfl
    | true => rw [lxl_trans (hx.trans hc.symm) hc e hcb] at h; cases h
  · exact h
theorem best2_new {b c : List Int} : lxl c (best2 b c) = false := by
  unfold best2
  split
  · exact lxl_irrefl c
  · rename_i h; simpa using h
theorem formAt_le (n : Int) (l : List Int) (i j : Nat) (hj : j < i) : lxl (trn n (j : Int) l) (formAt n l i) = false := by
  induction i with
  | zero => omega
  | succ i ih =>
    have hl := formAt_len n l i
    unfold formAt
    refine best2_keep ?_ ?_ ?_
    · rw [best2_len (by rw [trn_len, hl]), trn_len, hl]
    · rw [best2_len (by rw [trn_len, hl]), trn_len, mir_len, hl]
    rcases Nat.lt_or_ge j i with h | h
    · exact best2_keep (by rw [trn_len, hl]) (by rw [trn_len, hl]) (ih h)
    · obtain rfl : j = i := by omega
      exact best2_new
theorem form_head {n : Int} {l : List Int} (hv : crowdV n l = true) (h : formAt n l n.toNat = l) : rd l 0 = 0 := by
  obtain ⟨hn, hl, hp, hm⟩ := crowd_facts hv
  have h0 : 0 < l.length := by omega
  have hm0 := hm _ (mem_of_rd h0)
  have e0 : rd l ((0 : Nat) : Int) = rd l 0 := rfl
  rw [e0] at hm0
  by_cases hz : rd l 0 = 0
  · exact hz
  exfalso
  have h1 := formAt_le n l n.toNat (n - rd l 0).toNat (by omega)
  rw [h, Int.toNat_of_nonneg (by omega)] at h1
  have hmem : (0 : Int) ∈ trn n (n - rd l 0) l := by
    rw [mem_trn]
    refine ⟨rd l 0, by rw [← e0]; exact mem_of_rd h0, ?_⟩
    unfold gT
    rw [show rd l 0 + (n - rd l 0) = n by omega, Int.emod_self]
  have hpw := srt_pw (l.map (gT n (n - rd l 0)))
  have hlen := trn_len n (n - rd l 0) l
  cases ht : trn n (n - rd l 0) l with
  | nil => rw [ht] at hmem; simp at hmem
  | cons a r =>
    have ha : a = 0 := by
      have hb : 0 ≤ a := by
        have : a ∈ trn n (n - rd l 0) l := by rw [ht]; exact List.mem_cons_self
        obtain ⟨p, hp', rfl⟩ := mem_trn.1 this
        exact (gT_bd (by omega)).1
      have hpw2 : (a :: r).Pairwise (· ≤ ·) := by rw [← ht]; exact hpw
      rw [List.pairwise_cons] at hpw2
      rw [ht] at hmem
      rcases List.mem_cons.1 hmem with e | e
      · exact e.symm
      · have := hpw2.1 0 e; omega
    rw [ht] at h1
    cases l with
    | nil => simp at h0
    | cons y ys =>
      have hy : rd (y :: ys) 0 = y := rfl
      rw [hy] at hz hm0
      rw [lxl_cons, if_neg (by omega)] at h1
      have := of_decide_eq_false h1
      omega

theorem specTurned_ev (n s : Int) (l : List Int) (hn : 3 ≤ n ∧ n ≤ 12) (hs : 0 ≤ s ∧ s ≤ n) (hl : l.length ≤ 12) (h : l.Pairwise (· < ·)) (hm : ∀ x ∈ l, 0 ≤ x ∧ x ≤ n - 1) : Ev (fun k => spec_l10Turned.f k n l s) (n, trn n s l) := by
  have hnd := gT_nodup (s := s) hn h hm
  have key := down (P := fun i => Ev (fun k => spec_l10Turned.l0 k s (i : Int) n l n (srt ((l.take i).map (gT n s)))) (n, trn n s l)) (n := l.length)
    (ev_now (fun k => by simp only [spec_l10Turned.l0]; rw [if_neg (by omega), List.take_length]; rfl))
    (fun i hi ih => by
      have hp := hm _ (mem_of_rd hi)
      refine Ev.step (f := fun k => (spec_l1Put.f k (srt ((l.take i).map (gT n s))) (gT n s (rd l (i : Int)))).bind fun t => spec_l10Turned.l0 k s ((i + 1 : Nat) : Int) n l n t) (fun k => ?_) ?_
      · simp only [spec_l10Turned.l0]
        rw [if_pos (by omega), if_pos (by omega), if_neg (by omega), gT_eq hn hs hp, w64s hi (by omega)]
      · refine Ev.bind (put_ev _ _ ?_ ?_) ?_
        · intro hmem
          exact nodup_step hi hnd ((srt_perm _).mem_iff.1 hmem)
        · rw [srt_len]; simp; omega
        · rw [srt_take_step hi hnd]; exact ih)
  have k0 := key 0 (by omega)
  unfold spec_l10Turned.f
  simpa [srt] using k0

theorem specMirror_ev (n s : Int) (l : List Int) (hn : 3 ≤ n ∧ n ≤ 12) (hs : 0 ≤ s ∧ s ≤ n) (hl : l.length ≤ 12) (h : l.Pairwise (· < ·)) (hm : ∀ x ∈ l, 0 ≤ x ∧ x ≤ n - 1) : Ev (fun k => spec_l10Mirror.f k n l s) (n, mir n s l) := by
  have hnd := gM_nodup (s := s) hn h hm
  have key := down (P := fun i => Ev (fun k => spec_l10Mirror.l0 k s (i : Int) n l n (srt ((l.take i).map (gM n s)))) (n, mir n s l)) (n := l.length)
    (ev_now (fun k => by simp only [spec_l10Mirror.l0]; rw [if_neg (by omega), List.take_length]; rfl))
    (fun i hi ih => by
      have hp := hm _ (mem_of_rd hi)
      refine Ev.step (f := fun k => (spec_l1Put.f k (srt ((l.take i).map (gM n s))) (gM n s (rd l (i : Int)))).bind fun t => spec_l10Mirror.l0 k s ((i + 1 : Nat) : Int) n l n t) (fun k => ?_) ?_
      · simp only [spec_l10Mirror.l0]
        rw [if_pos (by omega), if_pos (by omega), if_neg (by omega), gM_eq hn hs hp, w64s hi (by omega)]
      · refine Ev.bind (put_ev _ _ ?_ ?_) ?_
        · intro hmem
          exact nodup_step hi hnd ((srt_perm _).mem_iff.1 hmem)
        · rw [srt_len]; simp; omega
        · rw [srt_take_step hi hnd]; exact ih)
  have k0 := key 0 (by omega)
  unfold spec_l10Mirror.f
  simpa [srt] using k0

theorem implTurned_ev (n s : Int) (l : List Int) (hn : 3 ≤ n ∧ n ≤ 12) (hs : 0 ≤ s ∧ s ≤ n) (hl : l.length ≤ 12) (hm : ∀ x ∈ l, 0 ≤ x ∧ x ≤ n - 1) : Ev (fun k => impl_Crowd_turned.f k n l s) (n, trn n s l) := by
  unfold impl_Crowd_turned.f moved_77.f
  refine Ev.bind (f := fun _ t => some (t.1, t.2)) (moved_ev n l _ (gT n s) hl ?_) (Ev.now _)
  intro x hx
  unfold clo_77
  rw [if_neg (by omega), gT_eq hn hs (hm x hx)]

theorem implMirrored_ev (n : Int) (l : List Int) (hn : 3 ≤ n ∧ n ≤ 12) (hl : l.length ≤ 12) (hm : ∀ x ∈ l, 0 ≤ x ∧ x ≤ n - 1) : Ev (fun k => impl_Crowd_mirrored.f k n l) (n, mir n (n - 1) l) := by
  unfold impl_Crowd_mirrored.f moved_76.f
  refine Ev.bind (f := fun _ t => some (t.1, t.2)) (moved_ev n l _ (gM n (n - 1)) hl ?_) (Ev.now _)
  intro x hx
  have := hm x hx
  unfold clo_76 gM
  rw [w64 (x := n - 1) (by omega) (by omega), w64 (by omega) (by omega)]
  congr 1
  rw [show n - 1 - x + n = (n - 1 - x) + n * 1 by omega, Int.add_mul_emod_self_left, Int.emod_eq_of_lt (by omega) (by omega)]

theorem l10Less_ev (a b : List Int) (he : a.length = b.length) (hl : a.length ≤ 1048576) : Ev (fun k => spec_l10Less.f k a b) (lxl a b) := by
  have key := down (P := fun i => Ev (fun k => spec_l10Less.l0 k a b (i : Int)) (lxl (a.drop i) (b.drop i))) (n := a.length)
    (ev_now (fun k => by simp only [spec_l10Less.l0]; rw [if_neg (by omega)]; simp [lxl]))
    (fun i hi ih => by
      rw [drop_cons hi, drop_cons (l := b) (by omega), lxl_cons]
      by_cases e : rd a (i : Int) = rd b (i : Int)
      · rw [if_pos e]
        refine Ev.step (fun k => ?_) ih
        simp only [spec_l10Less.l0]
        rw [if_pos (by omega), if_pos (by omega), if_pos (by omega), if_pos e, w64s hi (by omega)]
      · rw [if_neg e]
        refine ev_now (fun k => ?_)
        simp only [spec_l10Less.l0]
        rw [if_pos (by omega), if_pos (by omega), if_pos (by omega), if_neg e])
  exact key 0 (by omega)

theorem isNaN_eq (a : Int) : cmp_isNaN_int.f a = some false := by unfold cmp_isNaN_int.f; simp
theorem cmpCompare_eq (a b : Int) : cmp_Compare_int.f a b = some (if a = b then 0 else if a < b then -1 else 1) := by
  unfold cmp_Compare_int.f
  simp only [isNaN_eq, Option.bind_some, Bool.false_eq_true, if_false]
  by_cases h1 : a < b
  · rw [if_pos h1, if_neg (by omega), if_pos h1]
  · rw [if_neg h1]
    by_cases h2 : a > b
    · rw [if_pos h2, if_neg (by omega), if_neg h1]
    · rw [if_neg h2, if_pos (by omega)]
theorem compare_ev (a b : List Int) (he : a.length = b.length) (hl : a.length ≤ 1048576) : Ev (fun k => slices_Compare_int_int.f k a b) (cmpL a b) := by
  have key := down (P := fun i => Ev (fun k => slices_Compare_int_int.l0 k a b a (a.length : Int) (i : Int)) (cmpL (a.drop i) (b.drop i))) (n := a.length)
    (ev_now (fun k => by simp only [slices_Compare_int_int.l0]; rw [if_neg (by omega), if_neg (by omega)]; simp [cmpL]))
    (fun i hi ih => by
      rw [drop_cons hi, drop_cons (l := b) (by omega), cmpL_cons]
      by_cases e : rd a (i : Int) = rd b (i : Int)
      · rw [if_pos e]
        refine Ev.step (fun k => ?_) ih
        simp only [slices_Compare_int_int.l0, cmpCompare_eq, Option.bind_some]
        rw [if_pos (by omega), if_pos (by omega), if_pos (by omega), if_neg (by omega), if_pos (by omega), if_pos e, if_pos rfl, w64s hi (by omega)]
      · rw [if_neg e]
        refine ev_now (fun k => ?_)
        simp only [slices_Compare_int_int.l0, cmpCompare_eq, Option.bind_some]
        rw [if_pos (by omega), if_pos (by omega), if_pos (by omega), if_neg (by omega), if_pos (by omega), if_neg e]
        by_cases h1 : rd a (i : Int) < rd b (i : Int)
        · rw [if_pos h1, if_neg (by decide)]
        · rw [if_neg h1, if_neg (by decide)])
  exact key 0 (by omega)

theorem specForm_ev (n : Int) (l : List Int) (hv : crowdV n l = true) : Ev (fun k => spec_l10Form.f k n l) (n, formAt n l n.toNat) := by
  obtain ⟨hn, hl, hp, hm⟩ := crowd_facts hv
  obtain ⟨mp, mm⟩ := mir_ok (s := n - 1) hn hp hm
  have ml := mir_len n (n - 1) l
  unfold spec_l10Form.f
  rw [w64 (x := n - 1) (by omega) (by omega)]
  refine Ev.bind (specMirror_ev n (n - 1) l hn (by omega) (by omega) hp hm) ?_
  dsimp only
  have key := down (P := fun (i : Nat) => Ev (fun k => spec_l10Form.l0 k (i : Int) n l n (formAt n l i) n (mir n (n - 1) l)) (n, formAt n l n.toNat)) (n := n.toNat)
    (ev_now (fun k => by
      simp only [spec_l10Form.l0, spec_l1Own.f, Option.bind_some, List.nil_append]
      rw [if_neg (by omega), if_pos (by rw [formAt_len]; simp; omega)]
      rfl))
    (fun i hi ih => by
      have fl := formAt_len n l i
      have tl := trn_len n (i : Int) l
      refine Ev.step (f := fun k => (spec_l10Turned.f k n l (i : Int)).bind fun bt180 => ((spec_l10Less.f k bt180.2 (formAt n l i)).bind fun t185 => (if t185 = true then (spec_l10Form.j1 k (i : Int) n l bt180.1 bt180.2 n (mir n (n - 1) l)) else (spec_l10Form.j1 k (i : Int) n l n (formAt n l i) n (mir n (n - 1) l))))) (fun k => by simp only [spec_l10Form.l0]; rw [if_pos (by omega)]; rfl) ?_
      refine Ev.bind (specTurned_ev n i l hn (by omega) (by omega) hp hm) ?_
      dsimp only
      refine Ev.bind (l10Less_ev _ _ (by rw [tl, fl]) (by omega)) ?_
      have hb : Ev (fun k => spec_l10Form.j1 k (i : Int) n l n (best2 (formAt n l i) (trn n (i : Int) l)) n (mir n (n - 1) l)) (n, formAt n l n.toNat) := by
        have bl := best2_len (b := formAt n l i) (c := trn n (i : Int) l) (by rw [tl, fl])
        refine Ev.step (f := fun k => (spec_l10Turned.f k n (mir n (n - 1) l) (i : Int)).bind fun bt186 => ((spec_l10Less.f k bt186.2 (best2 (formAt n l i) (trn n (i : Int) l))).bind fun t191 => (if t191 = true then (spec_l10Form.l0 k ((i + 1 : Nat) : Int) n l bt186.1 bt186.2 n (mir n (n - 1) l)) else (spec_l10Form.l0 k ((i + 1 : Nat) : Int) n l n (best2 (formAt n l i) (trn n (i : Int) l)) n (mir n (n - 1) l))))) (fun k => by simp only [spec_l10Form.j1]; rw [w64s hi (by omega)]; rfl) ?_
        refine Ev.bind (specTurned_ev n i (mir n (n - 1) l) hn (by omega) (by omega) mp mm) ?_
        dsimp only
        refine Ev.bind (l10Less_ev _ _ (by rw [trn_len, ml, bl, fl]) (by rw [trn_len]; omega)) ?_
        have e : formAt n l (i + 1) = best2 (best2 (formAt n l i) (trn n (i : Int) l)) (trn n (i : Int) (mir n (n - 1) l)) := rfl
        rw [e] at ih
        generalize best2 (formAt n l i) (trn n (i : Int) l) = b1 at *
        unfold best2 at ih
        by_cases h : lxl (trn n (i : Int) (mir n (n - 1) l)) b1 = true
        · rw [if_pos h] at ih; exact ev_pos h ih
        · rw [if_neg h] at ih; exact ev_neg h ih
      unfold best2 at hb
      by_cases h : lxl (trn n (i : Int) l) (formAt n l i) = true
      · rw [if_pos h] at hb; exact ev_pos h hb
      · rw [if_neg h] at hb; exact ev_neg h hb)
  exact key 0 (by omega)
theorem cmpL_neg {a b : List Int} (h : a.length = b.length) : cmpL a b < 0 ↔ lxl a b = true := by
  rw [cmpL_lxl a b h]
  by_cases h1 : lxl a b = true
  · simp [h1]
  · rw [if_neg h1]
    constructor
    · intro h2; split at h2 <;> omega
    · intro h2; exact absurd h2 h1
theorem implForm_ev (n : Int) (l : List Int) (hv : crowdV n l = true) : Ev (fun k => impl_Crowd_form.f k n l) (n, formAt n l n.toNat) := by
  obtain ⟨hn, hl, hp, hm⟩ := crowd_facts hv
  obtain ⟨mp, mm⟩ := mir_ok (s := n - 1) hn hp hm
  have ml := mir_len n (n - 1) l
  unfold impl_Crowd_form.f
  refine Ev.bind (implTurned_ev n 0 l hn (by omega) (by omega) hm) ?_
  rw [trn_zero hp hm]
  dsimp only
  have key := down (P := fun (i : Nat) => Ev (fun k => impl_Crowd_form.l0 k n (i : Int) n l n (formAt n l i)) (n, formAt n l n.toNat)) (n := n.toNat)
    (ev_now (fun k => by simp only [impl_Crowd_form.l0]; rw [if_neg (by omega)]))
    (fun i hi ih => by
      have fl := formAt_len n l i
      have tl := trn_len n (i : Int) l
      have bl := best2_len (b := formAt n l i) (c := trn n (i : Int) l) (by rw [tl, fl])
      have e : formAt n l (i + 1) = best2 (best2 (formAt n l i) (trn n (i : Int) l)) (trn n (i : Int) (mir n (n - 1) l)) := rfl
      rw [e] at ih
      refine Ev.step (f := fun k => (impl_Crowd_turned.f k n l (i : Int)).bind fun bt256 => ((impl_Crowd_mirrored.f k n l).bind fun bt260 => ((impl_Crowd_turned.f k bt260.1 bt260.2 (i : Int)).bind fun bt264 => (impl_Crowd_form.l1 k n (i : Int) [(⟨bt256.1, bt256.2⟩ : S30), (⟨bt264.1, bt264.2⟩ : S30)] 2 0 n l n (formAt n l i))))) (fun k => by simp only [impl_Crowd_form.l0]; rw [if_pos (by omega)]; rfl) ?_
      refine Ev.bind (implTurned_ev n i l hn (by omega) (by omega) hm) ?_
      refine Ev.bind (implMirrored_ev n l hn (by omega) hm) ?_
      dsimp only
      refine Ev.bind (implTurned_ev n i (mir n (n - 1) l) hn (by omega) (by omega) mm) ?_
      dsimp only
      -- the second one
      have h2 : Ev (fun k => impl_Crowd_form.l1 k n (i : Int) [(⟨n, trn n (i : Int) l⟩ : S30), (⟨n, trn n (i : Int) (mir n (n - 1) l)⟩ : S30)] 2 1 n l n (best2 (formAt n l i) (trn n (i : Int) l))) (n, formAt n l n.toNat) := by
        generalize hb1 : best2 (formAt n l i) (trn n (i : Int) l) = b1 at *
        have h3 : Ev (fun k => impl_Crowd_form.l1 k n (i : Int) [(⟨n, trn n (i : Int) l⟩ : S30), (⟨n, trn n (i : Int) (mir n (n - 1) l)⟩ : S30)] 2 2 n l n (best2 b1 (trn n (i : Int) (mir n (n - 1) l)))) (n, formAt n l n.toNat) := by
          refine Ev.step (fun k => ?_) ih
          simp only [impl_Crowd_form.l1]
          rw [if_neg (by omega), w64s hi (by omega)]
        refine Ev.step (f := fun k => (slices_Compare_int_int.f k (trn n (i : Int) (mir n (n - 1) l)) b1).bind fun t273 => (if t273 < 0 then (impl_Crowd_form.l1 k n (i : Int) [(⟨n, trn n (i : Int) l⟩ : S30), (⟨n, trn n (i : Int) (mir n (n - 1) l)⟩ : S30)] 2 2 n l n (trn n (i : Int) (mir n (n - 1) l))) else (impl_Crowd_form.l1 k n (i : Int) [(⟨n, trn n (i : Int) l⟩ : S30), (⟨n, trn n (i : Int) (mir n (n - 1) l)⟩ : S30)] 2 2 n l n b1))) (fun k => by
          simp only [impl_Crowd_form.l1]
          rw [if_pos (by omega), if_pos (by omega), if_pos (by simp), w64 (x := (1 : Int) + 1) (by omega) (by omega)]
          rfl) ?_
        refine Ev.bind (compare_ev _ _ (by rw [trn_len, ml, bl, fl]) (by rw [trn_len]; omega)) ?_
        have hc := cmpL_neg (a := trn n (i : Int) (mir n (n - 1) l)) (b := b1) (by rw [trn_len, ml, bl, fl])
        unfold best2 at h3
        by_cases h : lxl (trn n (i : Int) (mir n (n - 1) l)) b1 = true
        · rw [if_pos h] at h3; exact ev_pos (hc.2 h) h3
        · rw [if_neg h] at h3; exact ev_neg (fun h4 => h (hc.1 h4)) h3
      refine Ev.step (f := fun k => (slices_Compare_int_int.f k (trn n (i : Int) l) (formAt n l i)).bind fun t273 => (if t273 < 0 then (impl_Crowd_form.l1 k n (i : Int) [(⟨n, trn n (i : Int) l⟩ : S30), (⟨n, trn n (i : Int) (mir n (n - 1) l)⟩ : S30)] 2 1 n l n (trn n (i : Int) l)) else (impl_Crowd_form.l1 k n (i : Int) [(⟨n, trn n (i : Int) l⟩ : S30), (⟨n, trn n (i : Int) (mir n (n - 1) l)⟩ : S30)] 2 1 n l n (formAt n l i)))) (fun k => by
        simp only [impl_Crowd_form.l1]
        rw [if_pos (by omega), if_pos (by omega), if_pos (by simp), w64 (x := (0 : Int) + 1) (by omega) (by omega)]
        rfl) ?_
      refine Ev.bind (compare_ev _ _ (by rw [tl, fl]) (by omega)) ?_
      have hc := cmpL_neg (a := trn n (i : Int) l) (b := formAt n l i) (by rw [tl, fl])
      unfold best2 at h2
      by_cases h : lxl (trn n (i : Int) l) (formAt n l i) = true
      · rw [if_pos h] at h2; exact ev_pos (hc.2 h) h2
      · rw [if_neg h] at h2; exact ev_neg (fun h4 => h (hc.1 h4)) h2)
  exact key 0 (by omega)

theorem l1Same_ev (a b : List Int) (ha : a.length ≤ 1048576) : Ev (fun k => spec_l1Same.f k a b) (decide (a = b)) := by
  unfold spec_l1Same.f
  by_cases he : a.length = b.length
  · refine ev_pos (by omega) ?_
    have key := down (P := fun i => Ev (fun k => spec_l1Same.l0 k a b (i : Int)) (decide (a.drop i = b.drop i))) (n := a.length)
      (ev_now (fun k => by simp only [spec_l1Same.l0]; rw [if_neg (by omega)]; simp [he]))
      (fun i hi ih => by
        rw [drop_cons hi, drop_cons (l := b) (by omega)]
        by_cases e : rd a (i : Int) = rd b (i : Int)
        · rw [e]
          simp only [List.cons.injEq, true_and]
          refine Ev.step (fun k => ?_) ih
          simp only [spec_l1Same.l0]
          rw [if_pos (by omega), if_pos (by omega), if_pos (by omega), if_pos e, w64s hi (by omega)]
        · rw [decide_eq_false (by simp [e])]
          refine ev_now (fun k => ?_)
          simp only [spec_l1Same.l0]
          rw [if_pos (by omega), if_pos (by omega), if_pos (by omega), if_neg e])
    exact key 0 (by omega)
  · rw [decide_eq_false (fun h => he (by rw [h]))]
    exact ev_neg (by omega) (Ev.now _)

theorem slEqual_ev (a b : List Int) (ha : a.length ≤ 1048576) : Ev (fun k => slices_Equal_int_int.f k a b) (decide (a = b)) := by
  unfold slices_Equal_int_int.f
  by_cases he : a.length = b.length
  · refine ev_pos (by omega) ?_
    have key := down (P := fun i => Ev (fun k => slices_Equal_int_int.l0 k a b (a.length : Int) (i : Int)) (decide (a.drop i = b.drop i))) (n := a.length)
      (ev_now (fun k => by simp only [slices_Equal_int_int.l0]; rw [if_neg (by omega)]; simp [he]))
      (fun i hi ih => by
        rw [drop_cons hi, drop_cons (l := b) (by omega)]
        by_cases e : rd a (i : Int) = rd b (i : Int)
        · rw [e]
          simp only [List.cons.injEq, true_and]
          refine Ev.step (fun k => ?_) ih
          simp only [slices_Equal_int_int.l0]
          rw [if_pos (by omega), if_pos (by omega), if_pos (by omega), if_pos (by omega), if_pos e, w64s hi (by omega)]
        · rw [decide_eq_false (by simp [e])]
          refine ev_now (fun k => ?_)
          simp only [slices_Equal_int_int.l0]
          rw [if_pos (by omega), if_pos (by omega), if_pos (by omega), if_pos (by omega), if_neg e])
    exact key 0 (by omega)
  · rw [decide_eq_false (fun h => he (by rw [h]))]
    exact ev_neg (by omega) (Ev.now _)
theorem implSame_ev (n m : Int) (a b : List Int) (ha : a.length ≤ 1048576) : Ev (fun k => impl_Crowd_same.f k n a m b) (decide (n = m ∧ a = b)) := by
  unfold impl_Crowd_same.f
  by_cases h : n = m
  · refine ev_pos h ?_
    simp only [h, true_and]
    exact Ev.bind (f := fun _ t => some t) (slEqual_ev a b ha) (Ev.now _)
  · rw [decide_eq_false (fun e => h e.1)]
    exact ev_neg h (Ev.now _)

theorem toIntS_ev (l : List Int) (hl : l.length ≤ 1048576) : Ev (fun k => laws_toIntS.f k l) l := by
  have key := down (P := fun i => Ev (fun k => laws_toIntS.l0 k l (tab l.length (fun q => if q < i then rd l (q : Int) else 0)) (i : Int)) l) (n := l.length)
    (ev_now (fun k => by
      simp only [laws_toIntS.l0]
      rw [if_neg (by omega)]
      congr 1
      exact (tab_ext rfl (fun q hq => by rw [if_pos hq])).symm))
    (fun i hi ih => by
      refine Ev.step (fun k => ?_) ih
      simp only [laws_toIntS.l0]
      rw [if_pos (by omega), if_pos (by omega), if_pos (by rw [tab_len]; omega), w64s hi (by omega), Int.toNat_natCast, tab_set]
      congr 1
      refine tab_congr (fun q _ => ?_)
      by_cases e : q = i
      · subst e; rw [if_pos rfl, if_pos (by omega)]
      · rw [if_neg e]
        by_cases e2 : q < i
        · rw [if_pos e2, if_pos (by omega)]
        · rw [if_neg e2, if_neg (by omega)])
  refine Ev.congr (fun k => ?_) (key 0 (by omega))
  unfold laws_toIntS.f
  rw [if_pos (by omega), if_pos (by omega), Int.toNat_natCast, tab_rep]
  simp

theorem eqIntS_ev (a b : List Int) (hl : a.length ≤ 1152921504606846976) : Ev (fun k => laws_eqIntS.f k a b) (decide (a = b)) := by
  by_cases h : a.length = b.length
  · have key := down (P := fun i => Ev (fun k => laws_eqIntS.l0 k a b (i : Int)) (decide (a.drop i = b.drop i))) (n := a.length)
      (ev_now (fun k => by
        simp only [laws_eqIntS.l0]
        rw [if_neg (by omega)]
        simp
        omega))
      (fun i hi ih => by
        rw [drop_cons hi, drop_cons (l := b) (by omega)]
        by_cases e : rd a (i : Int) = rd b (i : Int)
        · have e2 : decide (rd a (i : Int) :: a.drop (i + 1) = rd b (i : Int) :: b.drop (i + 1)) = decide (a.drop (i + 1) = b.drop (i + 1)) := by simp [e]
          rw [e2]
          refine Ev.step (fun k => ?_) ih
          simp only [laws_eqIntS.l0]
          rw [if_pos (by omega), if_pos (by omega), if_pos (by omega), if_pos e, w64s hi hl]
        · refine ev_now (fun k => ?_)
          simp only [laws_eqIntS.l0]
          rw [if_pos (by omega), if_pos (by omega), if_pos (by omega), if_neg e]
          simp [e])
    refine Ev.congr (fun k => ?_) (key 0 (by omega))
    unfold laws_eqIntS.f
    rw [if_pos (by omega)]
    rfl
  · refine Ev.congr (fun k => ?_) (Ev.now _)
    unfold laws_eqIntS.f
    rw [if_neg (by omega)]
    simp
    intro e
    exact h (by rw [e])
theorem eqIntS_self (a : List Int) (hl : a.length ≤ 1152921504606846976) : Ev (fun k => laws_eqIntS.f k a a) true := by
  have := eqIntS_ev a a hl
  simpa using this

theorem szIntS_eq (l : List Int) (a : Int) (h0 : 0 ≤ a) (h1 : a ≤ 1048576) (hl : l.length ≤ maxLen) : laws_szIntS.f l a = some (if a - (l.length : Int) < 0 then -1 else a - (l.length : Int)) := by
  have hm : l.length ≤ 9223372036854775807 := by simpa [maxLen] using hl
  unfold laws_szIntS.f
  rw [w64 (by omega) (by omega)]
  split <;> rfl

theorem toCrowd_ev (s : Int) (l : List Int) (hl : l.length ≤ 1048576) : Ev (fun k => laws_toCrowd.f k s l) (s, l) :=
  Ev.bind (f := fun _ t => some (s, t)) (toIntS_ev l hl) (Ev.now _)
theorem eqCrowd_self (s : Int) (l : List Int) (hl : l.length ≤ 1152921504606846976) : Ev (fun k => laws_eqCrowd.f k s l s l) true := by
  unfold laws_eqCrowd.f
  refine ev_pos rfl (Ev.bind (eqIntS_self l hl) ?_)
  exact ev_pos rfl (Ev.now _)
theorem szCrowd_eq (s : Int) (l : List Int) (hl : l.length ≤ maxLen) : laws_szCrowd.f s l 1048576 = some (if 1048576 - (l.length : Int) < 0 then -1 else 1048576 - (l.length : Int)) := by
  unfold laws_szCrowd.f
  rw [szIntS_eq l 1048576 (by omega) (by omega) hl, Option.bind_some]
  by_cases h : 1048576 - (l.length : Int) < 0
  · rw [if_pos h]; rfl
  · rw [if_neg h, if_neg h]

theorem within_eq (a b c : Int) : impl_within.f a b c = some (inR b c a) := by
  unfold impl_within.f inR
  by_cases h : a ≥ b
  · have h' : b ≤ a := h
    rw [if_pos h]; simp [h']
  · have h' : ¬ b ≤ a := h
    rw [if_neg h]; simp [h']

theorem l1In_eq (a b c : Int) : spec_l1In.f a b c = some (inR b c a) := by
  unfold spec_l1In.f inR
  by_cases h : a ≥ b
  · have h' : b ≤ a := h
    rw [if_pos h]; simp [h']
  · have h' : ¬ b ≤ a := h
    rw [if_neg h]; simp [h']

theorem l1Rising_ev (l : List Int) (lo hi : Int) (hl : l.length ≤ 1048576) : Ev (fun k => spec_l1Rising.f k l lo hi) (ris l lo hi 0) := by
  have key := down (P := fun i => Ev (fun k => spec_l1Rising.l0 k l lo hi (i : Int)) (ris l lo hi i)) (n := l.length)
    (ev_now (fun k => by simp only [spec_l1Rising.l0]; rw [if_neg (by omega), ris_end]))
    (fun i hi' ih => by
      rw [ris_step hi']
      by_cases hc : risC l lo hi i
      · rw [decide_eq_true hc, Bool.true_and]
        refine Ev.step (fun k => ?_) ih
        simp only [spec_l1Rising.l0, l1In_eq, Option.bind_some]
        rw [if_pos (by omega), if_pos (by omega), if_pos (inR_iff.2 ⟨hc.1, hc.2.1⟩), w64s hi' (by omega)]
        by_cases h0 : 0 < i
        · have h3 := hc.2.2 h0
          rw [if_pos (by omega), w64 (by omega) (by omega), show (i : Int) - 1 = ((i - 1 : Nat) : Int) by omega, if_pos (by omega), if_pos (by omega), if_neg (by omega)]
        · rw [if_neg (by omega)]
      · rw [decide_eq_false hc, Bool.false_and]
        refine ev_now (fun k => ?_)
        simp only [spec_l1Rising.l0, l1In_eq, Option.bind_some]
        rw [if_pos (by omega), if_pos (by omega)]
        by_cases h1 : inR lo hi (rd l (i : Int)) = true
        · have h2 := inR_iff.1 h1
          rw [if_pos h1]
          by_cases h0 : 0 < i
          · rw [if_pos (by omega), w64 (by omega) (by omega), show (i : Int) - 1 = ((i - 1 : Nat) : Int) by omega, if_pos (by omega), if_pos (by omega)]
            have h3 : ¬ rd l ((i - 1 : Nat) : Int) < rd l (i : Int) := fun h => hc ⟨h2.1, h2.2, fun _ => h⟩
            rw [if_pos (by omega)]
          · exact absurd ⟨h2.1, h2.2, fun h => absurd h h0⟩ hc
        · rw [if_neg h1])
  exact key 0 (by omega)

theorem l10Crowd_ev (s : Int) (l : List Int) (hl : l.length ≤ 1048576) : Ev (fun k => spec_l10Crowd.f k s l) (crowdV s l) := by
  unfold spec_l10Crowd.f crowdV
  simp only [l1In_eq, Option.bind_some]
  cases h1 : inR 3 12 s with
  | false => exact ev_neg (by simp) (Ev.now _)
  | true =>
    have hs := inR_iff.1 h1
    refine ev_pos rfl ?_
    cases h2 : inR 1 6 (l.length : Int) with
    | false => exact ev_neg (by simp) (Ev.now _)
    | true =>
      refine ev_pos rfl ?_
      rw [w64 (by omega) (by omega), Bool.true_and, Bool.true_and]
      exact Ev.bind (l1Rising_ev l 0 (s - 1) hl) (Ev.now _)

theorem implIsCrowd_ev (s : Int) (l : List Int) (hl : l.length ≤ 1048576) : Ev (fun k => impl_IsCrowd.f k s l) (crowdV s l) := by
  have key := down (P := fun i => Ev (fun k => impl_IsCrowd.l0 k l (l.length : Int) (i : Int) s l) (ris l 0 (wrap64 (s - 1)) i && (inR 3 12 s && inR 1 6 (l.length : Int)))) (n := l.length)
    (ev_now (fun k => by
      simp only [impl_IsCrowd.l0, within_eq, Option.bind_some]
      rw [if_neg (by omega), ris_end]
      cases inR 3 12 s <;> simp))
    (fun i hi' ih => by
      rw [ris_step hi']
      by_cases hc : risC l 0 (wrap64 (s - 1)) i
      · rw [decide_eq_true hc, Bool.true_and]
        refine Ev.step (fun k => ?_) ih
        simp only [impl_IsCrowd.l0, within_eq, Option.bind_some]
        rw [if_pos (by omega), if_pos (by omega), if_pos (by omega), if_pos (inR_iff.2 ⟨hc.1, hc.2.1⟩), w64s hi' (by omega)]
        by_cases h0 : 0 < i
        · have h3 := hc.2.2 h0
          rw [if_pos (by omega), w64 (x := (i : Int) - 1) (by omega) (by omega), show (i : Int) - 1 = ((i - 1 : Nat) : Int) by omega, if_pos (by omega), if_pos (by omega), if_neg (by omega)]
        · rw [if_neg (by omega)]
      · rw [decide_eq_false hc, Bool.false_and, Bool.false_and]
        refine ev_now (fun k => ?_)
        simp only [impl_IsCrowd.l0, within_eq, Option.bind_some]
        rw [if_pos (by omega), if_pos (by omega), if_pos (by omega)]
        by_cases h1 : inR 0 (wrap64 (s - 1)) (rd l (i : Int)) = true
        · have h2 := inR_iff.1 h1
          rw [if_pos h1]
          by_cases h0 : 0 < i
          · rw [if_pos (by omega), w64 (x := (i : Int) - 1) (by omega) (by omega), show (i : Int) - 1 = ((i - 1 : Nat) : Int) by omega, if_pos (by omega), if_pos (by omega)]
            have h3 : ¬ rd l ((i - 1 : Nat) : Int) < rd l (i : Int) := fun h => hc ⟨h2.1, h2.2, fun _ => h⟩
            rw [if_pos (by omega)]
          · exact absurd ⟨h2.1, h2.2, fun h => absurd h h0⟩ hc
        · rw [if_neg h1])
  have k0 := key 0 (by omega)
  have e : (ris l 0 (wrap64 (s - 1)) 0 && (inR 3 12 s && inR 1 6 (l.length : Int))) = crowdV s l := by
    unfold crowdV
    cases h1 : inR 3 12 s with
    | false => simp
    | true =>
      have hs := inR_iff.1 h1
      rw [w64 (by omega) (by omega)]
      cases inR 1 6 (l.length : Int) <;> simp
  rw [e] at k0
  exact k0

def sameR (n m : Int) (a b : List Int) : Bool × Bool := if crowdV n a = true ∧ crowdV m b = true then (decide (n = m ∧ formAt n a n.toNat = formAt m b m.toNat), true) else (false, false)
theorem implSameForm_ev (n m : Int) (a b : List Int) (ha : a.length ≤ 1048576) (hb : b.length ≤ 1048576) : Ev (fun k => impl_AreSameForm.f k n a m b) (sameR n m a b) := by
  unfold impl_AreSameForm.f sameR
  refine Ev.bind (implIsCrowd_ev n a ha) ?_
  cases h1 : crowdV n a with
  | false =>
    refine ev_neg (by simp) (Ev.step (fun k => by simp only [impl_AreSameForm.j0]; rfl) (ev_pos (by simp) (ev_const (by simp))))
  | true =>
    refine ev_pos rfl ?_
    refine Ev.bind (implIsCrowd_ev m b hb) ?_
    cases h2 : crowdV m b with
    | false => exact Ev.step (fun k => by simp only [impl_AreSameForm.j0]; rfl) (ev_pos (by simp) (ev_const (by simp)))
    | true =>
      refine Ev.step (fun k => by simp only [impl_AreSameForm.j0]; rfl) (ev_neg (by simp) ?_)
      refine Ev.bind (implForm_ev n a h1) (Ev.bind (implForm_ev m b h2) ?_)
      refine Ev.bind (f := fun _ t => some (t, true)) (implSame_ev _ _ _ _ (by rw [formAt_len]; omega)) ?_
      exact ev_const (by simp)
theorem specSameForm_ev (n m : Int) (a b : List Int) (ha : a.length ≤ 1048576) (hb : b.length ≤ 1048576) : Ev (fun k => spec_AreSameForm.f k n a m b) (sameR n m a b) := by
  unfold spec_AreSameForm.f sameR
  refine Ev.bind (l10Crowd_ev n a ha) ?_
  cases h1 : crowdV n a with
  | false =>
    refine ev_neg (by simp) (Ev.step (fun k => by simp only [spec_AreSameForm.j0]; rfl) (ev_pos (by simp) (ev_const (by simp))))
  | true =>
    refine ev_pos rfl ?_
    refine Ev.bind (l10Crowd_ev m b hb) ?_
    cases h2 : crowdV m b with
    | false => exact Ev.step (fun k => by simp only [spec_AreSameForm.j0]; rfl) (ev_pos (by simp) (ev_const (by simp)))
    | true =>
      refine Ev.step (fun k => by simp only [spec_AreSameForm.j0]; rfl) (ev_neg (by simp) ?_)
      by_cases e : n = m
      · refine ev_pos e ?_
        refine Ev.bind (specForm_ev n a h1) (Ev.bind (specForm_ev m b h2) ?_)
        refine Ev.bind (f := fun _ t => some (t, true)) (l1Same_ev _ _ (by rw [formAt_len]; omega)) ?_
        exact ev_const (by simp [e])
      · exact ev_neg e (ev_const (by simp [e]))
theorem szCrowd_gen (s : Int) (l : List Int) (t : Int) (h0 : 0 ≤ t) (h1 : t ≤ 1048576) (hl : l.length ≤ maxLen) : laws_szCrowd.f s l t = some (if t - (l.length : Int) < 0 then -1 else t - (l.length : Int)) := by
  unfold laws_szCrowd.f
  rw [szIntS_eq l t h0 h1 hl, Option.bind_some]
  by_cases h : t - (l.length : Int) < 0
  · rw [if_pos h]; rfl
  · rw [if_neg h, if_neg h]

theorem FnExactAreSameForm : FnExactAreSameFormLeft := by
  intro n a m b _ hma _ _ hmb _
  refine Ev.rounds (g := fun k => laws_FnExactAreSameForm.f k n a m b) ?_
  unfold laws_FnExactAreSameForm.f
  refine ev_bind0 (szCrowd_eq n a hma) ?_
  by_cases h : 1048576 - (a.length : Int) < 0
  · rw [if_pos h]; exact ev_pos (by omega) (Ev.now _)
  rw [if_neg h]
  refine ev_neg h ?_
  refine ev_bind0 (szCrowd_gen m b _ (by omega) (by omega) hmb) ?_
  by_cases h2 : 1048576 - (a.length : Int) - (b.length : Int) < 0
  · rw [if_pos h2]; exact ev_pos (by omega) (Ev.now _)
  rw [if_neg h2]
  refine ev_neg h2 ?_
  have hla : a.length ≤ 1048576 := by omega
  have hlb : b.length ≤ 1048576 := by omega
  repeat (first
    | exact Ev.now _
    | (with_reducible refine Ev.bind (toCrowd_ev _ _ hla) ?_; try dsimp only)
    | (with_reducible refine Ev.bind (toCrowd_ev _ _ hlb) ?_; try dsimp only)
    | (with_reducible refine Ev.bind (specSameForm_ev _ _ _ _ hla hlb) ?_; try dsimp only)
    | (with_reducible refine Ev.bind (implSameForm_ev _ _ _ _ hla hlb) ?_; try dsimp only)
    | (with_reducible refine Ev.bind (eqCrowd_self _ _ (by omega)) ?_; try dsimp only)
    | (refine ev_pos (by first | exact True.intro | rfl | assumption | omega) ?_; try dsimp only)
    | (refine ev_neg (by first | (simp; done) | omega) ?_; try dsimp only)
    | (refine Ev.step (fun k => by simp only [laws_FnExactAreSameForm.j0]; rfl) ?_))

end Go.Proofs.Ytjmpanikfomgeaa.Pure
