/- FnExactAxesOf: the left statement: for every crowd the law answers true. No condition. -/
import Derived.Test.YtjmpanikfomgeaaQFnExactAxesOfx8
import Derived.Test.YtjmpanikfomgeaaBase
import Derived.Test.YtjmpanikfomgeaaU64
namespace Go.Proofs.Ytjmpanikfomgeaa.Pure
open Go.RowKit Go.Proofs.Ytjmpanikfomgeaa.QFnExactAxesOf Go.Proofs.YtjmpanikfomgeaaW.PrintWords Go.Proofs.YtjmpanikfomgeaaW.PrintLast Go.Proofs.Ytjmpanikfomgeaa.Base
set_option linter.unusedVariables false
set_option linter.unusedSimpArgs false

def FnExactAxesOfLeft : Prop := ∀ (a0_0 : Int) (l0_1 : List Int), (Lit.int .i64 a0_0).wf = true → l0_1.length ≤ maxLen → (∀ x ∈ l0_1, (Lit.int .i64 x).wf = true) → ∃ k, laws_FnExactAxesOf.f k a0_0 l0_1 = some true

theorem toIntS_ev (l : List Int) (hl : l.length ≤ 1048576) : Ev (fun k => laws_toIntS.f k l) l := by
  have key := down (P := fun i => Ev (fun k => laws_toIntS.l0 k l (tab l.length (fun q => if q < i then rd l (q : Int) else 0)) (i : Int)) l) (n := l.length)
    (ev_now (fun k => by
      simp only [laws_toIntS.l0]
      rw [if_neg (by omega)]
      congr 1
      exact (tab_ext rfl (fun q hq => by rw [if_pos hq])).symm))
    (fun i hi ih => by
      refine Ev.step (fun k => ?_) ih
      simp only [laws_toIntS.l0]
      rw [if_pos (by omega), if_pos (by omega), if_pos (by rw [tab_len]; omega), w64s hi (by omega), Int.toNat_natCast, tab_set]
      congr 1
      refine tab_congr (fun q _ => ?_)
      by_cases e : q = i
      · subst e; rw [if_pos rfl, if_pos (by omega)]
      · rw [if_neg e]
        by_cases e2 : q < i
        · rw [if_pos e2, if_pos (by omega)]
        · rw [if_neg e2, if_neg (by omega)])
  refine Ev.congr (fun k => ?_) (key 0 (by omega))
  unfold laws_toIntS.f
  rw [if_pos (by omega), if_pos (by omega), Int.toNat_natCast, tab_rep]
  simp

theorem eqIntS_ev (a b : List Int) (hl : a.length ≤ 1152921504606846976) : Ev (fun k => laws_eqIntS.f k a b) (decide (a = b)) := by
  by_cases h : a.length = b.length
  · have key := down (P := fun i => Ev (fun k => laws_eqIntS.l0 k a b (i : Int)) (decide (a.drop i = b.drop i))) (n := a.length)
      (ev_now (fun k => by
        simp only [laws_eqIntS.l0]
        rw [if_neg (by omega)]
        simp
        omega))
      (fun i hi ih => by
        rw [drop_cons hi, drop_cons (l := b) (by omega)]
        by_cases e : rd a (i : Int) = rd b (i : Int)
        · have e2 : decide (rd a (i : Int) :: a.drop (i + 1) = rd b (i : Int) :: b.drop (i + 1)) = decide (a.drop (i + 1) = b.drop (i + 1)) := by simp [e]
          rw [e2]
          refine Ev.step (fun k => ?_) ih
          simp only [laws_eqIntS.l0]
          rw [if_pos (by omega), if_pos (by omega), if_pos (by omega), if_pos e, w64s hi hl]
        · refine ev_now (fun k => ?_)
          simp only [laws_eqIntS.l0]
          rw [if_pos (by omega), if_pos (by omega), if_pos (by omega), if_neg e]
          simp [e])
    refine Ev.congr (fun k => ?_) (key 0 (by omega))
    unfold laws_eqIntS.f
    rw [if_pos (by omega)]
    rfl
  · refine Ev.congr (fun k => ?_) (Ev.now _)
    unfold laws_eqIntS.f
    rw [if_neg (by omega)]
    simp
    intro e
    exact h (by rw [e])
theorem eqIntS_self (a : List Int) (hl : a.length ≤ 1152921504606846976) : Ev (fun k => laws_eqIntS.f k a a) true := by
  have := eqIntS_ev a a hl
  simpa using this

theorem szIntS_eq (l : List Int) (a : Int) (h0 : 0 ≤ a) (h1 : a ≤ 1048576) (hl : l.length ≤ maxLen) : laws_szIntS.f l a = some (if a - (l.length : Int) < 0 then -1 else a - (l.length : Int)) := by
  have hm : l.length ≤ 9223372036854775807 := by simpa [maxLen] using hl
  unfold laws_szIntS.f
  rw [w64 (by omega) (by omega)]
  split <;> rfl

theorem toCrowd_ev (s : Int) (l : List Int) (hl : l.length ≤ 1048576) : Ev (fun k => laws_toCrowd.f k s l) (s, l) :=
  Ev.bind (f := fun _ t => some (s, t)) (toIntS_ev l hl) (Ev.now _)
theorem eqCrowd_self (s : Int) (l : List Int) (hl : l.length ≤ 1152921504606846976) : Ev (fun k => laws_eqCrowd.f k s l s l) true := by
  unfold laws_eqCrowd.f
  refine ev_pos rfl (Ev.bind (eqIntS_self l hl) ?_)
  exact ev_pos rfl (Ev.now _)
theorem szCrowd_eq (s : Int) (l : List Int) (hl : l.length ≤ maxLen) : laws_szCrowd.f s l 1048576 = some (if 1048576 - (l.length : Int) < 0 then -1 else 1048576 - (l.length : Int)) := by
  unfold laws_szCrowd.f
  rw [szIntS_eq l 1048576 (by omega) (by omega) hl, Option.bind_some]
  by_cases h : 1048576 - (l.length : Int) < 0
  · rw [if_pos h]; rfl
  · rw [if_neg h, if_neg h]

theorem markIntS_ev (l : List Int) (a : Int) (hl : l.length ≤ 1048576) (ha : 0 ≤ a) (ha2 : a ≤ 1152921504606846976) : Ev (fun k => laws_markIntS.f k l a) (a + (l.length : Int), cnt a l.length) := by
  have key := down (P := fun i => Ev (fun k => laws_markIntS.l0 k (tab l.length (fun q => if q < i then a + q else rd l (q : Int))) (a + (i : Int)) (i : Int)) (a + (l.length : Int), cnt a l.length)) (n := l.length)
    (ev_now (fun k => by
      simp only [laws_markIntS.l0]
      rw [if_neg (by rw [tab_len]; omega)]
      congr 2
      exact tab_congr (fun q hq => by rw [if_pos hq])))
    (fun i hi ih => by
      refine Ev.step (fun k => ?_) ih
      simp only [laws_markIntS.l0]
      rw [if_pos (by rw [tab_len]; omega), if_pos (by omega), w64s hi (by omega), Int.toNat_natCast, tab_set, w64 (by omega) (by omega)]
      congr 1
      · refine tab_congr (fun q _ => ?_)
        by_cases e : q = i
        · subst e; rw [if_pos rfl, if_pos (by omega)]
        · rw [if_neg e]
          by_cases e2 : q < i
          · rw [if_pos e2, if_pos (by omega)]
          · rw [if_neg e2, if_neg (by omega)]
      · omega)
  refine Ev.congr (fun k => ?_) (key 0 (by omega))
  unfold laws_markIntS.f
  congr 1
  · rw [← tab_ext rfl (fun q _ => by rw [if_neg (by omega)])]
  · simp

theorem markCrowd_ev (s : Int) (l : List Int) (a : Int) (hl : l.length ≤ 1048576) (ha : 0 ≤ a) (ha2 : a ≤ 1152921504606846976) : Ev (fun k => laws_markCrowd.f k s l a) (a + (l.length : Int), cnt a l.length) := by
  unfold laws_markCrowd.f
  exact Ev.bind (markIntS_ev l a hl ha ha2) (Ev.now _)

theorem heldIntS_ev (n : Nat) (a : Int) (hl : n ≤ 1048576) (ha : 0 ≤ a) (ha2 : a ≤ 1152921504606846976) : Ev (fun k => laws_heldIntS.f k (cnt a n) a) (a + (n : Int)) := by
  have key := down (P := fun i => Ev (fun k => laws_heldIntS.l0 k (cnt a n) (a + (i : Int)) (i : Int)) (a + (n : Int))) (n := n)
    (ev_now (fun k => by
      simp only [laws_heldIntS.l0]
      rw [if_neg (by rw [cnt_len]; omega)]))
    (fun i hi ih => by
      refine Ev.step (fun k => ?_) ih
      simp only [laws_heldIntS.l0]
      rw [if_pos (by rw [cnt_len]; omega), if_pos (by omega), if_pos (by unfold cnt; rw [tab_rd hi]), w64s hi (by omega), w64 (by omega) (by omega)]
      congr 1
      omega)
  refine Ev.congr (fun k => ?_) (key 0 (by omega))
  unfold laws_heldIntS.f
  simp

def srt (l : List Int) : List Int := l.mergeSort (fun a b => decide (a ≤ b))
theorem srt_perm (l : List Int) : (srt l).Perm l := List.mergeSort_perm l _
theorem srt_pw (l : List Int) : (srt l).Pairwise (· ≤ ·) := by
  have h := List.pairwise_mergeSort (le := fun a b : Int => decide (a ≤ b)) (by intro a b c; simp; omega) (by intro a b; simp; omega) l
  exact h.imp (fun h => by simpa using h)
theorem srt_of {a b : List Int} (p : a.Perm b) (h : b.Pairwise (· ≤ ·)) : srt a = b :=
  List.Perm.eq_of_pairwise (fun x y _ _ h1 h2 => Int.le_antisymm h1 h2) (srt_pw a) h ((srt_perm a).trans p)
theorem srt_congr {a b : List Int} (p : a.Perm b) : srt a = srt b := srt_of (p.trans (srt_perm b).symm) (srt_pw b)
theorem srt_len (l : List Int) : (srt l).length = l.length := (srt_perm l).length_eq
theorem srt_id {l : List Int} (h : l.Pairwise (· ≤ ·)) : srt l = l := srt_of (List.Perm.refl _) h
/-- One step of insertion from the right. -/
def insRev (x : Int) : List Int → List Int
  | [] => [x]
  | y :: r => if x < y then y :: insRev x r else x :: y :: r
def insR (x : Int) (a : List Int) : List Int := (insRev x a.reverse).reverse
theorem insRev_perm (x : Int) : ∀ r, (insRev x r).Perm (x :: r)
  | [] => List.Perm.refl _
  | y :: r => by
    unfold insRev
    split
    · exact ((insRev_perm x r).cons y).trans (List.Perm.swap x y r)
    · exact List.Perm.refl _
theorem insR_perm (x : Int) (a : List Int) : (insR x a).Perm (x :: a) :=
  (List.reverse_perm _).trans ((insRev_perm x _).trans ((List.reverse_perm a).cons x))
theorem insRev_pw (x : Int) : ∀ r : List Int, r.Pairwise (fun a b => b ≤ a) → (insRev x r).Pairwise (fun a b => b ≤ a)
  | [], _ => by simp [insRev]
  | y :: r, h => by
    unfold insRev
    rw [List.pairwise_cons] at h
    split
    · rename_i hlt
      rw [List.pairwise_cons]
      refine ⟨fun z hz => ?_, insRev_pw x r h.2⟩
      rcases List.mem_cons.1 ((insRev_perm x r).mem_iff.1 hz) with e | e
      · subst e; omega
      · exact h.1 z e
    · rename_i hlt
      rw [List.pairwise_cons]
      refine ⟨fun z hz => ?_, List.pairwise_cons.2 h⟩
      rcases List.mem_cons.1 hz with e | e
      · subst e; omega
      · have := h.1 z e; omega
theorem insR_pw (x : Int) (a : List Int) (h : a.Pairwise (· ≤ ·)) : (insR x a).Pairwise (· ≤ ·) := by
  unfold insR
  rw [List.pairwise_reverse]
  exact insRev_pw x _ (List.pairwise_reverse.2 h)
theorem insR_snoc_lt {x y : Int} (a : List Int) (h : x < y) : insR x (a ++ [y]) = insR x a ++ [y] := by
  simp [insR, insRev, h]
theorem insR_snoc_ge {x y : Int} (a : List Int) (h : ¬ x < y) : insR x (a ++ [y]) = a ++ [y] ++ [x] := by
  simp [insR, insRev, h]
theorem insR_nil (x : Int) : insR x [] = [x] := rfl
theorem srt_snoc (a : List Int) (x : Int) : srt (a ++ [x]) = insR x (srt a) :=
  srt_of ((List.perm_append_comm.trans ((srt_perm a).symm.cons x)).trans (insR_perm x _).symm) (insR_pw x _ (srt_pw a))
/-- What puts a number behind all that are less, taken from the left. -/
def putL (x : Int) : List Int → List Int
  | [] => [x]
  | y :: r => if y < x then y :: putL x r else if y = x then y :: r else x :: y :: r
theorem putL_perm (x : Int) : ∀ l : List Int, x ∉ l → (putL x l).Perm (x :: l)
  | [], _ => List.Perm.refl _
  | y :: r, h => by
    unfold putL
    simp only [List.mem_cons, not_or] at h
    split
    · exact ((putL_perm x r h.2).cons y).trans (List.Perm.swap x y r)
    · rw [if_neg (fun e => h.1 e.symm)]
theorem putL_pw (x : Int) : ∀ l : List Int, x ∉ l → l.Pairwise (· ≤ ·) → (putL x l).Pairwise (· ≤ ·)
  | [], _, _ => by simp [putL]
  | y :: r, hm, h => by
    unfold putL
    simp only [List.mem_cons, not_or] at hm
    rw [List.pairwise_cons] at h
    split
    · rename_i hlt
      rw [List.pairwise_cons]
      refine ⟨fun z hz => ?_, putL_pw x r hm.2 h.2⟩
      rcases List.mem_cons.1 ((putL_perm x r hm.2).mem_iff.1 hz) with e | e
      · subst e; omega
      · exact h.1 z e
    · rw [if_neg (fun e => hm.1 e.symm)]
      rw [List.pairwise_cons]
      refine ⟨fun z hz => ?_, List.pairwise_cons.2 h⟩
      rcases List.mem_cons.1 hz with e | e
      · subst e; omega
      · have := h.1 z e; omega
theorem srt_put {a : List Int} {x : Int} (h : x ∉ a) : srt (a ++ [x]) = putL x (srt a) :=
  srt_of ((List.perm_append_comm.trans ((srt_perm a).symm.cons x)).trans (putL_perm x _ (fun hm => h ((srt_perm a).mem_iff.1 hm))).symm) (putL_pw x _ (fun hm => h ((srt_perm a).mem_iff.1 hm)) (srt_pw a))

theorem cmpLess_eq (a b : Int) : cmp_Less_int.f a b = some (decide (a < b)) := by
  simp [cmp_Less_int.f, cmp_isNaN_int.f]
theorem rd_mid (A : List Int) (x : Int) (B : List Int) : rd (A ++ x :: B) (A.length : Int) = x := by
  simp [rd, List.getD]
theorem set_mid (A : List Int) (x v : Int) (B : List Int) : (A ++ x :: B).set A.length v = A ++ v :: B := by
  rw [List.set_append_right _ _ (Nat.le_refl _)]; simp
theorem swap_mid (A : List Int) (x y : Int) (B : List Int) : ((A ++ y :: x :: B).set (A.length + 1) y).set A.length x = A ++ x :: y :: B := by
  have h : A ++ y :: x :: B = (A ++ [y]) ++ x :: B := by simp
  rw [h, show A.length + 1 = (A ++ [y]).length by simp, set_mid, List.append_assoc, List.singleton_append, set_mid]
theorem insert_ev (n i : Int) (r : List Int) : ∀ (m : Nat) (A : List Int) (x : Int) (B : List Int), A.length = m → m + B.length + 1 ≤ 1048576 →
    Ev (fun k => slices_insertionSortOrdered_int.l0 k (insR x A ++ B) 0 n (wrap64 (i + 1))) r →
    Ev (fun k => slices_insertionSortOrdered_int.l1 k (A ++ x :: B) 0 n i (m : Int)) r := by
  intro m
  induction m with
  | zero =>
    intro A x B hA hb h
    obtain rfl := List.length_eq_zero_iff.1 hA
    refine Ev.step (fun k => ?_) h
    simp only [slices_insertionSortOrdered_int.l1]
    rw [if_neg (by omega), insR_nil]
    rfl
  | succ m ih =>
    intro A x B hA hb h
    obtain ⟨A', y, rfl⟩ := List.eq_nil_or_concat A |>.resolve_left (by intro e; subst e; simp at hA)
    simp only [List.concat_eq_append] at *
    have hA' : A'.length = m := by simpa using hA
    have e1 : rd (A' ++ [y] ++ x :: B) ((m + 1 : Nat) : Int) = x := by
      have := rd_mid (A' ++ [y]) x B
      rw [hA] at this; exact this
    have e2 : rd (A' ++ [y] ++ x :: B) ((m : Nat) : Int) = y := by
      have := rd_mid A' y (x :: B)
      rw [hA'] at this
      rw [List.append_assoc]; exact this
    have e3 : wrap64 (((m + 1 : Nat) : Int) - 1) = (m : Int) := by rw [w64 (by omega) (by omega)]; omega
    have hlen : (A' ++ [y] ++ x :: B).length = m + 1 + (B.length + 1) := by simp [hA']; omega
    by_cases hlt : x < y
    · have h2 : Ev (fun k => slices_insertionSortOrdered_int.l1 k (A' ++ x :: (y :: B)) 0 n i (m : Int)) r := by
        refine ih A' x (y :: B) hA' (by simp; omega) ?_
        rw [insR_snoc_lt A' hlt] at h
        simpa using h
      refine Ev.step (fun k => ?_) h2
      simp only [slices_insertionSortOrdered_int.l1, cmpLess_eq, Option.bind_some, e1, e2, e3, hlen]
      rw [if_pos (by omega), if_pos (by omega), if_pos (by omega), if_pos (by omega), if_pos (by omega), if_pos (by simpa using hlt)]
      congr 1
      rw [Int.toNat_natCast, Int.toNat_natCast, List.append_assoc, List.singleton_append, ← hA', swap_mid]
    · rw [insR_snoc_ge A' hlt] at h
      refine Ev.step (fun k => ?_) h
      simp only [slices_insertionSortOrdered_int.l1, cmpLess_eq, Option.bind_some, e1, e2, e3, hlen]
      rw [if_pos (by omega), if_pos (by omega), if_pos (by omega), if_pos (by omega), if_pos (by omega), if_neg (by simpa using hlt)]
      simp
theorem insertion_ev (l : List Int) (hl : l.length ≤ 1000000) : Ev (fun k => slices_insertionSortOrdered_int.f k l 0 (l.length : Int)) (srt l) := by
  have key := down (P := fun i => Ev (fun k => slices_insertionSortOrdered_int.l0 k (srt (l.take i) ++ l.drop i) 0 (l.length : Int) (i : Int)) (srt l)) (n := l.length)
    (ev_now (fun k => by simp only [slices_insertionSortOrdered_int.l0]; rw [if_neg (by omega), List.take_length, List.drop_length, List.append_nil]))
    (fun i hi ih => by
      have hd := drop_cons hi
      have ht : l.take (i + 1) = l.take i ++ [rd l (i : Int)] := by
        rw [List.take_succ_eq_append_getElem hi]
        congr 1
        simp [rd, List.getD, hi]
      rw [ht, srt_snoc] at ih
      have h2 := insert_ev (l.length : Int) (i : Int) (srt l) i (srt (l.take i)) (rd l (i : Int)) (l.drop (i + 1)) (by rw [srt_len, List.length_take]; omega) (by rw [List.length_drop]; omega) (by rw [w64s hi (by omega)]; exact ih)
      rw [hd]
      refine Ev.step (fun k => ?_) h2
      simp only [slices_insertionSortOrdered_int.l0]
      rw [if_pos (by omega)])
  unfold slices_insertionSortOrdered_int.f
  rw [show wrap64 ((0 : Int) + 1) = ((1 : Nat) : Int) by rw [w64 (by omega) (by omega)]; rfl]
  rcases Nat.lt_or_ge l.length 1 with h0 | h0
  · obtain rfl := List.length_eq_zero_iff.1 (Nat.lt_one_iff.1 h0)
    refine ev_now (fun k => ?_)
    simp only [slices_insertionSortOrdered_int.l0]
    rw [if_neg (by simp), srt_id (by simp)]
  · have k1 := key 1 h0
    have e : srt (l.take 1) ++ l.drop 1 = l := by
      rw [srt_id, List.take_append_drop]
      obtain ⟨x, t, rfl⟩ := List.exists_cons_of_length_pos h0
      simp
    rw [e] at k1
    exact k1
theorem bitsLen_small (k : Nat) {n : Nat} (h : n ≤ 12) : ∃ v, bits_Len.f k (n : Int) = some v := by
  unfold bits_Len.f
  have : ∀ m : Nat, m ≤ 12 → (lenOf (m : Int) [(0, 0), (1, 1), (2, 2), (3, 2), (4, 3), (5, 3), (6, 3), (7, 3), (8, 4), (9, 4), (10, 4), (11, 4), (12, 4)]).isSome = true := by decide
  exact Option.isSome_iff_exists.1 (this n h)
theorem sort_ev (l : List Int) (hl : l.length ≤ 12) : Ev (fun k => slices_Sort_int_int.f k l) (srt l) := by
  unfold slices_Sort_int_int.f
  rw [u64w (by omega) (by omega)]
  obtain ⟨v, hv⟩ := bitsLen_small 0 hl
  have hv' : ∀ k, bits_Len.f k (l.length : Int) = some v := fun k => by rw [show bits_Len.f k (l.length : Int) = bits_Len.f 0 (l.length : Int) from rfl]; exact hv
  refine Ev.congr (f := fun k => (slices_pdqsortOrdered_int.f k l 0 (l.length : Int) v).bind fun t => some t) (fun k => by rw [hv' k, Option.bind_some]) ?_
  refine Ev.bind (f := fun _ t => some t) ?_ (Ev.now _)
  refine Ev.step (fun k => by simp only [slices_pdqsortOrdered_int.f]; rfl) ?_
  refine Ev.step (f := fun k => (slices_insertionSortOrdered_int.f k l 0 (l.length : Int)).bind fun t => some t) (fun k => ?_) (Ev.bind (f := fun _ t => some t) (insertion_ev l (by omega)) (Ev.now _))
  simp only [slices_pdqsortOrdered_int.l0]
  rw [if_pos (by rw [w64 (by omega) (by omega)]; omega)]

theorem mapped_ev (g : Int → Option Int) (h : Int → Int) (l : List Int) (hl : l.length ≤ 1048576) (hg : ∀ x ∈ l, g x = some (h x)) : Ev (fun k => Mapped.f g k l) (l.map h) := by
  have e : l.map h = tab l.length (fun q => h (rd l (q : Int))) := by
    refine tab_ext (by simp) (fun q hq => ?_)
    rw [rd_nat, rd_nat, List.getD_eq_getElem?_getD, List.getD_eq_getElem?_getD, List.getElem?_map, List.getElem?_eq_getElem hq]
    rfl
  rw [e]
  have key := down (P := fun i => Ev (fun k => Mapped.l0 g k (tab i (fun q => h (rd l (q : Int)))) l (l.length : Int) (i : Int)) (tab l.length (fun q => h (rd l (q : Int))))) (n := l.length)
    (ev_now (fun k => by simp only [Mapped.l0]; rw [if_neg (by omega)]))
    (fun i hi ih => by
      refine Ev.step (fun k => ?_) ih
      simp only [Mapped.l0]
      rw [if_pos (by omega), if_pos (by omega), if_pos (by omega), hg _ (mem_of_rd hi), Option.bind_some, tab_len, if_pos (by omega), w64s hi (by omega), tab_snoc i (fun q => h (rd l (q : Int)))])
  exact key 0 (by omega)

theorem l1In_eq (a b c : Int) : spec_l1In.f a b c = some (inR b c a) := by
  unfold spec_l1In.f inR
  by_cases h : a ≥ b
  · have h' : b ≤ a := h
    rw [if_pos h]; simp [h']
  · have h' : ¬ b ≤ a := h
    rw [if_neg h]; simp [h']

theorem l1Rising_ev (l : List Int) (lo hi : Int) (hl : l.length ≤ 1048576) : Ev (fun k => spec_l1Rising.f k l lo hi) (ris l lo hi 0) := by
  have key := down (P := fun i => Ev (fun k => spec_l1Rising.l0 k l lo hi (i : Int)) (ris l lo hi i)) (n := l.length)
    (ev_now (fun k => by simp only [spec_l1Rising.l0]; rw [if_neg (by omega), ris_end]))
    (fun i hi' ih => by
      rw [ris_step hi']
      by_cases hc : risC l lo hi i
      · rw [decide_eq_true hc, Bool.true_and]
        refine Ev.step (fun k => ?_) ih
        simp only [spec_l1Rising.l0, l1In_eq, Option.bind_some]
        rw [if_pos (by omega), if_pos (by omega), if_pos (inR_iff.2 ⟨hc.1, hc.2.1⟩), w64s hi' (by omega)]
        by_cases h0 : 0 < i
        · have h3 := hc.2.2 h0
          rw [if_pos (by omega), w64 (by omega) (by omega), show (i : Int) - 1 = ((i - 1 : Nat) : Int) by omega, if_pos (by omega), if_pos (by omega), if_neg (by omega)]
        · rw [if_neg (by omega)]
      · rw [decide_eq_false hc, Bool.false_and]
        refine ev_now (fun k => ?_)
        simp only [spec_l1Rising.l0, l1In_eq, Option.bind_some]
        rw [if_pos (by omega), if_pos (by omega)]
        by_cases h1 : inR lo hi (rd l (i : Int)) = true
        · have h2 := inR_iff.1 h1
          rw [if_pos h1]
          by_cases h0 : 0 < i
          · rw [if_pos (by omega), w64 (by omega) (by omega), show (i : Int) - 1 = ((i - 1 : Nat) : Int) by omega, if_pos (by omega), if_pos (by omega)]
            have h3 : ¬ rd l ((i - 1 : Nat) : Int) < rd l (i : Int) := fun h => hc ⟨h2.1, h2.2, fun _ => h⟩
            rw [if_pos (by omega)]
          · exact absurd ⟨h2.1, h2.2, fun h => absurd h h0⟩ hc
        · rw [if_neg h1])
  exact key 0 (by omega)

def crowdV (s : Int) (l : List Int) : Bool := inR 3 12 s && (inR 1 6 (l.length : Int) && ris l 0 (s - 1) 0)
theorem crowd_of {s : Int} {l : List Int} (h : crowdV s l = true) : (3 ≤ s ∧ s ≤ 12) ∧ (1 ≤ l.length ∧ l.length ≤ 6) ∧ ∀ j, j < l.length → risC l 0 (s - 1) j := by
  unfold crowdV at h
  rw [Bool.and_eq_true, Bool.and_eq_true, inR_iff, inR_iff] at h
  exact ⟨h.1, by omega, ris_of h.2.2⟩
theorem l10Crowd_ev (s : Int) (l : List Int) (hl : l.length ≤ 1048576) : Ev (fun k => spec_l10Crowd.f k s l) (crowdV s l) := by
  unfold spec_l10Crowd.f crowdV
  simp only [l1In_eq, Option.bind_some]
  cases h1 : inR 3 12 s with
  | false => exact ev_neg (by simp) (Ev.now _)
  | true =>
    have hs := inR_iff.1 h1
    refine ev_pos rfl ?_
    cases h2 : inR 1 6 (l.length : Int) with
    | false => exact ev_neg (by simp) (Ev.now _)
    | true =>
      refine ev_pos rfl ?_
      rw [w64 (by omega) (by omega), Bool.true_and, Bool.true_and]
      exact Ev.bind (l1Rising_ev l 0 (s - 1) hl) (Ev.now _)

theorem ris_lt {l : List Int} {lo hi : Int} (h : ∀ j, j < l.length → risC l lo hi j) : ∀ i j : Nat, i < j → j < l.length → rd l (i : Int) < rd l (j : Int) := by
  intro i j hij hj
  induction j with
  | zero => omega
  | succ j ih =>
    have h1 := (h (j + 1) hj).2.2 (by omega)
    rw [show j + 1 - 1 = j by omega] at h1
    rcases Nat.lt_or_ge i j with h2 | h2
    · have := ih h2 (by omega); omega
    · obtain rfl : i = j := by omega
      exact h1
theorem ris_pw {l : List Int} {lo hi : Int} (h : ∀ j, j < l.length → risC l lo hi j) : l.Pairwise (· < ·) := by
  rw [List.pairwise_iff_getElem]
  intro i j hi hj hij
  have := ris_lt h i j hij hj
  simpa [rd, List.getD, hi, hj] using this
theorem ris_mem {l : List Int} {lo hi : Int} (h : ∀ j, j < l.length → risC l lo hi j) : ∀ x ∈ l, lo ≤ x ∧ x ≤ hi := by
  intro x hx
  obtain ⟨i, hi', rfl⟩ := rd_of_mem hx
  exact ⟨(h i hi').1, (h i hi').2.1⟩
theorem put_ev (l : List Int) (x : Int) (hx : x ∉ l) (hl : l.length ≤ 1048576) : Ev (fun k => spec_l1Put.f k l x) (putL x l) := by
  have key := down (P := fun i => Ev (fun k => spec_l1Put.l0 k l x (i : Int)) (l.take i ++ putL x (l.drop i))) (n := l.length)
    (ev_now (fun k => by
      simp only [spec_l1Put.l0, Option.bind_some]
      rw [if_neg (by omega), if_pos (by omega), if_pos (by omega), Int.toNat_natCast, if_pos (by simp; omega), if_pos (by simp; omega), if_pos (by simp; omega)]
      simp [putL]))
    (fun i hi ih => by
      have hd := drop_cons hi
      have hne : rd l (i : Int) ≠ x := fun e => hx (e ▸ mem_of_rd hi)
      rw [hd]
      unfold putL
      by_cases hlt : rd l (i : Int) < x
      · rw [if_pos hlt]
        have e : l.take i ++ rd l (i : Int) :: putL x (l.drop (i + 1)) = l.take (i + 1) ++ putL x (l.drop (i + 1)) := by
          rw [List.take_succ_eq_append_getElem hi, List.append_assoc]
          congr 1
          simp [rd, List.getD, hi]
        rw [e]
        refine Ev.step (fun k => ?_) ih
        simp only [spec_l1Put.l0, Option.bind_some]
        rw [if_pos (by omega), if_pos (by omega), if_pos hlt, w64s hi (by omega)]
      · rw [if_neg hlt, if_neg hne, ← hd]
        refine ev_now (fun k => ?_)
        simp only [spec_l1Put.l0, Option.bind_some]
        rw [if_pos (by omega), if_pos (by omega), if_neg hlt, if_neg hne, if_pos (by omega), Int.toNat_natCast, if_pos (by simp; omega), if_pos (by simp; omega), if_pos (by simp; omega)]
        rw [hd]
        simp)
  exact key 0 (by omega)
theorem nodup_map {l : List Int} {f : Int → Int} (h : l.Pairwise (· < ·)) (hf : ∀ x ∈ l, ∀ y ∈ l, x < y → f x ≠ f y) : (l.map f).Nodup := by
  unfold List.Nodup
  rw [List.pairwise_map]
  exact h.imp_of_mem (fun {a b} ha hb hab => hf a ha b hb hab)
theorem nodup_step {l : List Int} {f : Int → Int} {i : Nat} (hi : i < l.length) (h : (l.map f).Nodup) : f (rd l (i : Int)) ∉ (l.take i).map f := by
  have e : l = l.take i ++ rd l (i : Int) :: l.drop (i + 1) := by rw [← drop_cons hi, List.take_append_drop]
  rw [e, List.map_append, List.map_cons] at h
  intro hm
  have := (List.nodup_append.1 h).2.2 _ hm _ List.mem_cons_self
  exact this rfl
theorem emod_ne {n a b : Int} (hn : 0 < n) (h : a < b) (h2 : b - a < n) : a % n ≠ b % n := by
  intro e
  have h3 : (b - a) % n = 0 := Int.emod_eq_emod_iff_emod_sub_eq_zero.1 e.symm
  rw [Int.emod_eq_of_lt (by omega) h2] at h3
  omega
def gT (n s p : Int) : Int := (p + s) % n
def gM (n x p : Int) : Int := (x - p + n) % n
theorem gT_eq {n s p : Int} (hn : 3 ≤ n ∧ n ≤ 12) (hs : 0 ≤ s ∧ s ≤ n) (hp : 0 ≤ p ∧ p ≤ n - 1) : Int.tmod (wrap64 (p + s)) n = gT n s p := by
  rw [w64 (by omega) (by omega)]
  exact Int.tmod_eq_emod_of_nonneg (by omega)
theorem gM_eq {n x p : Int} (hn : 3 ≤ n ∧ n ≤ 12) (hx : 0 ≤ x ∧ x ≤ n) (hp : 0 ≤ p ∧ p ≤ n - 1) : Int.tmod (wrap64 ((wrap64 (x - p)) + n)) n = gM n x p := by
  rw [w64 (x := x - p) (by omega) (by omega), w64 (by omega) (by omega)]
  exact Int.tmod_eq_emod_of_nonneg (by omega)
def trn (n s : Int) (l : List Int) : List Int := srt (l.map (gT n s))
def mir (n x : Int) (l : List Int) : List Int := srt (l.map (gM n x))
theorem gT_nodup {n s : Int} {l : List Int} (hn : 3 ≤ n ∧ n ≤ 12) (h : l.Pairwise (· < ·)) (hm : ∀ x ∈ l, 0 ≤ x ∧ x ≤ n - 1) : (l.map (gT n s)).Nodup :=
  nodup_map h (fun x hx y hy hxy => emod_ne (by omega) (by omega) (by have := hm x hx; have := hm y hy; omega))
theorem gM_nodup {n s : Int} {l : List Int} (hn : 3 ≤ n ∧ n ≤ 12) (h : l.Pairwise (· < ·)) (hm : ∀ x ∈ l, 0 ≤ x ∧ x ≤ n - 1) : (l.map (gM n s)).Nodup :=
  nodup_map h (fun x hx y hy hxy => (emod_ne (by omega) (by omega) (by have := hm x hx; have := hm y hy; omega)).symm)
theorem srt_take_step {l : List Int} {f : Int → Int} {i : Nat} (hi : i < l.length) (h : (l.map f).Nodup) : putL (f (rd l (i : Int))) (srt ((l.take i).map f)) = srt ((l.take (i + 1)).map f) := by
  have ht : l.take (i + 1) = l.take i ++ [rd l (i : Int)] := by
    rw [List.take_succ_eq_append_getElem hi]
    congr 1
    simp [rd, List.getD, hi]
  rw [ht, List.map_append, List.map_cons, List.map_nil, srt_put (nodup_step hi h)]
theorem moved_ev (n : Int) (l : List Int) (g : Int → Option Int) (h : Int → Int) (hl : l.length ≤ 12) (hg : ∀ x ∈ l, g x = some (h x)) : Ev (fun k => impl_Crowd_moved.f k n l g) (n, srt (l.map h)) := by
  unfold impl_Crowd_moved.f mapped_G.f
  refine Ev.bind (f := fun k t => (slices_Sort_int_int.f k t).bind fun t => some (n, t)) (mapped_ev g h l (by omega) hg) ?_
  exact Ev.bind (f := fun _ t => some (n, t)) (sort_ev _ (by simp; omega)) (Ev.now _)

theorem within_eq (a b c : Int) : impl_within.f a b c = some (inR b c a) := by
  unfold impl_within.f inR
  by_cases h : a ≥ b
  · have h' : b ≤ a := h
    rw [if_pos h]; simp [h']
  · have h' : ¬ b ≤ a := h
    rw [if_neg h]; simp [h']

theorem implIsCrowd_ev (s : Int) (l : List Int) (hl : l.length ≤ 1048576) : Ev (fun k => impl_IsCrowd.f k s l) (crowdV s l) := by
  have key := down (P := fun i => Ev (fun k => impl_IsCrowd.l0 k l (l.length : Int) (i : Int) s l) (ris l 0 (wrap64 (s - 1)) i && (inR 3 12 s && inR 1 6 (l.length : Int)))) (n := l.length)
    (ev_now (fun k => by
      simp only [impl_IsCrowd.l0, within_eq, Option.bind_some]
      rw [if_neg (by omega), ris_end]
      cases inR 3 12 s <;> simp))
    (fun i hi' ih => by
      rw [ris_step hi']
      by_cases hc : risC l 0 (wrap64 (s - 1)) i
      · rw [decide_eq_true hc, Bool.true_and]
        refine Ev.step (fun k => ?_) ih
        simp only [impl_IsCrowd.l0, within_eq, Option.bind_some]
        rw [if_pos (by omega), if_pos (by omega), if_pos (by omega), if_pos (inR_iff.2 ⟨hc.1, hc.2.1⟩), w64s hi' (by omega)]
        by_cases h0 : 0 < i
        · have h3 := hc.2.2 h0
          rw [if_pos (by omega), w64 (x := (i : Int) - 1) (by omega) (by omega), show (i : Int) - 1 = ((i - 1 : Nat) : Int) by omega, if_pos (by omega), if_pos (by omega), if_neg (by omega)]
        · rw [if_neg (by omega)]
      · rw [decide_eq_false hc, Bool.false_and, Bool.false_and]
        refine ev_now (fun k => ?_)
        simp only [impl_IsCrowd.l0, within_eq, Option.bind_some]
        rw [if_pos (by omega), if_pos (by omega), if_pos (by omega)]
        by_cases h1 : inR 0 (wrap64 (s - 1)) (rd l (i : Int)) = true
        · have h2 := inR_iff.1 h1
          rw [if_pos h1]
          by_cases h0 : 0 < i
          · rw [if_pos (by omega), w64 (x := (i : Int) - 1) (by omega) (by omega), show (i : Int) - 1 = ((i - 1 : Nat) : Int) by omega, if_pos (by omega), if_pos (by omega)]
            have h3 : ¬ rd l ((i - 1 : Nat) : Int) < rd l (i : Int) := fun h => hc ⟨h2.1, h2.2, fun _ => h⟩
            rw [if_pos (by omega)]
          · exact absurd ⟨h2.1, h2.2, fun h => absurd h h0⟩ hc
        · rw [if_neg h1])
  have k0 := key 0 (by omega)
  have e : (ris l 0 (wrap64 (s - 1)) 0 && (inR 3 12 s && inR 1 6 (l.length : Int))) = crowdV s l := by
    unfold crowdV
    cases h1 : inR 3 12 s with
    | false => simp
    | true =>
      have hs := inR_iff.1 h1
      rw [w64 (by omega) (by omega)]
      cases inR 1 6 (l.length : Int) <;> simp
  rw [e] at k0
  exact k0

theorem crowd_facts {n : Int} {l : List Int} (h : crowdV n l = true) : (3 ≤ n ∧ n ≤ 12) ∧ (1 ≤ l.length ∧ l.length ≤ 6) ∧ l.Pairwise (· < ·) ∧ ∀ x ∈ l, 0 ≤ x ∧ x ≤ n - 1 := by
  obtain ⟨h1, h2, h3⟩ := crowd_of h
  exact ⟨h1, h2, ris_pw h3, ris_mem h3⟩

theorem trn_len (n s : Int) (l : List Int) : (trn n s l).length = l.length := by simp [trn, srt_len]
theorem mir_len (n s : Int) (l : List Int) : (mir n s l).length = l.length := by simp [mir, srt_len]

theorem specMirror_ev (n s : Int) (l : List Int) (hn : 3 ≤ n ∧ n ≤ 12) (hs : 0 ≤ s ∧ s ≤ n) (hl : l.length ≤ 12) (h : l.Pairwise (· < ·)) (hm : ∀ x ∈ l, 0 ≤ x ∧ x ≤ n - 1) : Ev (fun k => spec_l10Mirror.f k n l s) (n, mir n s l) := by
  have hnd := gM_nodup (s := s) hn h hm
  have key := down (P := fun i => Ev (fun k => spec_l10Mirror.l0 k s (i : Int) n l n (srt ((l.take i).map (gM n s)))) (n, mir n s l)) (n := l.length)
    (ev_now (fun k => by simp only [spec_l10Mirror.l0]; rw [if_neg (by omega), List.take_length]; rfl))
    (fun i hi ih => by
      have hp := hm _ (mem_of_rd hi)
      refine Ev.step (f := fun k => (spec_l1Put.f k (srt ((l.take i).map (gM n s))) (gM n s (rd l (i : Int)))).bind fun t => spec_l10Mirror.l0 k s ((i + 1 : Nat) : Int) n l n t) (fun k => ?_) ?_
      · simp only [spec_l10Mirror.l0]
        rw [if_pos (by omega), if_pos (by omega), if_neg (by omega), gM_eq hn hs hp, w64s hi (by omega)]
      · refine Ev.bind (put_ev _ _ ?_ ?_) ?_
        · intro hmem
          exact nodup_step hi hnd ((srt_perm _).mem_iff.1 hmem)
        · rw [srt_len]; simp; omega
        · rw [srt_take_step hi hnd]; exact ih)
  have k0 := key 0 (by omega)
  unfold spec_l10Mirror.f
  simpa [srt] using k0

theorem l1Same_ev (a b : List Int) (ha : a.length ≤ 1048576) : Ev (fun k => spec_l1Same.f k a b) (decide (a = b)) := by
  unfold spec_l1Same.f
  by_cases he : a.length = b.length
  · refine ev_pos (by omega) ?_
    have key := down (P := fun i => Ev (fun k => spec_l1Same.l0 k a b (i : Int)) (decide (a.drop i = b.drop i))) (n := a.length)
      (ev_now (fun k => by simp only [spec_l1Same.l0]; rw [if_neg (by omega)]; simp [he]))
      (fun i hi ih => by
        rw [drop_cons hi, drop_cons (l := b) (by omega)]
        by_cases e : rd a (i : Int) = rd b (i : Int)
        · rw [e]
          simp only [List.cons.injEq, true_and]
          refine Ev.step (fun k => ?_) ih
          simp only [spec_l1Same.l0]
          rw [if_pos (by omega), if_pos (by omega), if_pos (by omega), if_pos e, w64s hi (by omega)]
        · rw [decide_eq_false (by simp [e])]
          refine ev_now (fun k => ?_)
          simp only [spec_l1Same.l0]
          rw [if_pos (by omega), if_pos (by omega), if_pos (by omega), if_neg e])
    exact key 0 (by omega)
  · rw [decide_eq_false (fun h => he (by rw [h]))]
    exact ev_neg (by omega) (Ev.now _)

theorem slEqual_ev (a b : List Int) (ha : a.length ≤ 1048576) : Ev (fun k => slices_Equal_int_int.f k a b) (decide (a = b)) := by
  unfold slices_Equal_int_int.f
  by_cases he : a.length = b.length
  · refine ev_pos (by omega) ?_
    have key := down (P := fun i => Ev (fun k => slices_Equal_int_int.l0 k a b (a.length : Int) (i : Int)) (decide (a.drop i = b.drop i))) (n := a.length)
      (ev_now (fun k => by simp only [slices_Equal_int_int.l0]; rw [if_neg (by omega)]; simp [he]))
      (fun i hi ih => by
        rw [drop_cons hi, drop_cons (l := b) (by omega)]
        by_cases e : rd a (i : Int) = rd b (i : Int)
        · rw [e]
          simp only [List.cons.injEq, true_and]
          refine Ev.step (fun k => ?_) ih
          simp only [slices_Equal_int_int.l0]
          rw [if_pos (by omega), if_pos (by omega), if_pos (by omega), if_pos (by omega), if_pos e, w64s hi (by omega)]
        · rw [decide_eq_false (by simp [e])]
          refine ev_now (fun k => ?_)
          simp only [slices_Equal_int_int.l0]
          rw [if_pos (by omega), if_pos (by omega), if_pos (by omega), if_pos (by omega), if_neg e])
    exact key 0 (by omega)
  · rw [decide_eq_false (fun h => he (by rw [h]))]
    exact ev_neg (by omega) (Ev.now _)
theorem implSame_ev (n m : Int) (a b : List Int) (ha : a.length ≤ 1048576) : Ev (fun k => impl_Crowd_same.f k n a m b) (decide (n = m ∧ a = b)) := by
  unfold impl_Crowd_same.f
  by_cases h : n = m
  · refine ev_pos h ?_
    simp only [h, true_and]
    exact Ev.bind (f := fun _ t => some t) (slEqual_ev a b ha) (Ev.now _)
  · rw [decide_eq_false (fun e => h e.1)]
    exact ev_neg h (Ev.now _)

theorem implAxis_ev (n x : Int) (l : List Int) (hn : 3 ≤ n ∧ n ≤ 12) (hx : 0 ≤ x ∧ x ≤ n) (hl : l.length ≤ 12) (hm : ∀ x ∈ l, 0 ≤ x ∧ x ≤ n - 1) : Ev (fun k => moved_78.f k n l x) (n, mir n x l) := by
  unfold moved_78.f
  refine moved_ev n l _ (gM n x) hl ?_
  intro p hp
  unfold clo_78
  rw [if_neg (by omega), gM_eq hn hx (hm p hp)]
theorem axes_both (n : Int) (l : List Int) (hv : crowdV n l = true) : ∃ r : List Int, r.length ≤ 12 ∧ Ev (fun k => spec_l10Axes.f k n l) r ∧ Ev (fun k => impl_Crowd_axes.f k n l) r := by
  obtain ⟨hn, hl, hp, hm⟩ := crowd_facts hv
  have key := down (P := fun (i : Nat) => ∀ acc : List Int, acc.length ≤ i → ∃ r : List Int, r.length ≤ 12 ∧ Ev (fun k => spec_l10Axes.l0 k acc (i : Int) n l) r ∧ Ev (fun k => impl_Crowd_axes.l0 k acc n (i : Int) n l) r) (n := n.toNat)
    (fun acc ha => by
      refine ⟨acc, by omega, ev_now (fun k => ?_), ev_now (fun k => ?_)⟩
      · simp only [spec_l10Axes.l0]; rw [if_neg (by omega)]
      · simp only [impl_Crowd_axes.l0]; rw [if_neg (by omega)])
    (fun i hi ih acc ha => by
      by_cases e : mir n (i : Int) l = l
      · obtain ⟨r, hr, hs, hi2⟩ := ih (acc ++ [(i : Int)]) (by simp; omega)
        refine ⟨r, hr, ?_, ?_⟩
        · refine Ev.step (f := fun k => (spec_l10Mirror.f k n l i).bind fun t => (spec_l1Same.f k t.2 l).bind fun t180 => if t180 = true then (if acc.length < 17592186044416 then (spec_l10Axes.l0 k (acc ++ [(i : Int)]) ((i + 1 : Nat) : Int) n l) else none) else spec_l10Axes.l0 k acc ((i + 1 : Nat) : Int) n l) (fun k => by simp only [spec_l10Axes.l0]; rw [if_pos (by omega), w64s hi (by omega)]) ?_
          refine Ev.bind (specMirror_ev n i l hn (by omega) (by omega) hp hm) ?_
          refine Ev.bind (l1Same_ev _ _ (by rw [mir_len]; omega)) ?_
          exact ev_pos (by rw [e]; simp) (ev_pos (by omega) hs)
        · refine Ev.step (f := fun k => (moved_78.f k n l i).bind fun t => (impl_Crowd_same.f k n l t.1 t.2).bind fun t180 => if t180 = true then (if acc.length < 17592186044416 then (impl_Crowd_axes.l0 k (acc ++ [(i : Int)]) n ((i + 1 : Nat) : Int) n l) else none) else impl_Crowd_axes.l0 k acc n ((i + 1 : Nat) : Int) n l) (fun k => by simp only [impl_Crowd_axes.l0]; rw [if_pos (by omega), w64s hi (by omega)]) ?_
          refine Ev.bind (implAxis_ev n i l hn (by omega) (by omega) hm) ?_
          refine Ev.bind (implSame_ev _ _ _ _ (by omega)) ?_
          exact ev_pos (by rw [e]; simp) (ev_pos (by omega) hi2)
      · obtain ⟨r, hr, hs, hi2⟩ := ih acc (by omega)
        refine ⟨r, hr, ?_, ?_⟩
        · refine Ev.step (f := fun k => (spec_l10Mirror.f k n l i).bind fun t => (spec_l1Same.f k t.2 l).bind fun t180 => if t180 = true then (if acc.length < 17592186044416 then (spec_l10Axes.l0 k (acc ++ [(i : Int)]) ((i + 1 : Nat) : Int) n l) else none) else spec_l10Axes.l0 k acc ((i + 1 : Nat) : Int) n l) (fun k => by simp only [spec_l10Axes.l0]; rw [if_pos (by omega), w64s hi (by omega)]) ?_
          refine Ev.bind (specMirror_ev n i l hn (by omega) (by omega) hp hm) ?_
          refine Ev.bind (l1Same_ev _ _ (by rw [mir_len]; omega)) ?_
          exact ev_neg (by simpa using e) hs
        · refine Ev.step (f := fun k => (moved_78.f k n l i).bind fun t => (impl_Crowd_same.f k n l t.1 t.2).bind fun t180 => if t180 = true then (if acc.length < 17592186044416 then (impl_Crowd_axes.l0 k (acc ++ [(i : Int)]) n ((i + 1 : Nat) : Int) n l) else none) else impl_Crowd_axes.l0 k acc n ((i + 1 : Nat) : Int) n l) (fun k => by simp only [impl_Crowd_axes.l0]; rw [if_pos (by omega), w64s hi (by omega)]) ?_
          refine Ev.bind (implAxis_ev n i l hn (by omega) (by omega) hm) ?_
          refine Ev.bind (implSame_ev _ _ _ _ (by omega)) ?_
          refine ev_neg (by simp only [true_and, decide_eq_true_eq]; exact fun h => e h.symm) hi2)
  obtain ⟨r, hr, h1, h2⟩ := key 0 (by omega) [] (by simp)
  exact ⟨r, hr, h1, h2⟩

theorem axesOf_both (n : Int) (l : List Int) (hl : l.length ≤ 1048576) : ∃ r : List Int × Bool, r.1.length ≤ 1048576 ∧ Ev (fun k => spec_AxesOf.f k n l) r ∧ Ev (fun k => impl_AxesOf.f k n l) r := by
  cases hv : crowdV n l with
  | false =>
    refine ⟨([], false), by simp, ?_, ?_⟩
    · unfold spec_AxesOf.f
      refine Ev.bind (l10Crowd_ev n l hl) ?_
      rw [hv]; exact ev_neg (by simp) (Ev.now _)
    · unfold impl_AxesOf.f
      refine Ev.bind (implIsCrowd_ev n l hl) ?_
      rw [hv]; exact ev_neg (by simp) (Ev.now _)
  | true =>
    obtain ⟨r, hr, h1, h2⟩ := axes_both n l hv
    refine ⟨(r, true), by show r.length ≤ 1048576; omega, ?_, ?_⟩
    · unfold spec_AxesOf.f
      refine Ev.bind (l10Crowd_ev n l hl) ?_
      rw [hv]; refine ev_pos rfl ?_
      exact Ev.bind (f := fun _ t => some (t, true)) h1 (Ev.now _)
    · unfold impl_AxesOf.f
      refine Ev.bind (implIsCrowd_ev n l hl) ?_
      rw [hv]; refine ev_pos rfl ?_
      exact Ev.bind (f := fun _ t => some (t, true)) h2 (Ev.now _)

theorem FnExactAxesOf : FnExactAxesOfLeft := by
  intro s l _ hm _
  refine Ev.rounds (g := fun k => laws_FnExactAxesOf.f k s l) ?_
  unfold laws_FnExactAxesOf.f
  refine ev_bind0 (szCrowd_eq s l hm) ?_
  by_cases h : 1048576 - (l.length : Int) < 0
  · rw [if_pos h]; exact ev_pos (by omega) (Ev.now _)
  rw [if_neg h]
  refine ev_neg h ?_
  have hl : l.length ≤ 1048576 := by omega
  obtain ⟨r, hr, h1, h2⟩ := axesOf_both s l hl
  repeat (first
    | exact Ev.now _
    | (with_reducible refine Ev.bind (toCrowd_ev _ _ hl) ?_; try dsimp only)
    | (with_reducible refine Ev.bind h1 ?_; try dsimp only)
    | (with_reducible refine Ev.bind h2 ?_; try dsimp only)
    | (with_reducible refine Ev.bind (markCrowd_ev _ _ _ hl (by omega) (by omega)) ?_; try dsimp only)
    | (with_reducible refine Ev.bind (markIntS_ev _ _ hr (by omega) (by omega)) ?_; try dsimp only)
    | (with_reducible refine Ev.bind (heldIntS_ev _ _ hr (by omega) (by omega)) ?_; try dsimp only)
    | (with_reducible refine Ev.bind (eqCrowd_self _ _ (by omega)) ?_; try dsimp only)
    | (with_reducible refine Ev.bind (eqIntS_self _ (by omega)) ?_; try dsimp only)
    | (refine ev_pos (by first | exact True.intro | rfl | assumption | omega) ?_; try dsimp only)
    | (refine ev_neg (by first | (simp; done) | omega) ?_; try dsimp only)
    | (refine Ev.step (fun k => by simp only [laws_FnExactAxesOf.j0]; rfl) ?_)
    | (refine Ev.step (fun k => by simp only [laws_FnExactAxesOf.j1]; rfl) ?_)
    | (refine Ev.step (fun k => by simp only [laws_FnExactAxesOf.j2]; rfl) ?_))

end Go.Proofs.Ytjmpanikfomgeaa.Pure
