/- Functions that the law FnLanes comes to, as Lean functions, with the proof that the Go code does what they say: written by a program of this session over the kit's print. No condition but those named. -/
import Derived.Test.YthkbjcihelmaeaaQFnLanesx0
import Derived.Test.YthkbjcihelmaeaaQFnLanesx1
namespace Go.Proofs.Ythkbjcihelmaeaa.QFnLanes
open Go.RowKit Go.Proofs.YthkbjcihelmaeaaW.PrintWords Go.Proofs.YthkbjcihelmaeaaW.PrintLast Go.Proofs.YthkbjcihelmaeaaW.PrintMore Go.Proofs.Ythkbjcihelmaeaa.Short
attribute [local go_sem] max2_int min2_int max_two min_two max_three min_three max_four min_four   -- for this text's walks alone
set_option linter.unusedVariables false
set_option linter.unusedSimpArgs false

/-! ### impl_turn: function 48 -/
section
open Kd
def impl_turn.l0 : Nat → List Int → List Int → List Int → Int → List Int → Int → Int → Option (List Int × List Int × Int)
 | 0,_,_,_,_,_,_,_=>none
 | k + 1,x0,x5,x6,x7,x17,x18,x19=>if x19 < x18 then (if 0 ≤ x19 then (if x19 < (x17.length : Int) then (if x19 < (x6.length : Int) then ((some (x6.set (x19 : Int).toNat x19 : List Int)).bind fun y150=>(if (rd x17 x19) = 0 then (impl_turn.l0 k x0 x5 y150 x7 x17 x18 (wrap64 (x19 + 1))) else (if (x0.length : Int) = 0 then (none) else (if 0 ≤ (Int.tmod (wrap64 (x19 + 1)) (x0.length : Int)) then (if (Int.tmod (wrap64 (x19 + 1)) (x0.length : Int)) < (x0.length : Int) then (if (rd x0 (Int.tmod (wrap64 (x19 + 1)) (x0.length : Int))) = 0 then ((some (y150.set (x19 : Int).toNat (Int.tmod (wrap64 (x19 + 1)) (x0.length : Int)) : List Int)).bind fun y152=>(if 0 ≤ (rd y152 x19) then (if (rd y152 x19) < (x5.length : Int) then (impl_turn.l0 k x0 (x5.set ((rd y152 x19) : Int).toNat 1) y152 (wrap64 (x7 + 1)) x17 x18 (wrap64 (x19 + 1))) else (none)) else (none))) else (if 0 ≤ (rd y150 x19) then (if (rd y150 x19) < (x5.length : Int) then (impl_turn.l0 k x0 (x5.set ((rd y150 x19) : Int).toNat 1) y150 x7 x17 x18 (wrap64 (x19 + 1))) else (none)) else (none))) else (none)) else (none))))) else (none)) else (none)) else (none)) else (some (x5,x6,x7))
def impl_turn.f (k : Nat) (l0 : List Int) : Option (List Int × List Int × Int):=if 0 ≤ (l0.length : Int) then (if ((l0.length : Int) : Int).toNat ≤ 35184372088832 then (impl_turn.l0 k l0 (List.replicate ((l0.length : Int) : Int).toNat 0) (List.replicate ((l0.length : Int) : Int).toNat 0) 0 l0 (l0.length : Int) 0) else (none)) else (none)
theorem impl_turn.mono_l : ∀ k,(∀ y0 y1 y2 y3 y4 y5 y6,LeO (impl_turn.l0 k y0 y1 y2 y3 y4 y5 y6) (impl_turn.l0 (k + 1) y0 y1 y2 y3 y4 y5 y6))
 | 0=>fun _ _ _ _ _ _ _ r h=>by simp [impl_turn.l0] at h
 | k + 1=>by
  have ih0:=impl_turn.mono_l k
  ·intro y0 y1 y2 y3 y4 y5 y6
   unfold impl_turn.l0
   repeat' first
   | (with_reducible exact ih0 _ _ _ _ _ _ _)
   | (with_reducible exact LeO.refl _)
   | (with_reducible exact LeO.none _)
   | (with_reducible refine LeO.ite ?_ ?_)
   | (with_reducible refine LeO.bind ?_ (fun _=>?_))
   | exact ih0 _ _ _ _ _ _ _
   | exact LeO.none _
   | refine LeO.ite ?_ ?_
   | refine LeO.bind ?_ (fun _=>?_)
theorem impl_turn.mono : ∀ a0 k,LeO (impl_turn.f k a0) (impl_turn.f (k + 1) a0):=by
 intro a0 k
 have ih0:=impl_turn.mono_l k
 unfold impl_turn.f
 repeat' first
   | (with_reducible exact ih0 _ _ _ _ _ _ _)
   | (with_reducible exact LeO.refl _)
   | (with_reducible exact LeO.none _)
   | (with_reducible refine LeO.ite ?_ ?_)
   | (with_reducible refine LeO.bind ?_ (fun _=>?_))
   | exact ih0 _ _ _ _ _ _ _
   | exact LeO.none _
   | refine LeO.ite ?_ ?_
   | refine LeO.bind ?_ (fun _=>?_)
def impl_turn.T1 : Bool × List (List Nat × List Nat):=(true,[([],[]),([0],[0]),([1,1],[1]),([],[]),([3],[3]),([4,4],[4]),([2,0,1,2],[2]),([5,6,0,1,2,3,4,5,6],[5]),([7,0,1,2,3,4,5,6,7],[])])
def impl_turn.B1 : List Nat:=[0,1,3,0,8,24,7,127,255]
theorem impl_turn.tab1 : rtab .any (opsOf Try.f48 1) = impl_turn.T1:=by kernel_rfl
theorem impl_turn.bits1 : waitsOk impl_turn.T1.2 impl_turn.B1 = true:=by kernel_rfl
set_option maxHeartbeats 8000000 in
set_option maxRecDepth 100000 in
theorem impl_turn.calls (k : Nat) (A0 : Option Addr) (c0 : Nat) (l0 : List Int) (r1 : List Int) (r2 : List Int) (r3 : Int) (w : World) (hr0 : Kd.C (Kd.int .i64) w A0 l0.length l0) (hc0 : l0.length ≤ c0) (h : impl_turn.f k l0 = some (r1,r2,r3)) :
  Calls Try.prog 48 #[.slice A0 l0.length c0] w fun e w'=>∃ v0_ v1_ : Value,e = .returned (.tuple #[v0_,v1_,.int .i64 r3]) ∧ Kd.R (Kd.int .i64) 3 w' w.heap.size (fun k_=>some k_ ≠ (v1_ : Value).ownBlock) v0_ r1 ∧ Kd.R (Kd.int .i64) 3 w' w.heap.size (fun k_=>some k_ ≠ (v0_ : Value).ownBlock) v1_ r2 ∧ Below w.heap.size w w':=by
 have HR0:=Aside0.mk hr0
 have HC0:=Aside0.mk hc0
 clear hr0 hc0
 have HB:=Aside0.mk (Below.refl w.heap.size w)
 have H : (if 0 ≤ (l0.length : Int) then (if ((l0.length : Int) : Int).toNat ≤ 35184372088832 then (impl_turn.l0 k l0 (List.replicate ((l0.length : Int) : Int).toNat 0) (List.replicate ((l0.length : Int) : Int).toNat 0) 0 l0 (l0.length : Int) 0) else (none)) else (none)) = some (r1,r2,r3):=h
 clear h
 by_cases c2 : 0 ≤ (l0.length : Int)
 rotate_left
 ·rw [if_neg c2] at H
  exact absurd H (by simp)
 rw [if_pos c2] at H
 have c2b0:=eq_true c2
 have c2b1 : decide (0 ≤ (l0.length : Int)) = true:=decide_eq_true c2
 clear c2
 by_cases c3 : ((l0.length : Int) : Int).toNat ≤ 35184372088832
 rotate_left
 ·rw [if_neg c3] at H
  exact absurd H (by simp)
 rw [if_pos c3] at H
 have c3b0:=eq_true c3
 have c3b1 : decide (((l0.length : Int) : Int).toNat ≤ 35184372088832) = true:=decide_eq_true c3
 clear c3
 obtain ⟨y143,hy143⟩ : ∃ y_ : List Int,y_ = (List.replicate ((l0.length : Int) : Int).toNat 0):=⟨_,rfl⟩
 replace H : (impl_turn.l0 k l0 y143 (List.replicate ((l0.length : Int) : Int).toNat 0) 0 l0 (l0.length : Int) 0) = some (r1,r2,r3):=by first|(rw [hy143];with_reducible exact H)|(have H2_:=(Option.bind_some _ _).symm.trans H;rw [hy143];with_reducible exact H2_)|(have H2_:=(Option.bind_some _ _).symm.trans H;with_reducible exact H2_)|with_reducible exact H|(rw [hy143];exact H)|exact H
 have Ny143:=Aside0.mk hy143
 clear hy143
 obtain ⟨y146,hy146⟩ : ∃ y_ : List Int,y_ = (List.replicate ((l0.length : Int) : Int).toNat 0):=⟨_,rfl⟩
 replace H : (impl_turn.l0 k l0 y143 y146 0 l0 (l0.length : Int) 0) = some (r1,r2,r3):=by first|(rw [hy146];with_reducible exact H)|(have H2_:=(Option.bind_some _ _).symm.trans H;rw [hy146];with_reducible exact H2_)|(have H2_:=(Option.bind_some _ _).symm.trans H;with_reducible exact H2_)|with_reducible exact H|(rw [hy146];exact H)|exact H
 have Ny146:=Aside0.mk hy146
 clear hy146
 have H':=Aside0.mk H
 clear H
 go_enter Try.func48,Try.ntmps48
 try go_wp2
 have n0_:=Aside0.mk (below_drew1 HB.out)
 clear HB
 have HB:=n0_
 clear n0_
 refine start_ (n:=9) (S:=fun w'=>True) (ds:=[]) (lb 9 0) (by kernel_rfl) rfl rfl trivial (fun hHeld=>?_);refine with_tabW impl_turn.tab1 impl_turn.bits1 (fun HT_ HW_=>?_)
 generalize w.drew = w4 at HB hHeld ⊢
 refine pu 0 (N:=some 11) (v:=?_) (a':=?_) (lb 9 1) HT_ (by kernel_rfl) rfl rfl rfl (fun _ _ _ h=>h) ?_ ?_ ?_
 rotate_left
 ·intro w'
  go_simp
  with_reducible rfl
 rotate_left
 ·simp only [ap]
  rfl
 refine pu 1 (N:=some 12) (v:=?_) (a':=?_) (lb 9 3) HT_ (by kernel_rfl) rfl rfl rfl (fun _ _ _ h=>h) ?_ ?_ ?_
 rotate_left
 ·intro w'
  go_simp
  with_reducible rfl
 rotate_left
 ·simp only [ap]
  rfl
 refine pu 3 (N:=some 14) (v:=?_) (a':=?_) (lb 9 11) HT_ (by kernel_rfl) rfl rfl rfl (fun _ _ _ h=>h) ?_ ?_ ?_
 rotate_left
 ·intro w'
  go_simp
  with_reducible rfl
 rotate_left
 ·simp only [ap]
  rfl
 refine pu 4 (N:=some 15) (v:=?_) (a':=?_) (lb 9 27) HT_ (by kernel_rfl) rfl rfl rfl (fun _ _ _ h=>h) ?_ ?_ ?_
 rotate_left
 ·intro w'
  go_simp
  with_reducible rfl
 rotate_left
 ·simp only [ap]
  rfl
 refine join_ (σ:=Value × Value) 2 (lb 9 127) (fun s_=>[(13,s_.1),(16,s_.2),(5,s_.1)]) (fun s_ w'=>(Kd.R (Kd.int .i64) 3 w' w.heap.size (fun k_=>some k_ ≠ (s_.2 : Value).ownBlock) s_.1 y143) ∧ (Kd.R (Kd.int .i64) 3 w' w.heap.size (fun k_=>some k_ ≠ (s_.1 : Value).ownBlock) s_.2 y146) ∧ (Below w.heap.size w w')) ?_ ?_
 rotate_left
 ·intro hCont
  refine two_ (i:=2) (j:=5) (Ni:=some 13) (Nj:=some 16) (lb 9 31) (lb 9 59) rfl rfl rfl rfl (two_of HT_.out (by kernel_rfl)) (by decide) (by decide) (fun K hK=>?_) (fun K hK=>?_)
  rotate_left
  ·skip
   refine R_make_step (Kd.int .i64) _ 3 (by rfl) (N:=16) rfl 22 _ _ rfl (l0.length : Int) rfl rfl Try.underlying22 (.int .i64 0) 8 info3 rfl (by decide) (by omega) 0 (ok:=fun _=>True) (okp:=fun _=>True) rfl (fun _ hk=>hk) trivial (od) (Nat.le_trans (Nat.mul_le_mul_right _ (od : (l0.length : Int).toNat ≤ 35184372088832)) (by omega)) (Below.refl _ _) (Nat.le_refl _) ?_
   intro v147 w5 ho6 hb hg_ hnew_
   clear hg_ hnew_
   (first|rw [← Ny146.out] at ho6|(simp only [Int.reduceToNat] at ho6;rw [← Ny146.out] at ho6))
   have n0_:=Aside0.mk (R_lower ho6 (below_size (hm HB.out)))
   have n1_:=Aside0.mk (below_step (hm HB.out) hb)
   clear HB
   have HO148:=n0_
   have HB:=n1_
   clear n0_ n1_
   clear hb ho6
   refine hK.out _ _ trivial (fun hHeld=>?_)
   clear hK K
   refine norm_ (a':=?_) ?_ ?_
   rotate_left
   ·show Act.put _ (some 16) _ = _
    simp only [ap]
    rfl
   refine one_ (i:=2) (N:=some 13) (lb 9 63) rfl rfl (one_of HT_.out (by kernel_rfl)) (by decide) (fun K hK=>?_)
   refine R_make_step (Kd.int .i64) _ 3 (by rfl) (N:=13) rfl 22 _ _ rfl (l0.length : Int) rfl rfl Try.underlying22 (.int .i64 0) 8 info3 rfl (by decide) (by omega) 0 (ok:=fun _=>True) (okp:=fun _=>True) rfl (fun _ hk=>hk) trivial (od) (Nat.le_trans (Nat.mul_le_mul_right _ (od : (l0.length : Int).toNat ≤ 35184372088832)) (by omega)) (Below.refl _ _) (Nat.le_refl _) ?_
   intro v144 w7 ho8 hb hg_ hnew_
   clear hg_ hnew_
   (first|rw [← Ny143.out] at ho8|(simp only [Int.reduceToNat] at ho8;rw [← Ny143.out] at ho8))
   have n0_:=Aside0.mk (R_elder' (rm HO148.out) (R_base ho8) hb)
   have n1_:=Aside0.mk (R_lower (R_new' ho8 (R_lt (rm HO148.out))) (below_size (hm HB.out)))
   have n2_:=Aside0.mk (below_step (hm HB.out) hb)
   clear HO148
   clear HB
   have HO148:=n0_
   have HO145:=n1_
   have HB:=n2_
   clear n0_ n1_ n2_
   clear hb ho8
   refine hK.out _ _ trivial (fun hHeld=>?_)
   clear hK K
   refine norm_ (a':=?_) ?_ ?_
   rotate_left
   ·show Act.put _ (some 13) _ = _
    simp only [ap]
    rfl
   refine pu 6 (N:=some 5) (v:=?_) (a':=?_) (lb 9 127) HT_ (by kernel_rfl) rfl rfl rfl (fun _ _ _ h=>h) ?_ ?_ ?_
   rotate_left
   ·intro w'
    go_simp
    with_reducible rfl
   rotate_left
   ·simp only [ap]
    rfl
   exact norm_ (by simp only [putAll,Act.put,List.setIfInBounds_toArray,List.set_cons_zero,List.set_cons_succ]) (hCont (v144,v147) _ ⟨(rm (R_mono HO145.out (fun _ hk=>hk.2))),(rm (R_mono HO148.out (fun _ hk=>hk.2))),(hm HB.out)⟩)
  skip
  refine R_make_step (Kd.int .i64) _ 3 (by rfl) (N:=13) rfl 22 _ _ rfl (l0.length : Int) rfl rfl Try.underlying22 (.int .i64 0) 8 info3 rfl (by decide) (by omega) 0 (ok:=fun _=>True) (okp:=fun _=>True) rfl (fun _ hk=>hk) trivial (od) (Nat.le_trans (Nat.mul_le_mul_right _ (od : (l0.length : Int).toNat ≤ 35184372088832)) (by omega)) (Below.refl _ _) (Nat.le_refl _) ?_
  intro v144 w5 ho6 hb hg_ hnew_
  clear hg_ hnew_
  (first|rw [← Ny143.out] at ho6|(simp only [Int.reduceToNat] at ho6;rw [← Ny143.out] at ho6))
  have n0_:=Aside0.mk (R_lower ho6 (below_size (hm HB.out)))
  have n1_:=Aside0.mk (below_step (hm HB.out) hb)
  clear HB
  have HO145:=n0_
  have HB:=n1_
  clear n0_ n1_
  clear hb ho6
  refine hK.out _ _ trivial (fun hHeld=>?_)
  clear hK K
  refine norm_ (a':=?_) ?_ ?_
  rotate_left
  ·show Act.put _ (some 13) _ = _
   simp only [ap]
   rfl
  refine pu 6 (N:=some 5) (v:=?_) (a':=?_) (lb 9 95) HT_ (by kernel_rfl) rfl rfl rfl (fun _ _ _ h=>h) ?_ ?_ ?_
  rotate_left
  ·intro w'
   go_simp
   with_reducible rfl
  rotate_left
  ·simp only [ap]
   rfl
  refine one_ (i:=5) (N:=some 16) (lb 9 127) rfl rfl (one_of HT_.out (by kernel_rfl)) (by decide) (fun K hK=>?_)
  refine R_make_step (Kd.int .i64) _ 3 (by rfl) (N:=16) rfl 22 _ _ rfl (l0.length : Int) rfl rfl Try.underlying22 (.int .i64 0) 8 info3 rfl (by decide) (by omega) 0 (ok:=fun _=>True) (okp:=fun _=>True) rfl (fun _ hk=>hk) trivial (od) (Nat.le_trans (Nat.mul_le_mul_right _ (od : (l0.length : Int).toNat ≤ 35184372088832)) (by omega)) (Below.refl _ _) (Nat.le_refl _) ?_
  intro v147 w7 ho8 hb hg_ hnew_
  clear hg_ hnew_
  (first|rw [← Ny146.out] at ho8|(simp only [Int.reduceToNat] at ho8;rw [← Ny146.out] at ho8))
  have n0_:=Aside0.mk (R_elder' (rm HO145.out) (R_base ho8) hb)
  have n1_:=Aside0.mk (R_lower (R_new' ho8 (R_lt (rm HO145.out))) (below_size (hm HB.out)))
  have n2_:=Aside0.mk (below_step (hm HB.out) hb)
  clear HO145
  clear HB
  have HO145:=n0_
  have HO148:=n1_
  have HB:=n2_
  clear n0_ n1_ n2_
  clear hb ho8
  refine hK.out _ _ trivial (fun hHeld=>?_)
  clear hK K
  refine norm_ (a':=?_) ?_ ?_
  rotate_left
  ·show Act.put _ (some 16) _ = _
   simp only [ap]
   rfl
  exact norm_ (by simp only [putAll,Act.put,List.setIfInBounds_toArray,List.set_cons_zero,List.set_cons_succ]) (hCont (v144,v147) _ ⟨(rm (R_mono HO145.out (fun _ hk=>hk.2))),(rm (R_mono HO148.out (fun _ hk=>hk.2))),(hm HB.out)⟩)
 rintro ⟨v144,v147⟩ w9 ⟨h0_,h1_,h2_⟩
 have n0_ : Aside0 (Kd.R (Kd.int .i64) 3 w9 w.heap.size (fun k_=>some k_ ≠ (v147 : Value).ownBlock) v144 y143):=⟨h0_⟩
 have n1_ : Aside0 (Kd.R (Kd.int .i64) 3 w9 w.heap.size (fun k_=>some k_ ≠ (v144 : Value).ownBlock) v147 y146):=⟨h1_⟩
 have n2_ : Aside0 (Below w.heap.size w w9):=⟨h2_⟩
 clear HB
 clear h0_ h1_ h2_
 have HO145:=n0_
 have HO148:=n1_
 have HB:=n2_
 clear n0_ n1_ n2_
 have hHeld:=trivial
 refine norm_ (a':=?_) ?_ ?_
 rotate_left
 ·simp only [putAll,Act.put,List.setIfInBounds_toArray,List.set_cons_zero,List.set_cons_succ]
  rfl
 refine pu 7 (N:=some 6) (v:=?_) (a':=?_) (lb 9 255) HT_ (by kernel_rfl) rfl rfl rfl (fun _ _ _ h=>h) ?_ ?_ ?_
 rotate_left
 ·intro w'
  go_simp
  with_reducible rfl
 rotate_left
 ·simp only [ap]
  rfl
 refine pu 8 (N:=some 7) (v:=?_) (a':=?_) (lb 9 511) HT_ (by kernel_rfl) rfl rfl rfl (fun _ _ _ h=>h) ?_ ?_ ?_
 rotate_left
 ·intro w'
  go_simp
  with_reducible rfl
 rotate_left
 ·simp only [ap]
  rfl
 refine done_ (done_of HT_.out (by kernel_rfl)) ?_
 try go_wp2
 go_loopg [7,19] k (fun kq v7 v19 w'=>∃ (x5_1 : List Int) (x6_1 : List Int) (x7_1 : Int) (x19_1 : Int),v7 = .int .i64 x7_1 ∧ v19 = .int .i64 x19_1 ∧ Aside0 (impl_turn.l0 kq l0 x5_1 x6_1 x7_1 l0 (l0.length : Int) x19_1 = some (r1,r2,r3)) ∧ Aside0 (kq ≤ k) ∧ Aside0 (Kd.R (Kd.int .i64) 3 w' w.heap.size (fun k_=>some k_ ≠ (v147 : Value).ownBlock) v144 x5_1) ∧ Aside0 (Kd.R (Kd.int .i64) 3 w' w.heap.size (fun k_=>some k_ ≠ (v144 : Value).ownBlock) v147 x6_1) ∧ Aside0 (Below w.heap.size w w'))
 case atStart=>exact ⟨(y143),(y146),(0),(0),(by first|rfl|(simp;done)|(simp [*];done)),(by first|rfl|(simp;done)|(simp [*];done)),H',⟨Nat.le_refl _⟩,⟨rm HO145.out⟩,⟨rm HO148.out⟩,⟨hm HB.out⟩⟩
 clear H'
 try clear c2
 try clear c2b0
 try clear c2b1
 try clear p2
 try clear c3
 try clear c3b0
 try clear c3b1
 try clear c4
 obtain ⟨x5_1,x6_1,x7_1,x19_1,rfl,rfl,HA,HK1,HO_5,HO_6,HB⟩:=hrel
 cases gk with
 | zero=>exact absurd HA.out (by simp [impl_turn.l0])
 | succ k1 =>
  have H:=HA.out
  clear HA
  simp only [impl_turn.l0] at H
  by_cases c10 : x19_1 < (l0.length : Int)
  rotate_left
  ·rw [if_neg c10] at H
   have c10b0 : decide (x19_1 < (l0.length : Int)) = false:=decide_eq_false c10
   clear c10
   simp only [Option.some.injEq,Prod.mk.injEq] at H
   obtain ⟨rfl,rfl,rfl⟩:=H
   go_wp2
   go_ret3
   exact ⟨_,_,by first|rfl|(simp [errW_none,errW_some] <;> rfl)|(simp [*,errW_none,errW_some] <;> rfl),rm HO_5.out,rm HO_6.out,hm HB.out⟩
  rw [if_pos c10] at H
  have c10b0 : decide (x19_1 < (l0.length : Int)) = true:=decide_eq_true c10
  clear c10
  by_cases c11 : 0 ≤ x19_1
  rotate_left
  ·rw [if_neg c11] at H
   exact absurd H (by simp)
  rw [if_pos c11] at H
  have c11b0 : decide (0 ≤ x19_1) = true:=decide_eq_true c11
  clear c11
  by_cases c12 : x19_1 < (l0.length : Int)
  rotate_left
  ·rw [if_neg c12] at H
   exact absurd H (by simp)
  rw [if_pos c12] at H
  have c12b0 : decide (x19_1 < (l0.length : Int)) = true:=decide_eq_true c12
  clear c12
  by_cases c13 : x19_1 < (x6_1.length : Int)
  rotate_left
  ·rw [if_neg c13] at H
   exact absurd H (by simp)
  rw [if_pos c13] at H
  have c13b0 : decide (x19_1 < (x6_1.length : Int)) = true:=decide_eq_true c13
  clear c13
  obtain ⟨y150,hy150⟩ : ∃ y_ : List Int,y_ = (x6_1.set (x19_1 : Int).toNat x19_1):=⟨_,rfl⟩
  replace H : (if (rd l0 x19_1) = 0 then (impl_turn.l0 k1 l0 x5_1 y150 x7_1 l0 (l0.length : Int) (wrap64 (x19_1 + 1))) else (if (l0.length : Int) = 0 then (none) else (if 0 ≤ (Int.tmod (wrap64 (x19_1 + 1)) (l0.length : Int)) then (if (Int.tmod (wrap64 (x19_1 + 1)) (l0.length : Int)) < (l0.length : Int) then (if (rd l0 (Int.tmod (wrap64 (x19_1 + 1)) (l0.length : Int))) = 0 then ((some (y150.set (x19_1 : Int).toNat (Int.tmod (wrap64 (x19_1 + 1)) (l0.length : Int)) : List Int)).bind fun y152=>(if 0 ≤ (rd y152 x19_1) then (if (rd y152 x19_1) < (x5_1.length : Int) then (impl_turn.l0 k1 l0 (x5_1.set ((rd y152 x19_1) : Int).toNat 1) y152 (wrap64 (x7_1 + 1)) l0 (l0.length : Int) (wrap64 (x19_1 + 1))) else (none)) else (none))) else (if 0 ≤ (rd y150 x19_1) then (if (rd y150 x19_1) < (x5_1.length : Int) then (impl_turn.l0 k1 l0 (x5_1.set ((rd y150 x19_1) : Int).toNat 1) y150 x7_1 l0 (l0.length : Int) (wrap64 (x19_1 + 1))) else (none)) else (none))) else (none)) else (none)))) = some (r1,r2,r3):=by first|(rw [hy150];with_reducible exact H)|(have H2_:=(Option.bind_some _ _).symm.trans H;rw [hy150];with_reducible exact H2_)|(have H2_:=(Option.bind_some _ _).symm.trans H;with_reducible exact H2_)|with_reducible exact H|(rw [hy150];exact H)|exact H
  have Ny150:=Aside0.mk hy150
  clear hy150
  by_cases c15 : (rd l0 x19_1) = 0
  ·rw [if_pos c15] at H
   have c15b0 : ((rd l0 x19_1) == 0) = true:=beq_iff_eq.mpr c15
   have c15b1 : ((rd l0 x19_1) != 0) = false:=bne_eq_false_iff_eq.mpr c15
   clear c15
   have H':=Aside0.mk H
   clear H
   have p149 : 0 ≤ (x19_1 : Int):=od
   have q149 : x19_1 < (l0.length : Int):=od
   obtain ⟨ad149,e149,hx149_0⟩:=Kd.at_int HR0.out x19_1 p149 q149
   cases e149
   replace hx149_0:=(HB.out.cell (World.block_lt_of_cell? w _ hx149_0)).trans hx149_0
   replace p149:=eq_true p149
   replace q149:=eq_true q149
   have p14 : 0 ≤ (x19_1 : Int):=od
   have q14 : (x19_1 : Int) < ((x6_1.length : Int) : Int):=od
   obtain ⟨go14,co14,eo14,gb14,gl14,cl14,HG14⟩:=R_form HO_6.out (by omega)
   (first|cases eo14|(injection eo14 with ea_ en_ ec_;(first|subst ea_|(injection ea_ with ea_;subst ea_));subst ec_;clear en_))
   have GB14:=Aside0.mk gb14
   have GG14:=Aside0.mk HG14
   clear gb14 gl14 HG14
   obtain ⟨hx14_0,hf14_0⟩:=R_celln 0 HO_6.out (x19_1 : Int) p14 q14
   replace p14:=eq_true p14
   replace q14:=eq_true q14
   have HP16:=R_putg HO_6.out (x19_1 : Int) x19_1
   go_wp2_with (first|((with_reducible refine gate_store (t:=3) (p:=27) rfl ?_);refine store_event (t:=3) (p:=27) (v:=?vo_w17) (w1:=(wr.setCell ⟨go14,(x19_1 : Int).toNat,none⟩ (.int .i64 x19_1))) ?hg ?ho ?hn ?hr ?_;(case ho=>rfl);(case hg=>rfl);(case hn=>rfl);(case hr=>first|(go_simp;done)|(go_simp;rfl));intro w17 hw;have hg : wr.grownBy w17 (some go14):=(by rw [hw];exact HP16.2);have hp_ : Kd.R (Kd.int .i64) 3 w17 w.heap.size (fun k_=>some k_ ≠ (v144 : Value).ownBlock) (.slice (some ⟨go14,0,none⟩) x6_1.length co14) y150:=(by rw [hw,Ny150.out];exact HP16.1);clear HP16;have n0_:=Aside0.mk (R_after (v:=(.slice (some ⟨go14,0,none⟩) x6_1.length co14)) (v1:=(.slice (some ⟨go14,0,none⟩) x6_1.length co14)) (ok:=(fun _=>True)) (rm (R_mono HO_5.out (fun _ hk=>⟨trivial,hk⟩))) hg (.inl rfl));have n1_:=Aside0.mk (hp_);have n2_:=Aside0.mk ((by rw [hw];exact below_set (HB.out) GB14.out : Below w.heap.size w w17));clear HO_5;clear HO_6;clear HB;have HO_5:=n0_;have HO_6:=n1_;have HB:=n2_;clear n0_ n1_ n2_;clear hg hw hp_))
   go_roundg k1
   case measure=>have:=HK1.out;omega
   case rel=>exact ⟨(x5_1),(y150),(x7_1),(wrap64 (x19_1 + 1)),(by first|rfl|(simp;done)|(simp [*];done)),(by first|rfl|(simp;done)|(simp [*];done)),H',⟨by have:=HK1.out;omega⟩,⟨rm (R_mono HO_5.out (fun _ hk=>hk.2))⟩,⟨rm HO_6.out⟩,⟨hm HB.out⟩⟩
  rw [if_neg c15] at H
  have c15b0 : ((rd l0 x19_1) == 0) = false:=beq_eq_false_iff_ne.mpr c15
  have c15b1 : ((rd l0 x19_1) != 0) = true:=bne_iff_ne.mpr c15
  by_cases c18 : (l0.length : Int) = 0
  ·rw [if_pos c18] at H
   exact absurd H (by simp)
  rw [if_neg c18] at H
  have c18b0 : ((l0.length : Int) == 0) = false:=beq_eq_false_iff_ne.mpr c18
  have c18b1 : ((l0.length : Int) != 0) = true:=bne_iff_ne.mpr c18
  have c18b2 : ¬ (l0 = []):=fun h_=>c18 (by rw [h_];rfl)
  obtain ⟨ji19,hji19⟩ : ∃ j_ : Int,(Int.tmod (wrap64 (x19_1 + 1)) (l0.length : Int)) = j_:=⟨_,rfl⟩
  replace H : (if 0 ≤ (ji19) then (if (ji19) < (l0.length : Int) then (if (rd l0 (ji19)) = 0 then ((some (y150.set (x19_1 : Int).toNat (ji19) : List Int)).bind fun y152=>(if 0 ≤ (rd y152 x19_1) then (if (rd y152 x19_1) < (x5_1.length : Int) then (impl_turn.l0 k1 l0 (x5_1.set ((rd y152 x19_1) : Int).toNat 1) y152 (wrap64 (x7_1 + 1)) l0 (l0.length : Int) (wrap64 (x19_1 + 1))) else (none)) else (none))) else (if 0 ≤ (rd y150 x19_1) then (if (rd y150 x19_1) < (x5_1.length : Int) then (impl_turn.l0 k1 l0 (x5_1.set ((rd y150 x19_1) : Int).toNat 1) y150 x7_1 l0 (l0.length : Int) (wrap64 (x19_1 + 1))) else (none)) else (none))) else (none)) else (none)) = some (r1,r2,r3):=by first|(rw [hji19] at H;exact H)|(simp only [hji19] at H ⊢;exact H)
  by_cases c20 : 0 ≤ (ji19)
  rotate_left
  ·rw [if_neg c20] at H
   exact absurd H (by simp)
  rw [if_pos c20] at H
  have c20b0 : decide (0 ≤ (ji19)) = true:=decide_eq_true c20
  clear c20
  by_cases c21 : (ji19) < (l0.length : Int)
  rotate_left
  ·rw [if_neg c21] at H
   exact absurd H (by simp)
  rw [if_pos c21] at H
  have c21b0 : decide ((ji19) < (l0.length : Int)) = true:=decide_eq_true c21
  clear c21
  by_cases c22 : (rd l0 (ji19)) = 0
  rotate_left
  ·rw [if_neg c22] at H
   have c22b0 : ((rd l0 (ji19)) == 0) = false:=beq_eq_false_iff_ne.mpr c22
   have c22b1 : ((rd l0 (ji19)) != 0) = true:=bne_iff_ne.mpr c22
   by_cases c33 : 0 ≤ (rd y150 x19_1)
   rotate_left
   ·rw [if_neg c33] at H
    exact absurd H (by simp)
   rw [if_pos c33] at H
   have c33b0 : decide (0 ≤ (rd y150 x19_1)) = true:=decide_eq_true c33
   clear c33
   by_cases c34 : (rd y150 x19_1) < (x5_1.length : Int)
   rotate_left
   ·rw [if_neg c34] at H
    exact absurd H (by simp)
   rw [if_pos c34] at H
   have c34b0 : decide ((rd y150 x19_1) < (x5_1.length : Int)) = true:=decide_eq_true c34
   clear c34
   obtain ⟨y156,hy156⟩ : ∃ y_ : List Int,y_ = (x5_1.set ((rd y150 x19_1) : Int).toNat 1):=⟨_,rfl⟩
   replace H : (impl_turn.l0 k1 l0 y156 y150 x7_1 l0 (l0.length : Int) (wrap64 (x19_1 + 1))) = some (r1,r2,r3):=by first|(rw [hy156];with_reducible exact H)|(have H2_:=(Option.bind_some _ _).symm.trans H;rw [hy156];with_reducible exact H2_)|(have H2_:=(Option.bind_some _ _).symm.trans H;with_reducible exact H2_)|with_reducible exact H|(rw [hy156];exact H)|exact H
   have Ny156:=Aside0.mk hy156
   clear hy156
   have H':=Aside0.mk H
   clear H
   have p149 : 0 ≤ (x19_1 : Int):=od
   have q149 : x19_1 < (l0.length : Int):=od
   obtain ⟨ad149,e149,hx149_0⟩:=Kd.at_int HR0.out x19_1 p149 q149
   cases e149
   replace hx149_0:=(HB.out.cell (World.block_lt_of_cell? w _ hx149_0)).trans hx149_0
   replace p149:=eq_true p149
   replace q149:=eq_true q149
   have p14 : 0 ≤ (x19_1 : Int):=od
   have q14 : (x19_1 : Int) < ((x6_1.length : Int) : Int):=od
   obtain ⟨go14,co14,eo14,gb14,gl14,cl14,HG14⟩:=R_form HO_6.out (by omega)
   (first|cases eo14|(injection eo14 with ea_ en_ ec_;(first|subst ea_|(injection ea_ with ea_;subst ea_));subst ec_;clear en_))
   have GB14:=Aside0.mk gb14
   have GG14:=Aside0.mk HG14
   clear gb14 gl14 HG14
   obtain ⟨hx14_0,hf14_0⟩:=R_celln 0 HO_6.out (x19_1 : Int) p14 q14
   replace p14:=eq_true p14
   replace q14:=eq_true q14
   have HP36:=R_putg HO_6.out (x19_1 : Int) x19_1
   go_wp2_with (first|((with_reducible refine gate_store (t:=3) (p:=27) rfl ?_);refine store_event (t:=3) (p:=27) (v:=?vo_w37) (w1:=(wr.setCell ⟨go14,(x19_1 : Int).toNat,none⟩ (.int .i64 x19_1))) ?hg ?ho ?hn ?hr ?_;(case ho=>rfl);(case hg=>rfl);(case hn=>rfl);(case hr=>first|(go_simp;done)|(go_simp;rfl));intro w37 hw;have hg : wr.grownBy w37 (some go14):=(by rw [hw];exact HP36.2);have hp_ : Kd.R (Kd.int .i64) 3 w37 w.heap.size (fun k_=>some k_ ≠ (v144 : Value).ownBlock) (.slice (some ⟨go14,0,none⟩) x6_1.length co14) y150:=(by rw [hw,Ny150.out];exact HP36.1);clear HP36;have n0_:=Aside0.mk (R_after (v:=(.slice (some ⟨go14,0,none⟩) x6_1.length co14)) (v1:=(.slice (some ⟨go14,0,none⟩) x6_1.length co14)) (ok:=(fun _=>True)) (rm (R_mono HO_5.out (fun _ hk=>⟨trivial,hk⟩))) hg (.inl rfl));have n1_:=Aside0.mk (hp_);have n2_:=Aside0.mk ((by rw [hw];exact below_set (HB.out) GB14.out : Below w.heap.size w w37));clear HO_5;clear HO_6;clear HB;have HO_5:=n0_;have HO_6:=n1_;have HB:=n2_;clear n0_ n1_ n2_;clear hg hw hp_;have p151 : 0 ≤ ((ji19) : Int):=od;have q151 : (ji19) < (l0.length : Int):=od;obtain ⟨ad151,e151,hx151_0⟩:=Kd.at_int HR0.out (ji19) p151 q151;obtain rfl : ad149 = ad151:=(by injection e151);replace hx151_0:=(HB.out.cell (World.block_lt_of_cell? w _ hx151_0)).trans hx151_0;replace p151:=eq_true p151;replace q151:=eq_true q151;have p155 : 0 ≤ (x19_1 : Int):=od;have q155 : x19_1 < (y150.length : Int):=(by have h_ : (x19_1 : Int) < ((x6_1.length : Int) : Int):=od;first|(have e_:=(R_reads' HO_6.out).1;omega)|simpa only [Ny150.out,List.length_set] using h_);have ql155 : ((x19_1 : Int) < ((x6_1.length : Int) : Int)) = True:=eq_true (od);obtain ⟨ad155,e155,hx155_0⟩:=Kd.at_int (R_reads' HO_6.out).2.2 x19_1 p155 q155;obtain rfl : (⟨go14,0,none⟩ : Addr) = ad155:=(by injection e155);(first|simp only [add_plain] at hx155_0|simp only [add_at] at hx155_0|simp only [Addr.add,Nat.zero_add] at hx155_0|skip);replace p155:=eq_true p155;replace q155:=eq_true q155;have p35 : 0 ≤ ((rd y150 x19_1) : Int):=od;have q35 : ((rd y150 x19_1) : Int) < ((x5_1.length : Int) : Int):=od;obtain ⟨go35,co35,eo35,gb35,gl35,cl35,HG35⟩:=R_form HO_5.out (by omega);(first|cases eo35|(injection eo35 with ea_ en_ ec_;(first|subst ea_|(injection ea_ with ea_;subst ea_));subst ec_;clear en_));have GB35:=Aside0.mk gb35;have GG35:=Aside0.mk HG35;clear gb35 gl35 HG35;obtain ⟨hx35_0,hf35_0⟩:=R_celln 0 HO_5.out ((rd y150 x19_1) : Int) p35 q35;replace p35:=eq_true p35;replace q35:=eq_true q35;have n_:=Aside0.mk (R_mono (ok':=(fun k_=>some k_ ≠ (.slice (some ⟨go14,0,none⟩) x6_1.length co14 : Value).ownBlock)) HO_5.out (fun k_ hk=>hk.2));clear HO_5;have HO_5:=n_;clear n_;obtain ⟨hy38_,hz38_⟩:=R_celln 0 HO_5.out ((rd y150 x19_1) : Int) (od) (od);have HP38:=R_putg HO_5.out ((rd y150 x19_1) : Int) 1)|((with_reducible refine gate_store (t:=3) (p:=51) rfl ?_);refine store_event (t:=3) (p:=51) (v:=?vo_w39) (w1:=(w37.setCell ⟨go35,((rd y150 x19_1) : Int).toNat,none⟩ (.int .i64 1))) ?hg ?ho ?hn ?hr ?_;(case ho=>rfl);(case hg=>rfl);(case hn=>rfl);(case hr=>first|(go_simp;done)|(go_simp;rfl));intro w39 hw;have hg : w37.grownBy w39 (some go35):=(by rw [hw];exact HP38.2);have hp_ : Kd.R (Kd.int .i64) 3 w39 w.heap.size (fun k_=>some k_ ≠ (.slice (some ⟨go14,0,none⟩) x6_1.length co14 : Value).ownBlock) (.slice (some ⟨go35,0,none⟩) x5_1.length co35) y156:=(by rw [hw,Ny156.out];exact HP38.1);clear HP38;have n0_:=Aside0.mk (hp_);have n1_:=Aside0.mk (R_after (v:=(.slice (some ⟨go35,0,none⟩) x5_1.length co35)) (v1:=(.slice (some ⟨go35,0,none⟩) x5_1.length co35)) (ok:=(fun _=>True)) (rm (R_mono HO_6.out (fun _ hk=>⟨trivial,hk⟩))) hg (.inl rfl));have n2_:=Aside0.mk ((by rw [hw];exact below_set (HB.out) GB35.out : Below w.heap.size w w39));clear HO_5;clear HO_6;clear HB;have HO_5:=n0_;have HO_6:=n1_;have HB:=n2_;clear n0_ n1_ n2_;clear hg hw hp_))
   go_roundg k1
   case measure=>have:=HK1.out;omega
   case rel=>exact ⟨(y156),(y150),(x7_1),(wrap64 (x19_1 + 1)),(by first|rfl|(simp;done)|(simp [*];done)),(by first|rfl|(simp;done)|(simp [*];done)),H',⟨by have:=HK1.out;omega⟩,⟨rm HO_5.out⟩,⟨rm (R_mono HO_6.out (fun _ hk=>hk.2))⟩,⟨hm HB.out⟩⟩
  rw [if_pos c22] at H
  have c22b0 : ((rd l0 (ji19)) == 0) = true:=beq_iff_eq.mpr c22
  have c22b1 : ((rd l0 (ji19)) != 0) = false:=bne_eq_false_iff_eq.mpr c22
  clear c22
  obtain ⟨y152,hy152⟩ : ∃ y_ : List Int,y_ = (y150.set (x19_1 : Int).toNat (ji19)):=⟨_,rfl⟩
  replace H : (if 0 ≤ (rd y152 x19_1) then (if (rd y152 x19_1) < (x5_1.length : Int) then (impl_turn.l0 k1 l0 (x5_1.set ((rd y152 x19_1) : Int).toNat 1) y152 (wrap64 (x7_1 + 1)) l0 (l0.length : Int) (wrap64 (x19_1 + 1))) else (none)) else (none)) = some (r1,r2,r3):=by first|(rw [hy152];with_reducible exact H)|(have H2_:=(Option.bind_some _ _).symm.trans H;rw [hy152];with_reducible exact H2_)|(have H2_:=(Option.bind_some _ _).symm.trans H;with_reducible exact H2_)|with_reducible exact H|(rw [hy152];exact H)|exact H
  have Ny152:=Aside0.mk hy152
  clear hy152
  by_cases c24 : 0 ≤ (rd y152 x19_1)
  rotate_left
  ·rw [if_neg c24] at H
   exact absurd H (by simp)
  rw [if_pos c24] at H
  have c24b0 : decide (0 ≤ (rd y152 x19_1)) = true:=decide_eq_true c24
  clear c24
  by_cases c25 : (rd y152 x19_1) < (x5_1.length : Int)
  rotate_left
  ·rw [if_neg c25] at H
   exact absurd H (by simp)
  rw [if_pos c25] at H
  have c25b0 : decide ((rd y152 x19_1) < (x5_1.length : Int)) = true:=decide_eq_true c25
  clear c25
  obtain ⟨y154,hy154⟩ : ∃ y_ : List Int,y_ = (x5_1.set ((rd y152 x19_1) : Int).toNat 1):=⟨_,rfl⟩
  replace H : (impl_turn.l0 k1 l0 y154 y152 (wrap64 (x7_1 + 1)) l0 (l0.length : Int) (wrap64 (x19_1 + 1))) = some (r1,r2,r3):=by first|(rw [hy154];with_reducible exact H)|(have H2_:=(Option.bind_some _ _).symm.trans H;rw [hy154];with_reducible exact H2_)|(have H2_:=(Option.bind_some _ _).symm.trans H;with_reducible exact H2_)|with_reducible exact H|(rw [hy154];exact H)|exact H
  have Ny154:=Aside0.mk hy154
  clear hy154
  have H':=Aside0.mk H
  clear H
  have p149 : 0 ≤ (x19_1 : Int):=od
  have q149 : x19_1 < (l0.length : Int):=od
  obtain ⟨ad149,e149,hx149_0⟩:=Kd.at_int HR0.out x19_1 p149 q149
  cases e149
  replace hx149_0:=(HB.out.cell (World.block_lt_of_cell? w _ hx149_0)).trans hx149_0
  replace p149:=eq_true p149
  replace q149:=eq_true q149
  have p14 : 0 ≤ (x19_1 : Int):=od
  have q14 : (x19_1 : Int) < ((x6_1.length : Int) : Int):=od
  obtain ⟨go14,co14,eo14,gb14,gl14,cl14,HG14⟩:=R_form HO_6.out (by omega)
  (first|cases eo14|(injection eo14 with ea_ en_ ec_;(first|subst ea_|(injection ea_ with ea_;subst ea_));subst ec_;clear en_))
  have GB14:=Aside0.mk gb14
  have GG14:=Aside0.mk HG14
  clear gb14 gl14 HG14
  obtain ⟨hx14_0,hf14_0⟩:=R_celln 0 HO_6.out (x19_1 : Int) p14 q14
  replace p14:=eq_true p14
  replace q14:=eq_true q14
  have HP27:=R_putg HO_6.out (x19_1 : Int) x19_1
  go_wp2_with (first|((with_reducible refine gate_store (t:=3) (p:=27) rfl ?_);refine store_event (t:=3) (p:=27) (v:=?vo_w28) (w1:=(wr.setCell ⟨go14,(x19_1 : Int).toNat,none⟩ (.int .i64 x19_1))) ?hg ?ho ?hn ?hr ?_;(case ho=>rfl);(case hg=>rfl);(case hn=>rfl);(case hr=>first|(go_simp;done)|(go_simp;rfl));intro w28 hw;have hg : wr.grownBy w28 (some go14):=(by rw [hw];exact HP27.2);have hp_ : Kd.R (Kd.int .i64) 3 w28 w.heap.size (fun k_=>some k_ ≠ (v144 : Value).ownBlock) (.slice (some ⟨go14,0,none⟩) x6_1.length co14) y150:=(by rw [hw,Ny150.out];exact HP27.1);clear HP27;have n0_:=Aside0.mk (R_after (v:=(.slice (some ⟨go14,0,none⟩) x6_1.length co14)) (v1:=(.slice (some ⟨go14,0,none⟩) x6_1.length co14)) (ok:=(fun _=>True)) (rm (R_mono HO_5.out (fun _ hk=>⟨trivial,hk⟩))) hg (.inl rfl));have n1_:=Aside0.mk (hp_);have n2_:=Aside0.mk ((by rw [hw];exact below_set (HB.out) GB14.out : Below w.heap.size w w28));clear HO_5;clear HO_6;clear HB;have HO_5:=n0_;have HO_6:=n1_;have HB:=n2_;clear n0_ n1_ n2_;clear hg hw hp_;have p151 : 0 ≤ ((ji19) : Int):=od;have q151 : (ji19) < (l0.length : Int):=od;obtain ⟨ad151,e151,hx151_0⟩:=Kd.at_int HR0.out (ji19) p151 q151;obtain rfl : ad149 = ad151:=(by injection e151);replace hx151_0:=(HB.out.cell (World.block_lt_of_cell? w _ hx151_0)).trans hx151_0;replace p151:=eq_true p151;replace q151:=eq_true q151;have p23 : 0 ≤ (x19_1 : Int):=od;have q23 : (x19_1 : Int) < ((x6_1.length : Int) : Int):=od;obtain ⟨hx23_0,hf23_0⟩:=R_celln 0 HO_6.out (x19_1 : Int) p23 q23;replace p23:=eq_true p23;replace q23:=eq_true q23;obtain ⟨hy29_,hz29_⟩:=R_celln 0 HO_6.out (x19_1 : Int) (od) (od);have HP29:=R_putg HO_6.out (x19_1 : Int) ji19)|((with_reducible refine gate_store (t:=3) (p:=43) rfl ?_);refine store_event (t:=3) (p:=43) (v:=?vo_w30) (w1:=(w28.setCell ⟨go14,(x19_1 : Int).toNat,none⟩ (.int .i64 ji19))) ?hg ?ho ?hn ?hr ?_;(case ho=>rfl);(case hg=>rfl);(case hn=>rfl);(case hr=>first|(go_simp;done)|(go_simp;rfl));intro w30 hw;have hg : w28.grownBy w30 (some go14):=(by rw [hw];exact HP29.2);have hp_ : Kd.R (Kd.int .i64) 3 w30 w.heap.size (fun k_=>some k_ ≠ (v144 : Value).ownBlock) (.slice (some ⟨go14,0,none⟩) x6_1.length co14) y152:=(by rw [hw,Ny152.out];exact HP29.1);clear HP29;have n0_:=Aside0.mk (R_after (v:=(.slice (some ⟨go14,0,none⟩) x6_1.length co14)) (v1:=(.slice (some ⟨go14,0,none⟩) x6_1.length co14)) (ok:=(fun _=>True)) (rm HO_5.out) hg (.inl rfl));have n1_:=Aside0.mk (hp_);have n2_:=Aside0.mk ((by rw [hw];exact below_set (HB.out) GB14.out : Below w.heap.size w w30));clear HO_5;clear HO_6;clear HB;have HO_5:=n0_;have HO_6:=n1_;have HB:=n2_;clear n0_ n1_ n2_;clear hg hw hp_;have p153 : 0 ≤ (x19_1 : Int):=od;have q153 : x19_1 < (y152.length : Int):=(by have h_ : (x19_1 : Int) < ((x6_1.length : Int) : Int):=od;first|(have e_:=(R_reads' HO_6.out).1;omega)|simpa only [Ny150.out,Ny152.out,List.length_set] using h_);have ql153 : ((x19_1 : Int) < ((x6_1.length : Int) : Int)) = True:=eq_true (od);obtain ⟨ad153,e153,hx153_0⟩:=Kd.at_int (R_reads' HO_6.out).2.2 x19_1 p153 q153;obtain rfl : (⟨go14,0,none⟩ : Addr) = ad153:=(by injection e153);(first|simp only [add_plain] at hx153_0|simp only [add_at] at hx153_0|simp only [Addr.add,Nat.zero_add] at hx153_0|skip);replace p153:=eq_true p153;replace q153:=eq_true q153;have p26 : 0 ≤ ((rd y152 x19_1) : Int):=od;have q26 : ((rd y152 x19_1) : Int) < ((x5_1.length : Int) : Int):=od;obtain ⟨go26,co26,eo26,gb26,gl26,cl26,HG26⟩:=R_form HO_5.out (by omega);(first|cases eo26|(injection eo26 with ea_ en_ ec_;(first|subst ea_|(injection ea_ with ea_;subst ea_));subst ec_;clear en_));have GB26:=Aside0.mk gb26;have GG26:=Aside0.mk HG26;clear gb26 gl26 HG26;obtain ⟨hx26_0,hf26_0⟩:=R_celln 0 HO_5.out ((rd y152 x19_1) : Int) p26 q26;replace p26:=eq_true p26;replace q26:=eq_true q26;have n_:=Aside0.mk (R_mono (ok':=(fun k_=>some k_ ≠ (.slice (some ⟨go14,0,none⟩) x6_1.length co14 : Value).ownBlock)) HO_5.out (fun k_ hk=>hk.2));clear HO_5;have HO_5:=n_;clear n_;obtain ⟨hy31_,hz31_⟩:=R_celln 0 HO_5.out ((rd y152 x19_1) : Int) (od) (od);have HP31:=R_putg HO_5.out ((rd y152 x19_1) : Int) 1)|((with_reducible refine gate_store (t:=3) (p:=51) rfl ?_);refine store_event (t:=3) (p:=51) (v:=?vo_w32) (w1:=(w30.setCell ⟨go26,((rd y152 x19_1) : Int).toNat,none⟩ (.int .i64 1))) ?hg ?ho ?hn ?hr ?_;(case ho=>rfl);(case hg=>rfl);(case hn=>rfl);(case hr=>first|(go_simp;done)|(go_simp;rfl));intro w32 hw;have hg : w30.grownBy w32 (some go26):=(by rw [hw];exact HP31.2);have hp_ : Kd.R (Kd.int .i64) 3 w32 w.heap.size (fun k_=>some k_ ≠ (.slice (some ⟨go14,0,none⟩) x6_1.length co14 : Value).ownBlock) (.slice (some ⟨go26,0,none⟩) x5_1.length co26) y154:=(by rw [hw,Ny154.out];exact HP31.1);clear HP31;have n0_:=Aside0.mk (hp_);have n1_:=Aside0.mk (R_after (v:=(.slice (some ⟨go26,0,none⟩) x5_1.length co26)) (v1:=(.slice (some ⟨go26,0,none⟩) x5_1.length co26)) (ok:=(fun _=>True)) (rm (R_mono HO_6.out (fun _ hk=>⟨trivial,hk⟩))) hg (.inl rfl));have n2_:=Aside0.mk ((by rw [hw];exact below_set (HB.out) GB26.out : Below w.heap.size w w32));clear HO_5;clear HO_6;clear HB;have HO_5:=n0_;have HO_6:=n1_;have HB:=n2_;clear n0_ n1_ n2_;clear hg hw hp_))
  go_roundg k1
  case measure=>have:=HK1.out;omega
  case rel=>exact ⟨(y154),(y152),(wrap64 (x7_1 + 1)),(wrap64 (x19_1 + 1)),(by first|rfl|(simp;done)|(simp [*];done)),(by first|rfl|(simp;done)|(simp [*];done)),H',⟨by have:=HK1.out;omega⟩,⟨rm HO_5.out⟩,⟨rm (R_mono HO_6.out (fun _ hk=>hk.2))⟩,⟨hm HB.out⟩⟩

/-! ### impl_JamsOf: function 24 -/
def impl_JamsOf.l0 : Nat → List Int → List Int → List Int → Int → Int → Option (List Int × Bool)
 | 0,_,_,_,_,_=>none
 | k + 1,x4,x6,x20,x21,x22=>if x22 < x21 then (if 0 ≤ x22 then (if x22 < (x20.length : Int) then (if (rd x20 x22) = 1 then (if x22 < (x6.length : Int) then (if (rd x6 x22) = x22 then (if x4.length < 17592186044416 then (impl_JamsOf.l0 k (x4 ++ [x22]) x6 x20 x21 (wrap64 (x22 + 1))) else (none)) else (impl_JamsOf.l0 k x4 x6 x20 x21 (wrap64 (x22 + 1)))) else (none)) else (impl_JamsOf.l0 k x4 x6 x20 x21 (wrap64 (x22 + 1)))) else (none)) else (none)) else (some (x4,true))
def impl_JamsOf.f (k : Nat) (l0 : List Int) : Option (List Int × Bool):=(impl_IsLane.f k l0).bind fun t157=>(if t157 = true then ((impl_turn.f k l0).bind fun bt161=>(impl_JamsOf.l0 k (([] : List Int)) bt161.2.1 l0 (l0.length : Int) 0)) else (some (([] : List Int),false)))
theorem impl_JamsOf.mono_l : ∀ k,(∀ y0 y1 y2 y3 y4,LeO (impl_JamsOf.l0 k y0 y1 y2 y3 y4) (impl_JamsOf.l0 (k + 1) y0 y1 y2 y3 y4))
 | 0=>fun _ _ _ _ _ r h=>by simp [impl_JamsOf.l0] at h
 | k + 1=>by
  have ih0:=impl_JamsOf.mono_l k
  ·intro y0 y1 y2 y3 y4
   unfold impl_JamsOf.l0
   repeat' first
   | (with_reducible exact ih0 _ _ _ _ _)
   | (with_reducible exact impl_IsLane.mono _ _)
   | (with_reducible exact impl_turn.mono _ _)
   | (with_reducible exact LeO.refl _)
   | (with_reducible exact LeO.none _)
   | (with_reducible refine LeO.ite ?_ ?_)
   | (with_reducible refine LeO.bind ?_ (fun _=>?_))
   | exact ih0 _ _ _ _ _
   | exact impl_IsLane.mono _ _
   | exact impl_turn.mono _ _
   | exact LeO.none _
   | refine LeO.ite ?_ ?_
   | refine LeO.bind ?_ (fun _=>?_)
theorem impl_JamsOf.mono : ∀ a0 k,LeO (impl_JamsOf.f k a0) (impl_JamsOf.f (k + 1) a0):=by
 intro a0 k
 have ih0:=impl_JamsOf.mono_l k
 unfold impl_JamsOf.f
 repeat' first
   | (with_reducible exact ih0 _ _ _ _ _)
   | (with_reducible exact impl_IsLane.mono _ _)
   | (with_reducible exact impl_turn.mono _ _)
   | (with_reducible exact LeO.refl _)
   | (with_reducible exact LeO.none _)
   | (with_reducible refine LeO.ite ?_ ?_)
   | (with_reducible refine LeO.bind ?_ (fun _=>?_))
   | exact ih0 _ _ _ _ _
   | exact impl_IsLane.mono _ _
   | exact impl_turn.mono _ _
   | exact LeO.none _
   | refine LeO.ite ?_ ?_
   | refine LeO.bind ?_ (fun _=>?_)
set_option maxHeartbeats 8000000 in
set_option maxRecDepth 100000 in
theorem impl_JamsOf.calls (k : Nat) (A0 : Option Addr) (c0 : Nat) (l0 : List Int) (r1 : List Int) (r2 : Bool) (w : World) (hr0 : Kd.C (Kd.int .i64) w A0 l0.length l0) (hc0 : l0.length ≤ c0) (h : impl_JamsOf.f k l0 = some (r1,r2)) :
  Calls Try.prog 24 #[.slice A0 l0.length c0] w fun e w'=>∃ v0_ : Value,e = .returned (.tuple #[v0_,.bool r2]) ∧ Kd.R (Kd.int .i64) 3 w' w.heap.size (fun _=>True) v0_ r1 ∧ Below w.heap.size w w':=by
 have HR0:=Aside0.mk hr0
 have HC0:=Aside0.mk hc0
 clear hr0 hc0
 have HB:=Aside0.mk (Below.refl w.heap.size w)
 have H : ((impl_IsLane.f k l0).bind fun t157=>(if t157 = true then ((impl_turn.f k l0).bind fun bt161=>(impl_JamsOf.l0 k (([] : List Int)) bt161.2.1 l0 (l0.length : Int) 0)) else (some (([] : List Int),false)))) = some (r1,r2):=h
 clear h
 replace H:=Option.bind_eq_some_iff.mp H
 obtain ⟨t157,A20,H⟩:=H
 replace H : (if t157 = true then ((impl_turn.f k l0).bind fun bt161=>(impl_JamsOf.l0 k (([] : List Int)) bt161.2.1 l0 (l0.length : Int) 0)) else (some (([] : List Int),false))) = some (r1,r2):=H
 have A2:=Aside0.mk A20
 clear A20
 by_cases c3 : t157 = true
 rotate_left
 ·replace c3:=Bool.eq_false_iff.mpr c3
  subst c3
  have H1 : (some (([] : List Int),false)) = some (r1,r2):=by rw [if_neg (show ¬ (false = true) by decide)] at H;exact H
  clear H
  have H:=H1
  clear H1
  simp only [Option.some.injEq,Prod.mk.injEq] at H
  obtain ⟨rfl,rfl⟩:=H
  go_enter Try.func24,Try.ntmps24
  go_wp2_with (first|((with_reducible refine gate_callee (f:=15) rfl ?_);refine goesL_ (some 11) rfl rfl Try.func15 (by kernel_rfl) rfl #[.slice A0 l0.length c0] rfl (by (try simp only [List.map_toArray,List.map_cons,List.map_nil]);first|done|rfl|(simp only [List.length_drop,List.length_take];rfl)) ?_;(with_reducible refine (impl_IsLane.calls k _ _ l0 false _ ?side1 ?side2 A2.out).mono ?_);(case side1=>repeat (first|exact HR0.out|(with_reducible refine C_alloc ?_ _)|(with_reducible refine C_drewN ?_ _)|(with_reducible refine C_drew ?_)));(case side2=>exact HC0.out);rintro e w' ⟨rfl,⟨nd,rfl⟩⟩;refine ⟨_,rfl,?_⟩))
  go_ret2
  exact ⟨_,by first|rfl|(simp [errW_none,errW_some] <;> rfl)|(simp [*,errW_none,errW_some] <;> rfl),by first|exact R_nil _ _ _ _ _|exact Kd.N_nil _ _ _ _ _|exact Kd.V_nil _ _ _ _ _|exact Kd.Q_nil _ _ _ _ _|exact Kd.S_nil _ _ _ _ _,hm HB.out⟩
 subst c3
 have H1 : ((impl_turn.f k l0).bind fun bt161=>(impl_JamsOf.l0 k (([] : List Int)) bt161.2.1 l0 (l0.length : Int) 0)) = some (r1,r2):=by rw [if_pos rfl] at H;exact H
 clear H
 have H:=H1
 clear H1
 obtain ⟨y158,hy158⟩ : ∃ y_ : List Int,y_ = (([] : List Int)):=⟨_,rfl⟩
 replace H : ((impl_turn.f k l0).bind fun bt161=>(impl_JamsOf.l0 k y158 bt161.2.1 l0 (l0.length : Int) 0)) = some (r1,r2):=by first|(rw [hy158];with_reducible exact H)|(have H2_:=(Option.bind_some _ _).symm.trans H;rw [hy158];with_reducible exact H2_)|(have H2_:=(Option.bind_some _ _).symm.trans H;with_reducible exact H2_)|with_reducible exact H|(rw [hy158];exact H)|exact H
 have Ny158:=Aside0.mk hy158
 clear hy158
 replace H:=Option.bind_eq_some_iff.mp H
 obtain ⟨⟨t161,t162,t163⟩,A40,H⟩:=H
 replace H : (impl_JamsOf.l0 k y158 t162 l0 (l0.length : Int) 0) = some (r1,r2):=H
 have A4:=Aside0.mk A40
 clear A40
 have H':=Aside0.mk H
 clear H
 go_enter Try.func24,Try.ntmps24
 go_wp2_with (first|((with_reducible refine gate_callee (f:=15) rfl ?_);refine goesL_ (some 11) rfl rfl Try.func15 (by kernel_rfl) rfl #[.slice A0 l0.length c0] rfl (by (try simp only [List.map_toArray,List.map_cons,List.map_nil]);first|done|rfl|(simp only [List.length_drop,List.length_take];rfl)) ?_;(with_reducible refine (impl_IsLane.calls k _ _ l0 true _ ?side1 ?side2 A2.out).mono ?_);(case side1=>repeat (first|exact HR0.out|(with_reducible refine C_alloc ?_ _)|(with_reducible refine C_drewN ?_ _)|(with_reducible refine C_drew ?_)));(case side2=>exact HC0.out);rintro e w' ⟨rfl,⟨nd,rfl⟩⟩;refine ⟨_,rfl,?_⟩)|((with_reducible refine gate_dst (N:=13) rfl ?_);refine R_lit (Kd.int .i64) _ 3 ?hg (N:=13) ?hd (xs:=([] : List Int)) (inner:=[]) (ok:=fun _=>True) (okp:=fun _=>True) ?hr ?hp (fun _ hk=>hk) trivial (Below.refl _ _) (Nat.le_refl _) (by simp) ?_;(case hd=>rfl);(case hg=>rfl);(case hr=>first|(go_simp;done)|(go_simp;rfl));(case hp=>exact (Reps.none _ _));intro v159 w5 ho6 hb hg_ hnew_;clear hg_ hnew_;(first|rw [← Ny158.out] at ho6|(simp only [Int.reduceToNat] at ho6;rw [← Ny158.out] at ho6));have n0_:=Aside0.mk (R_lower ho6 (below_size (hm HB.out)));have n1_:=Aside0.mk (below_step (hm HB.out) hb);clear HB;have HO160:=n0_;have HB:=n1_;clear n0_ n1_;clear hb ho6)|((with_reducible refine gate_callee (f:=48) rfl ?_);refine goesL_ (some 16) rfl rfl Try.func48 (by kernel_rfl) rfl #[.slice A0 l0.length c0] rfl (by (try simp only [List.map_toArray,List.map_cons,List.map_nil]);first|done|rfl|(simp only [List.length_drop,List.length_take];rfl)) ?_;(with_reducible refine (impl_turn.calls k _ _ l0 t161 t162 t163 _ ?side1 ?side2 A4.out).mono ?_);(case side1=>exact cm (C_below HR0.out HB.out));(case side2=>exact HC0.out);rintro e w7 ⟨v164,v166,rfl,ho0,ho1,hb⟩;refine ⟨_,rfl,?_⟩;have n0_:=Aside0.mk (R_mono (R_told (R_told (R_old (rm HO160.out) hb) (R_base ho0)) (R_base ho1)) (fun _ h_=>h_.1));have n1_:=Aside0.mk (R_lower (R_new' ho0 (R_lt (rm HO160.out))) (below_size (hm HB.out)));have n2_:=Aside0.mk (R_lower (R_new' ho1 (R_lt (rm HO160.out))) (below_size (hm HB.out)));have n3_:=Aside0.mk (below_step (hm HB.out) hb);clear HO160;clear HB;have HO160:=n0_;have HO165:=n1_;have HO167:=n2_;have HB:=n3_;clear n0_ n1_ n2_ n3_;(try clear hb);(try clear hb2);(try clear hk);(try clear hi);(try clear ho0);(try clear ho1)))
 go_loopg [4,22] k (fun kq v4 v22 w'=>∃ (x4_1 : List Int) (x22_1 : Int),v22 = .int .i64 x22_1 ∧ Aside0 (impl_JamsOf.l0 kq x4_1 t162 l0 (l0.length : Int) x22_1 = some (r1,r2)) ∧ Aside0 (kq ≤ k) ∧ Aside0 (Kd.R (Kd.int .i64) 3 w' w.heap.size (fun k_=>some k_ ≠ (v166 : Value).ownBlock) v4 x4_1) ∧ Aside0 (Kd.R (Kd.int .i64) 3 w' w.heap.size (fun k_=>some k_ ≠ (v4 : Value).ownBlock) v166 t162) ∧ Aside0 (Below w.heap.size w w'))
 case atStart=>exact ⟨(y158),(0),(by first|rfl|(simp;done)|(simp [*];done)),H',⟨Nat.le_refl _⟩,⟨rm (R_mono HO160.out (fun _ hk=>hk.2))⟩,⟨rm (R_mono HO167.out (fun _ hk=>hk.2))⟩,⟨hm HB.out⟩⟩
 clear H'
 try clear c1
 try clear c2
 try clear p2
 try clear c3
 try clear c4
 obtain ⟨x4_1,x22_1,rfl,HA,HK1,HO_4,HO_6,HB⟩:=hrel
 cases gk with
 | zero=>exact absurd HA.out (by simp [impl_JamsOf.l0])
 | succ k1 =>
  have H:=HA.out
  clear HA
  simp only [impl_JamsOf.l0] at H
  by_cases c8 : x22_1 < (l0.length : Int)
  rotate_left
  ·rw [if_neg c8] at H
   have c8b0 : decide (x22_1 < (l0.length : Int)) = false:=decide_eq_false c8
   clear c8
   simp only [Option.some.injEq,Prod.mk.injEq] at H
   obtain ⟨rfl,rfl⟩:=H
   go_wp2
   go_ret2
   exact ⟨_,by first|rfl|(simp [errW_none,errW_some] <;> rfl)|(simp [*,errW_none,errW_some] <;> rfl),rm (R_mono HO_4.out (fun _ hk=>trivial)),hm HB.out⟩
  rw [if_pos c8] at H
  have c8b0 : decide (x22_1 < (l0.length : Int)) = true:=decide_eq_true c8
  clear c8
  by_cases c9 : 0 ≤ x22_1
  rotate_left
  ·rw [if_neg c9] at H
   exact absurd H (by simp)
  rw [if_pos c9] at H
  have c9b0 : decide (0 ≤ x22_1) = true:=decide_eq_true c9
  clear c9
  by_cases c10 : x22_1 < (l0.length : Int)
  rotate_left
  ·rw [if_neg c10] at H
   exact absurd H (by simp)
  rw [if_pos c10] at H
  have c10b0 : decide (x22_1 < (l0.length : Int)) = true:=decide_eq_true c10
  clear c10
  by_cases c11 : (rd l0 x22_1) = 1
  rotate_left
  ·rw [if_neg c11] at H
   have c11b0 : ((rd l0 x22_1) == 1) = false:=beq_eq_false_iff_ne.mpr c11
   have c11b1 : ((rd l0 x22_1) != 1) = true:=bne_iff_ne.mpr c11
   have H':=Aside0.mk H
   clear H
   have p168 : 0 ≤ (x22_1 : Int):=od
   have q168 : x22_1 < (l0.length : Int):=od
   obtain ⟨ad168,e168,hx168_0⟩:=Kd.at_int HR0.out x22_1 p168 q168
   cases e168
   replace hx168_0:=(HB.out.cell (World.block_lt_of_cell? w _ hx168_0)).trans hx168_0
   replace p168:=eq_true p168
   replace q168:=eq_true q168
   go_wp2
   go_roundg k1
   case measure=>have:=HK1.out;omega
   case rel=>exact ⟨(x4_1),(wrap64 (x22_1 + 1)),(by first|rfl|(simp;done)|(simp [*];done)),H',⟨by have:=HK1.out;omega⟩,⟨rm HO_4.out⟩,⟨rm HO_6.out⟩,⟨hm HB.out⟩⟩
  rw [if_pos c11] at H
  have c11b0 : ((rd l0 x22_1) == 1) = true:=beq_iff_eq.mpr c11
  have c11b1 : ((rd l0 x22_1) != 1) = false:=bne_eq_false_iff_eq.mpr c11
  clear c11
  by_cases c12 : x22_1 < (t162.length : Int)
  rotate_left
  ·rw [if_neg c12] at H
   exact absurd H (by simp)
  rw [if_pos c12] at H
  have c12b0 : decide (x22_1 < (t162.length : Int)) = true:=decide_eq_true c12
  clear c12
  by_cases c13 : (rd t162 x22_1) = x22_1
  rotate_left
  ·rw [if_neg c13] at H
   have c13b0 : ((rd t162 x22_1) == x22_1) = false:=beq_eq_false_iff_ne.mpr c13
   have c13b1 : ((rd t162 x22_1) != x22_1) = true:=bne_iff_ne.mpr c13
   have H':=Aside0.mk H
   clear H
   have p168 : 0 ≤ (x22_1 : Int):=od
   have q168 : x22_1 < (l0.length : Int):=od
   obtain ⟨ad168,e168,hx168_0⟩:=Kd.at_int HR0.out x22_1 p168 q168
   cases e168
   replace hx168_0:=(HB.out.cell (World.block_lt_of_cell? w _ hx168_0)).trans hx168_0
   replace p168:=eq_true p168
   replace q168:=eq_true q168
   obtain ⟨Ao17,co17,eo17⟩:=R_slice HO_6.out
   subst eo17
   have p169 : 0 ≤ (x22_1 : Int):=od
   have q169 : x22_1 < (t162.length : Int):=od
   obtain ⟨ad169,e169,hx169_0⟩:=Kd.at_int (R_reads' HO_6.out).2.2 x22_1 p169 q169
   cases e169
   replace p169:=eq_true p169
   replace q169:=eq_true q169
   go_wp2
   go_roundg k1
   case measure=>have:=HK1.out;omega
   case rel=>exact ⟨(x4_1),(wrap64 (x22_1 + 1)),(by first|rfl|(simp;done)|(simp [*];done)),H',⟨by have:=HK1.out;omega⟩,⟨rm HO_4.out⟩,⟨rm HO_6.out⟩,⟨hm HB.out⟩⟩
  rw [if_pos c13] at H
  have c13b0 : ((rd t162 x22_1) == x22_1) = true:=beq_iff_eq.mpr c13
  have c13b1 : ((rd t162 x22_1) != x22_1) = false:=bne_eq_false_iff_eq.mpr c13
  clear c13
  by_cases c14 : x4_1.length < 17592186044416
  rotate_left
  ·rw [if_neg c14] at H
   exact absurd H (by simp)
  rw [if_pos c14] at H
  have LMc14:=Aside0.mk c14
  clear c14
  obtain ⟨y170,hy170⟩ : ∃ y_ : List Int,y_ = (x4_1 ++ [x22_1]):=⟨_,rfl⟩
  replace H : (impl_JamsOf.l0 k1 y170 t162 l0 (l0.length : Int) (wrap64 (x22_1 + 1))) = some (r1,r2):=by first|(rw [hy170];with_reducible exact H)|(have H2_:=(Option.bind_some _ _).symm.trans H;rw [hy170];with_reducible exact H2_)|(have H2_:=(Option.bind_some _ _).symm.trans H;with_reducible exact H2_)|with_reducible exact H|(rw [hy170];exact H)|exact H
  have Ny170:=Aside0.mk hy170
  clear hy170
  have H':=Aside0.mk H
  clear H
  have p168 : 0 ≤ (x22_1 : Int):=od
  have q168 : x22_1 < (l0.length : Int):=od
  obtain ⟨ad168,e168,hx168_0⟩:=Kd.at_int HR0.out x22_1 p168 q168
  cases e168
  replace hx168_0:=(HB.out.cell (World.block_lt_of_cell? w _ hx168_0)).trans hx168_0
  replace p168:=eq_true p168
  replace q168:=eq_true q168
  obtain ⟨Ao15,co15,eo15⟩:=R_slice HO_6.out
  subst eo15
  have p169 : 0 ≤ (x22_1 : Int):=od
  have q169 : x22_1 < (t162.length : Int):=od
  obtain ⟨ad169,e169,hx169_0⟩:=Kd.at_int (R_reads' HO_6.out).2.2 x22_1 p169 q169
  cases e169
  replace p169:=eq_true p169
  replace q169:=eq_true q169
  go_wp2_with (first|((with_reducible refine gate_builtin (b:=.append) (xs:=#[.tmp 37,.tmp 39]) rfl ?_);at_builtin;refine R_append (Kd.int .i64) (w0:=w) w.heap.size rfl (.tmp 37) (.tmp 39) 22 3 (.int .i64 0) 8 rfl Try.underlying22 info3 rfl (by decide) (by omega) u4 x4_1 x22_1 [.int .i64 x22_1] (fun k_=>some k_ ≠ (.slice (some ad169) t162.length co15 : Value).ownBlock) (fun _=>False) rfl rfl ?aP (fun _ hk=>hk.elim) ?aF ?aO ?aB ?aS ?aL ?_;(case aP=>exact rfl);(case aB=>exact (hm HB.out));(case aF=>exact (fun k_ hk=>Kd.fresh' (R_lt (rm HO_6.out)) k_ hk));(case aO=>exact (rm HO_4.out));(case aS=>exact (below_size (hm HB.out)));(case aL=>have:=LMc14.out;omega);intro v171 w16 ho hb hg hat;rw [← Ny170.out] at ho;have n0_:=Aside0.mk (R_after (ok:=(fun _=>True)) (rm (R_mono HO_6.out (fun _ hk=>⟨trivial,hk⟩))) hg hat);have n1_:=Aside0.mk (hb);have n2_:=Aside0.mk (ho);clear HO_6;clear HB;clear HO_4;have HO_6:=n0_;have HB:=n1_;have HO172:=n2_;clear n0_ n1_ n2_;clear ho hb hg hat))
  go_roundg k1
  case measure=>have:=HK1.out;omega
  case rel=>exact ⟨(y170),(wrap64 (x22_1 + 1)),(by first|rfl|(simp;done)|(simp [*];done)),H',⟨by have:=HK1.out;omega⟩,⟨rm HO172.out⟩,⟨rm (R_mono HO_6.out (fun _ hk=>hk.2))⟩,⟨hm HB.out⟩⟩

/-! ### spec_l1Own: function 51 -/
def spec_l1Own.f (l0 : List Int) : Option (List Int):=(some (([] : List Int) : List Int)).bind fun y173=>(if y173.length + l0.length < 17592186044416 then (some (y173 ++ l0)) else (none))
set_option maxHeartbeats 8000000 in
set_option maxRecDepth 100000 in
theorem spec_l1Own.calls (A0 : Option Addr) (c0 : Nat) (l0 : List Int) (r : List Int) (w : World) (hr0 : Kd.C (Kd.int .i64) w A0 l0.length l0) (hc0 : l0.length ≤ c0) (h : spec_l1Own.f l0 = some r) :
  Calls Try.prog 51 #[.slice A0 l0.length c0] w fun e w'=>∃ v0_ : Value,e = .returned (v0_) ∧ Kd.R (Kd.int .i64) 3 w' w.heap.size (fun _=>True) v0_ r ∧ Below w.heap.size w w':=by
 have HR0:=Aside0.mk hr0
 have HC0:=Aside0.mk hc0
 clear hr0 hc0
 have HB:=Aside0.mk (Below.refl w.heap.size w)
 have H : ((some (([] : List Int) : List Int)).bind fun y173=>(if y173.length + l0.length < 17592186044416 then (some (y173 ++ l0)) else (none))) = some r:=h
 clear h
 obtain ⟨y173,hy173⟩ : ∃ y_ : List Int,y_ = (([] : List Int)):=⟨_,rfl⟩
 replace H : (if y173.length + l0.length < 17592186044416 then (some (y173 ++ l0)) else (none)) = some r:=by first|(rw [hy173];with_reducible exact H)|(have H2_:=(Option.bind_some _ _).symm.trans H;rw [hy173];with_reducible exact H2_)|(have H2_:=(Option.bind_some _ _).symm.trans H;with_reducible exact H2_)|with_reducible exact H|(rw [hy173];exact H)|exact H
 have Ny173:=Aside0.mk hy173
 clear hy173
 by_cases c2 : y173.length + l0.length < 17592186044416
 rotate_left
 ·rw [if_neg c2] at H
  exact absurd H (by simp)
 rw [if_pos c2] at H
 have LMc2:=Aside0.mk c2
 clear c2
 obtain ⟨y176,hy176⟩ : ∃ y_ : List Int,y_ = (y173 ++ l0):=⟨_,rfl⟩
 replace H : (some y176) = some r:=by first|(rw [hy176];with_reducible exact H)|(have H2_:=(Option.bind_some _ _).symm.trans H;rw [hy176];with_reducible exact H2_)|(have H2_:=(Option.bind_some _ _).symm.trans H;with_reducible exact H2_)|with_reducible exact H|(rw [hy176];exact H)|exact H
 have Ny176:=Aside0.mk hy176
 clear hy176
 obtain rfl:=Option.some.inj H
 go_enter Try.func51,Try.ntmps51
 go_wp2_with (first|((with_reducible refine gate_dst (N:=3) rfl ?_);refine R_lit (Kd.int .i64) _ 3 ?hg (N:=3) ?hd (xs:=([] : List Int)) (inner:=[]) (ok:=fun _=>True) (okp:=fun _=>True) ?hr ?hp (fun _ hk=>hk) trivial (Below.refl _ _) (Nat.le_refl _) (by simp) ?_;(case hd=>rfl);(case hg=>rfl);(case hr=>first|(go_simp;done)|(go_simp;rfl));(case hp=>exact (Reps.none _ _));intro v174 w3 ho4 hb hg_ hnew_;clear hg_ hnew_;(first|rw [← Ny173.out] at ho4|(simp only [Int.reduceToNat] at ho4;rw [← Ny173.out] at ho4));have n0_:=Aside0.mk (R_lower ho4 (below_size (hm HB.out)));have n1_:=Aside0.mk (below_step (hm HB.out) hb);clear HB;have HO175:=n0_;have HB:=n1_;clear n0_ n1_;clear hb ho4)|((with_reducible refine gate_builtin (b:=.append) (xs:=#[.tmp 3,.tmp 4]) rfl ?_);at_builtin;refine R_append_rows (Kd.int .i64) (w0:=w) w.heap.size rfl (.tmp 3) (.tmp 4) 22 3 (.int .i64 0) 8 rfl Try.underlying22 info3 rfl (by decide) (by omega) v174 y173 l0 _ _ _ (fun _=>True) (fun _=>False) rfl rfl ?aO ?aR (fun _ _ h=>h) (fun _ h=>h.elim) ?aF ?aB ?aS ?aL ?_;(case aR=>exact cm (C_below HR0.out HB.out));(case aB=>exact (hm HB.out));(case aF=>exact (fun _ _=>trivial));(case aO=>exact (rm HO175.out));(case aS=>exact (below_size (hm HB.out)));(case aL=>have:=LMc2.out;omega);intro v177 w5 ho hb hg hat;rw [← Ny176.out] at ho;have n0_:=Aside0.mk (hb);have n1_:=Aside0.mk (ho);clear HB;clear HO175;have HB:=n0_;have HO178:=n1_;clear n0_ n1_;clear ho hb hg hat))
 go_ret
 exact ⟨_,by first|rfl|(simp [errW_none,errW_some] <;> rfl)|(simp [*,errW_none,errW_some] <;> rfl),rm HO178.out,hm HB.out⟩


end
end Go.Proofs.Ythkbjcihelmaeaa.QFnLanes
