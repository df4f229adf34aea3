/- Functions that the law FnSensors comes to, as Lean functions, with the proof that the Go code does what they say: written by a program of this session over the kit's print. No condition but those named. -/
import Derived.Test.YtknfhoghimnieaaQFnSensorsx0
import Derived.Test.YtknfhoghimnieaaQFnSensorsx3
import Derived.Test.YtknfhoghimnieaaQFnSensorsx5
import Derived.Test.YtknfhoghimnieaaQFnSensorsx6
namespace Go.Proofs.Ytknfhoghimnieaa.QFnSensors
open Go.RowKit Go.Proofs.YtknfhoghimnieaaW.PrintWords Go.Proofs.YtknfhoghimnieaaW.PrintLast Go.Proofs.YtknfhoghimnieaaW.PrintMore Go.Proofs.Ytknfhoghimnieaa.Short
attribute [local go_sem] max2_int min2_int max_two min_two max_three min_three max_four min_four   -- for this text's walks alone
set_option linter.unusedVariables false
set_option linter.unusedSimpArgs false

section
open Kd
/-! ### slices_Min_int_int: function 51 -/
def slices_Min_int_int.l0 : Nat → List Int → Int → Int → Option (Int)
 | 0,_,_,_=>none
 | k + 1,x0,x3,x4=>if x4 < (x0.length : Int) then (if 0 ≤ x4 then (slices_Min_int_int.l0 k x0 (mn x3 (rd x0 x4)) (wrap64 (x4 + 1))) else (none)) else (some x3)
def slices_Min_int_int.f (k : Nat) (l0 : List Int) : Option (Int):=if (l0.length : Int) < 1 then (none) else (if 0 < (l0.length : Int) then (slices_Min_int_int.l0 k l0 (rd l0 0) 1) else (none))
theorem slices_Min_int_int.mono_l : ∀ k,(∀ y0 y1 y2,LeO (slices_Min_int_int.l0 k y0 y1 y2) (slices_Min_int_int.l0 (k + 1) y0 y1 y2))
 | 0=>by
  refine ?_<;>(intros;intro r h;simp [slices_Min_int_int.l0] at h)
 | k + 1=>by
  have ih0:=slices_Min_int_int.mono_l k
  refine ?_<;>intros<;>(first|unfold slices_Min_int_int.l0)<;>(repeat' first|(with_reducible exact ih0 ..)|(with_reducible exact LeO.refl _)|(with_reducible exact LeO.none _)|(with_reducible refine LeO.ite ?_ ?_)|(with_reducible refine LeO.bind ?_ (fun _=>?_))|exact ih0 ..|exact LeO.none _|refine LeO.ite ?_ ?_|refine LeO.bind ?_ (fun _=>?_))
theorem slices_Min_int_int.mono : ∀ a0 k,LeO (slices_Min_int_int.f k a0) (slices_Min_int_int.f (k + 1) a0):=by
 intro a0 k
 have ih0:=slices_Min_int_int.mono_l k
 unfold slices_Min_int_int.f
 repeat' first
   | (with_reducible exact ih0 _ _ _)
   | (with_reducible exact LeO.refl _)
   | (with_reducible exact LeO.none _)
   | (with_reducible refine LeO.ite ?_ ?_)
   | (with_reducible refine LeO.bind ?_ (fun _=>?_))
   | exact ih0 _ _ _
   | exact LeO.none _
   | refine LeO.ite ?_ ?_
   | refine LeO.bind ?_ (fun _=>?_)
set_option maxHeartbeats 8000000 in
set_option maxRecDepth 100000 in
theorem slices_Min_int_int.calls (k : Nat) (A0 : Option Addr) (c0 : Nat) (l0 : List Int) (r : Int) (w : World) (hr0 : Kd.C (Kd.int .i64) w A0 l0.length l0) (hc0 : l0.length ≤ c0) (h : slices_Min_int_int.f k l0 = some r) :
  Calls Try.prog 51 #[.slice A0 l0.length c0] w fun e w'=>e = .returned (.int .i64 r) ∧ Below w.heap.size w w':=by
 have HR0:=Aside0.mk hr0
 have HC0:=Aside0.mk hc0
 clear hr0 hc0
 have HB:=Aside0.mk (Below.refl w.heap.size w)
 have H : (if (l0.length : Int) < 1 then (none) else (if 0 < (l0.length : Int) then (slices_Min_int_int.l0 k l0 (rd l0 0) 1) else (none))) = some r:=h
 clear h
 by_cases c2 : (l0.length : Int) < 1
 ·rw [if_pos c2] at H
  exact absurd H (by simp)
 rw [if_neg c2] at H
 have c2b0 : decide ((l0.length : Int) < 1) = false:=decide_eq_false c2
 have c2b1 : decide (l0.length < 1) = false:=decide_eq_false (by omega)
 clear c2
 by_cases c3 : 0 < (l0.length : Int)
 rotate_left
 ·rw [if_neg c3] at H
  exact absurd H (by simp)
 rw [if_pos c3] at H
 have c3b0 : decide (0 < (l0.length : Int)) = true:=decide_eq_true c3
 have c3b1 : decide (0 < l0.length) = true:=decide_eq_true (by omega)
 clear c3
 have H':=Aside0.mk H
 clear H
 have p181 : 0 ≤ (0 : Int):=(by omega)
 have q181 : 0 < (l0.length : Int):=od
 obtain ⟨ad181,e181,hx181_0⟩:=Kd.at_int HR0.out 0 p181 q181
 cases e181
 have qi181 : (0 < l0.length) = True:=eq_true (by omega)
 (try rw [show ((0 : Int)).toNat = 0 from rfl] at hx181_0)
 (try rw [Addr.add_zero'] at hx181_0)
 replace p181:=eq_true p181
 replace q181:=eq_true q181
 go_enter Try.func51,Try.ntmps51
 go_wp2
 go_loopg [3,4] k (fun kq v3 v4 w'=>∃ (x3_1 : Int) (x4_1 : Int),v3 = .int .i64 x3_1 ∧ v4 = .int .i64 x4_1 ∧ Aside0 (slices_Min_int_int.l0 kq l0 x3_1 x4_1 = some r) ∧ Aside0 (kq ≤ k) ∧ Aside0 (Below w.heap.size w w'))
 case atStart=>exact ⟨(rd l0 0),(1),fd,fd,H',⟨Nat.le_refl _⟩,⟨hm HB.out⟩⟩
 clear H'
 try clear p1
 try clear q1
 try clear hx1
 try clear qi1
 try clear c2
 try clear c2b0
 try clear c2b1
 try clear p2
 try clear c3
 try clear c3b0
 try clear c3b1
 try clear hx181_0
 try clear p181
 try clear q181
 obtain ⟨x3_1,x4_1,rfl,rfl,HA,HK1,HB⟩:=hrel
 cases gk with
 | zero=>exact absurd HA.out (by simp [slices_Min_int_int.l0])
 | succ k1 =>
  have H:=HA.out
  clear HA
  simp only [slices_Min_int_int.l0] at H
  by_cases c4 : x4_1 < (l0.length : Int)
  rotate_left
  ·rw [if_neg c4] at H
   have c4b0 : decide (x4_1 < (l0.length : Int)) = false:=decide_eq_false c4
   clear c4
   obtain rfl:=Option.some.inj H
   go_wp2
   go_ret
   exact ⟨fe,hm HB.out⟩
  rw [if_pos c4] at H
  have c4b0 : decide (x4_1 < (l0.length : Int)) = true:=decide_eq_true c4
  clear c4
  by_cases c5 : 0 ≤ x4_1
  rotate_left
  ·rw [if_neg c5] at H
   exact absurd H (by simp)
  rw [if_pos c5] at H
  have c5b0 : decide (0 ≤ x4_1) = true:=decide_eq_true c5
  clear c5
  obtain ⟨ji6,hji6⟩ : ∃ j_ : Int,(mn x3_1 (rd l0 x4_1)) = j_:=⟨_,rfl⟩
  replace H : (slices_Min_int_int.l0 k1 l0 ji6 (wrap64 (x4_1 + 1))) = some r:=by first|(rw [hji6] at H;exact H)|(simp only [hji6] at H ⊢;exact H)
  have hji6_ : (if (rd l0 x4_1) < x3_1 then (rd l0 x4_1) else x3_1) = ji6:=hji6
  have H':=Aside0.mk H
  clear H
  have p182 : 0 ≤ (x4_1 : Int):=od
  have q182 : x4_1 < (l0.length : Int):=od
  obtain ⟨ad182,e182,hx182_0⟩:=Kd.at_int HR0.out x4_1 p182 q182
  obtain rfl : ad181 = ad182:=(by injection e182)
  replace hx182_0:=(HB.out.cell (World.block_lt_of_cell? w _ hx182_0)).trans hx182_0
  replace p182:=eq_true p182
  replace q182:=eq_true q182
  go_wp2
  go_roundg k1
  case measure=>have:=HK1.out;omega
  case rel=>exact ⟨(ji6),(wrap64 (x4_1 + 1)),(by first|rfl|(simp;done)|(simp only [← hji6] <;> (first|rfl|simp))|(simp [*];done)),fd,H',⟨by have:=HK1.out;omega⟩,⟨hm HB.out⟩⟩

/-! ### impl_Road_gap: function 64 -/
def impl_Road_gap.f (a0_0 : Int) (a0_1 : Bool) (a1 : Int) (a2 : Int) : Option (Int):=if a0_1 = true then (some (mn (mx (wrap64 (a1 - a2)) (wrap64 (a2 - a1))) (wrap64 (a0_0 - (mx (wrap64 (a1 - a2)) (wrap64 (a2 - a1))))))) else (some (mx (wrap64 (a1 - a2)) (wrap64 (a2 - a1))))
set_option maxHeartbeats 8000000 in
set_option maxRecDepth 100000 in
theorem impl_Road_gap.calls (a0_0 : Int) (a0_1 : Bool) (a1 : Int) (a2 : Int) (r : Int) (w : World) (h : impl_Road_gap.f a0_0 a0_1 a1 a2 = some r) :
  Calls Try.prog 64 #[.agg #[.int .i64 a0_0,.bool a0_1],.int .i64 a1,.int .i64 a2] w fun e w'=>e = .returned (.int .i64 r) ∧ Below w.heap.size w w':=by
 have hu28:=Try.underlying28
 have HB:=Aside0.mk (Below.refl w.heap.size w)
 have H : (if a0_1 = true then (some (mn (mx (wrap64 (a1 - a2)) (wrap64 (a2 - a1))) (wrap64 (a0_0 - (mx (wrap64 (a1 - a2)) (wrap64 (a2 - a1))))))) else (some (mx (wrap64 (a1 - a2)) (wrap64 (a2 - a1))))) = some r:=h
 clear h
 obtain ⟨ji4,hji4⟩ : ∃ j_ : Int,(mx (wrap64 (a1 - a2)) (wrap64 (a2 - a1))) = j_:=⟨_,rfl⟩
 replace H : (if a0_1 = true then (some (mn (ji4) (wrap64 (a0_0 - (ji4))))) else (some ji4)) = some r:=by first|(rw [hji4] at H;exact H)|(simp only [hji4] at H ⊢;exact H)
 have hji4_ : (if (wrap64 (a1 - a2)) < (wrap64 (a2 - a1)) then (wrap64 (a2 - a1)) else (wrap64 (a1 - a2))) = ji4:=hji4
 by_cases c5 : a0_1 = true
 rotate_left
 ·replace c5:=Bool.eq_false_iff.mpr c5
  subst c5
  rw [if_neg (show ¬ (false = true) by decide)] at H
  obtain rfl:=Option.some.inj H
  go_enter Try.func64,Try.ntmps64
  go_wp2_with (first|((with_reducible refine gate_dst (N:=3) rfl ?_);refine box_event ?hg (N:=3) ?hd (cs:=#[.int .i64 a0_0,.bool false]) (t:=28) ?hr ?_;(case hd=>rfl);(case hg=>rfl);(case hr=>first|(go_simp;done)|(go_simp;rfl));intro gb183 hg w9 hbox hb;have BK183:=ak hbox;have GW183:=ak ((by rw [hg];exact (below_size (hm HB.out)) : w.heap.size ≤ gb183));have GE183:=ak ((by rw [hg];exact (below_size (hm HB.out)) : w.heap.size ≤ gb183));replace HB:=bs HB hb;clear hb hbox hg;have hcz10_0 : w9.cell? ⟨gb183,0,none⟩ = some (.int .i64 a0_0):=(blk_cell BK183.out 0).trans rfl;have hcz10_1 : w9.cell? ⟨gb183,1,none⟩ = some (.bool false):=(blk_cell BK183.out 1).trans rfl;have hfz10_0:=blk_frozen BK183.out 0;have hfz10_1:=blk_frozen BK183.out 1))
  go_ret
  exact ⟨by first|rfl|(simp [errW_none,errW_some] <;> rfl)|(simp only [← hji4];first|rfl|(simp [errW_none,errW_some] <;> rfl))|(simp [*,errW_none,errW_some] <;> rfl),h1 HB.out GE183.out⟩
 subst c5
 rw [if_pos rfl] at H
 obtain ⟨ji6,hji6⟩ : ∃ j_ : Int,(mn (ji4) (wrap64 (a0_0 - (ji4)))) = j_:=⟨_,rfl⟩
 replace H : (some ji6) = some r:=by first|(rw [hji6] at H;exact H)|(simp only [hji6] at H ⊢;exact H)
 have hji6_ : (if (wrap64 (a0_0 - (ji4))) < (ji4) then (wrap64 (a0_0 - (ji4))) else (ji4)) = ji6:=hji6
 obtain rfl:=Option.some.inj H
 go_enter Try.func64,Try.ntmps64
 go_wp2_with (first|((with_reducible refine gate_dst (N:=3) rfl ?_);refine box_event ?hg (N:=3) ?hd (cs:=#[.int .i64 a0_0,.bool true]) (t:=28) ?hr ?_;(case hd=>rfl);(case hg=>rfl);(case hr=>first|(go_simp;done)|(go_simp;rfl));intro gb183 hg w7 hbox hb;have BK183:=ak hbox;have GW183:=ak ((by rw [hg];exact (below_size (hm HB.out)) : w.heap.size ≤ gb183));have GE183:=ak ((by rw [hg];exact (below_size (hm HB.out)) : w.heap.size ≤ gb183));replace HB:=bs HB hb;clear hb hbox hg;have hcz8_0 : w7.cell? ⟨gb183,0,none⟩ = some (.int .i64 a0_0):=(blk_cell BK183.out 0).trans rfl;have hcz8_1 : w7.cell? ⟨gb183,1,none⟩ = some (.bool true):=(blk_cell BK183.out 1).trans rfl;have hfz8_0:=blk_frozen BK183.out 0;have hfz8_1:=blk_frozen BK183.out 1))
 go_ret
 exact ⟨by first|rfl|(simp [errW_none,errW_some] <;> rfl)|(simp only [← hji4,← hji6];first|rfl|(simp [errW_none,errW_some] <;> rfl))|(simp [*,errW_none,errW_some] <;> rfl),h1 HB.out GE183.out⟩

/-! ### impl_Road_seen: function 52 -/
mutual
def impl_Road_seen.l0 : Nat → List (S59) → List Int → Int → Int → Int → Bool → Option (List Int)
 | 0,_,_,_,_,_,_=>none
 | k + 1,x1,x5,x13,x14,x185000,x185001=>if x14 < x13 then (impl_Road_seen.l1 k x1 x5 x14 x13 x14 x1 (x1.length : Int) 0 x185000 x185001) else (some x5)
def impl_Road_seen.l1 : Nat → List (S59) → List Int → Int → Int → Int → List (S59) → Int → Int → Int → Bool → Option (List Int)
 | 0,_,_,_,_,_,_,_,_,_,_=>none
 | k + 1,x1,x5,x6,x13,x14,x17,x18,x19,x185000,x185001=>if x19 < x18 then (if 0 ≤ x19 then (if x19 < (x17.length : Int) then ((impl_Road_gap.f x185000 x185001 ((rd_T59 x17 x19).f0) x6).bind fun t190=>(if t190 ≤ ((rd_T59 x17 x19).f1) then (if 0 ≤ x6 then (if x6 < (x5.length : Int) then (impl_Road_seen.l1 k x1 (x5.set (x6 : Int).toNat (wrap64 ((rd x5 x6) + 1))) x6 x13 x14 x17 x18 (wrap64 (x19 + 1)) x185000 x185001) else (none)) else (none)) else (impl_Road_seen.l1 k x1 x5 x6 x13 x14 x17 x18 (wrap64 (x19 + 1)) x185000 x185001))) else (none)) else (none)) else (impl_Road_seen.l0 k x1 x5 x13 (wrap64 (x14 + 1)) x185000 x185001)
end
def impl_Road_seen.f (k : Nat) (a0_0 : Int) (a0_1 : Bool) (l1 : List (S59)) : Option (List Int):=if 0 ≤ a0_0 then (if (a0_0 : Int).toNat ≤ 35184372088832 then ((some (List.replicate (a0_0 : Int).toNat 0 : List Int)).bind fun y185=>(impl_Road_seen.l0 k l1 y185 (y185.length : Int) 0 a0_0 a0_1)) else (none)) else (none)
theorem impl_Road_seen.mono_l : ∀ k,(∀ y0 y1 y2 y3 y4 y5,LeO (impl_Road_seen.l0 k y0 y1 y2 y3 y4 y5) (impl_Road_seen.l0 (k + 1) y0 y1 y2 y3 y4 y5)) ∧ (∀ y0 y1 y2 y3 y4 y5 y6 y7 y8 y9,LeO (impl_Road_seen.l1 k y0 y1 y2 y3 y4 y5 y6 y7 y8 y9) (impl_Road_seen.l1 (k + 1) y0 y1 y2 y3 y4 y5 y6 y7 y8 y9))
 | 0=>by
  refine ⟨?_,?_⟩<;>(intros;intro r h;simp [impl_Road_seen.l0,impl_Road_seen.l1] at h)
 | k + 1=>by
  obtain ⟨ih0,ih1⟩:=impl_Road_seen.mono_l k
  refine ⟨?_,?_⟩<;>intros<;>(first|unfold impl_Road_seen.l0 | unfold impl_Road_seen.l1)<;>(repeat' first|(with_reducible exact ih0 ..)|(with_reducible exact ih1 ..)|(with_reducible exact LeO.refl _)|(with_reducible exact LeO.none _)|(with_reducible refine LeO.ite ?_ ?_)|(with_reducible refine LeO.bind ?_ (fun _=>?_))|exact ih0 ..|exact ih1 ..|exact LeO.none _|refine LeO.ite ?_ ?_|refine LeO.bind ?_ (fun _=>?_))
theorem impl_Road_seen.mono : ∀ a0 a1 a2 k,LeO (impl_Road_seen.f k a0 a1 a2) (impl_Road_seen.f (k + 1) a0 a1 a2):=by
 intro a0 a1 a2 k
 obtain ⟨ih0,ih1⟩:=impl_Road_seen.mono_l k
 unfold impl_Road_seen.f
 repeat' first
   | (with_reducible exact ih0 _ _ _ _ _ _)
   | (with_reducible exact ih1 _ _ _ _ _ _ _ _ _ _)
   | (with_reducible exact LeO.refl _)
   | (with_reducible exact LeO.none _)
   | (with_reducible refine LeO.ite ?_ ?_)
   | (with_reducible refine LeO.bind ?_ (fun _=>?_))
   | exact ih0 _ _ _ _ _ _
   | exact ih1 _ _ _ _ _ _ _ _ _ _
   | exact LeO.none _
   | refine LeO.ite ?_ ?_
   | refine LeO.bind ?_ (fun _=>?_)
def impl_Road_seen.T8 : Bool × List (List Nat × List Nat):=(true,[([],[]),([],[]),([1],[1]),([],[]),([0,2,3],[0,2,3]),([],[]),([5],[5]),([4,6],[4,6])])
def impl_Road_seen.B8 : List Nat:=[0,0,2,0,15,0,32,127]
theorem impl_Road_seen.tab8 : rtab .any (opsOf Try.f52 8) = impl_Road_seen.T8:=by kernel_rfl
theorem impl_Road_seen.bits8 : waitsOk impl_Road_seen.T8.2 impl_Road_seen.B8 = true:=by kernel_rfl
set_option maxHeartbeats 8000000 in
set_option maxRecDepth 100000 in
theorem impl_Road_seen.calls (k : Nat) (a0_0 : Int) (a0_1 : Bool) (A1 : Option Addr) (c1 : Nat) (l1 : List (S59)) (r : List Int) (w : World) (hr1 : Kd.C k59 w A1 l1.length l1) (hc1 : l1.length ≤ c1) (h : impl_Road_seen.f k a0_0 a0_1 l1 = some r) :
  Calls Try.prog 52 #[.agg #[.int .i64 a0_0,.bool a0_1],.slice A1 l1.length c1] w fun e w'=>∃ v0_ : Value,e = .returned (v0_) ∧ Kd.R (Kd.int .i64) 3 w' w.heap.size (fun _=>True) v0_ r ∧ Below w.heap.size w w':=by
 have hu28:=Try.underlying28
 have hu59:=Try.underlying59
 have HR1:=Aside0.mk hr1
 have HC1:=Aside0.mk hc1
 clear hr1 hc1
 have HB:=Aside0.mk (Below.refl w.heap.size w)
 have H : (if 0 ≤ a0_0 then (if (a0_0 : Int).toNat ≤ 35184372088832 then ((some (List.replicate (a0_0 : Int).toNat 0 : List Int)).bind fun y185=>(impl_Road_seen.l0 k l1 y185 (y185.length : Int) 0 a0_0 a0_1)) else (none)) else (none)) = some r:=h
 clear h
 by_cases c3 : 0 ≤ a0_0
 rotate_left
 ·rw [if_neg c3] at H
  exact absurd H (by simp)
 rw [if_pos c3] at H
 have c3b0:=eq_true c3
 have c3b1 : decide (0 ≤ a0_0) = true:=decide_eq_true c3
 clear c3
 by_cases c4 : (a0_0 : Int).toNat ≤ 35184372088832
 rotate_left
 ·rw [if_neg c4] at H
  exact absurd H (by simp)
 rw [if_pos c4] at H
 have c4b0:=eq_true c4
 have c4b1 : decide ((a0_0 : Int).toNat ≤ 35184372088832) = true:=decide_eq_true c4
 clear c4
 obtain ⟨y185,hy185⟩ : ∃ y_ : List Int,y_ = (List.replicate (a0_0 : Int).toNat 0):=⟨_,rfl⟩
 replace H : (impl_Road_seen.l0 k l1 y185 (y185.length : Int) 0 a0_0 a0_1) = some r:=by first|(rw [hy185];with_reducible exact H)|(have H2_:=(Option.bind_some _ _).symm.trans H;rw [hy185];with_reducible exact H2_)|(have H2_:=(Option.bind_some _ _).symm.trans H;with_reducible exact H2_)|with_reducible exact H|(rw [hy185];exact H)|exact H
 have Ny185:=Aside0.mk hy185
 clear hy185
 have H':=Aside0.mk H
 clear H
 go_enter Try.func52,Try.ntmps52
 go_wp2_with (first|((with_reducible refine gate_dst (N:=2) rfl ?_);refine box_event ?hg (N:=2) ?hd (cs:=#[.int .i64 a0_0,.bool a0_1]) (t:=28) ?hr ?_;(case hd=>rfl);(case hg=>rfl);(case hr=>first|(go_simp;done)|(go_simp;rfl));intro gb184 hg w5 hbox hb;have BK184:=ak hbox;have GW184:=ak ((by rw [hg];exact (below_size (hm HB.out)) : w.heap.size ≤ gb184));have GE184:=ak ((by rw [hg];exact (below_size (hm HB.out)) : w.heap.size ≤ gb184));replace HB:=bs HB hb;clear hb hbox hg;have hcz6_0 : w5.cell? ⟨gb184,0,none⟩ = some (.int .i64 a0_0):=(blk_cell BK184.out 0).trans rfl;have hcz6_1 : w5.cell? ⟨gb184,1,none⟩ = some (.bool a0_1):=(blk_cell BK184.out 1).trans rfl;have hfz6_0:=blk_frozen BK184.out 0;have hfz6_1:=blk_frozen BK184.out 1)|((with_reducible refine gate_dst (N:=11) rfl ?_);refine R_make (Kd.int .i64) _ 3 rfl (N:=11) rfl 39 _ _ rfl a0_0 rfl rfl Try.underlying39 (.int .i64 0) 8 info3 rfl (by decide) (by omega) 0 (ok:=fun _=>True) (okp:=fun _=>True) rfl (fun _ hk=>hk) trivial (od) (Nat.le_trans (Nat.mul_le_mul_right _ (od : a0_0.toNat ≤ 35184372088832)) (by omega)) (Below.refl _ _) (Nat.le_refl _) ?_;intro v186 w7 ho8 hb hg_ hnew_;clear hg_ hnew_;(first|rw [← Ny185.out] at ho8|(simp only [Int.reduceToNat] at ho8;rw [← Ny185.out] at ho8));have HO187:=ak (R_lower ho8 (below_size (h1 HB.out GE184.out)));replace BK184:=kb BK184 hb;replace HB:=ak (below_step (h1 HB.out GE184.out) hb);clear hb ho8;obtain ⟨Ao9,co9,eo9⟩:=R_slice HO187.out;subst eo9))
 go_loopg [14] k (fun kq v14 w'=>∃ (x5_1 : List Int) (x14_1 : Int),v14 = .int .i64 x14_1 ∧ Aside0 (impl_Road_seen.l0 kq l1 x5_1 (y185.length : Int) x14_1 a0_0 a0_1 = some r) ∧ Aside0 (kq ≤ k) ∧ Aside0 (Kd.R (Kd.int .i64) 3 w' w.heap.size (fun _=>True) (.slice Ao9 y185.length co9) x5_1) ∧ Aside0 (w'.heap[gb184]? = some (.cells #[.int .i64 a0_0,.bool a0_1] 28 (0,0))) ∧ Aside0 (Below w.heap.size w w'))
 case atStart=>exact ⟨(y185),(0),fd,H',⟨Nat.le_refl _⟩,⟨rm HO187.out⟩,⟨bm BK184.out⟩,⟨h1 HB.out GE184.out⟩⟩
 clear H'
 try clear c1
 try clear p2
 try clear c3
 try clear c3b0
 try clear c3b1
 try clear c4
 try clear c4b0
 try clear c4b1
 try clear c5
 try clear hcz6_0
 try clear hcz6_1
 try clear hfz6_0
 try clear hfz6_1
 obtain ⟨x5_1,x14_1,rfl,HA,HK1,HO_5,BK184,HB⟩:=hrel
 have hl5_1:=(R_reads' HO_5.out).1
 rw [hl5_1] at HO_5
 (try simp only [hl5_1])
 (try simp only [hl5_1] at BK184)
 cases gk with
 | zero=>exact absurd HA.out (by simp [impl_Road_seen.l0])
 | succ k1 =>
  have H:=HA.out
  clear HA
  simp only [impl_Road_seen.l0] at H
  by_cases c10 : x14_1 < (y185.length : Int)
  rotate_left
  ·rw [if_neg c10] at H
   have c10b0 : decide (x14_1 < (y185.length : Int)) = false:=decide_eq_false c10
   (try simp only [hl5_1] at c10b0)
   clear c10
   obtain rfl:=Option.some.inj H
   go_wp2
   go_ret
   exact ⟨_,fe,rm HO_5.out,h1 HB.out GE184.out⟩
  rw [if_pos c10] at H
  have c10b0 : decide (x14_1 < (y185.length : Int)) = true:=decide_eq_true c10
  (try simp only [hl5_1] at c10b0)
  clear c10
  have H':=Aside0.mk H
  clear H
  go_wp2
  go_loopg [19] k1 (fun kq v19 w'=>∃ (x5_2 : List Int) (x19_2 : Int),v19 = .int .i64 x19_2 ∧ Aside0 (impl_Road_seen.l1 kq l1 x5_2 x14_1 (y185.length : Int) x14_1 l1 (l1.length : Int) x19_2 a0_0 a0_1 = some r) ∧ Aside0 (kq ≤ k1) ∧ Aside0 (Kd.R (Kd.int .i64) 3 w' w.heap.size (fun _=>True) (.slice Ao9 x5_1.length co9) x5_2) ∧ Aside0 (w'.heap[gb184]? = some (.cells #[.int .i64 a0_0,.bool a0_1] 28 (0,0))) ∧ Aside0 (Below w.heap.size w w'))
  case atStart=>exact ⟨(x5_1),(0),fd,H',⟨Nat.le_refl _⟩,⟨by (try simp only [hl5_1]);(with_reducible repeat (first|apply R_alloc|apply R_drewN|apply R_drew));exact HO_5.out⟩,⟨by (try simp only [hl5_1]);exact bm BK184.out⟩,⟨h1 HB.out GE184.out⟩⟩
  clear H'
  try clear c1
  try clear p2
  try clear c3
  try clear c3b0
  try clear c3b1
  try clear c4
  try clear c4b0
  try clear c4b1
  try clear c5
  try clear c10
  try clear c10b0
  try clear hcz6_0
  try clear hcz6_1
  try clear hfz6_0
  try clear hfz6_1
  try clear p2
  obtain ⟨x5_2,x19_2,rfl,HA,HK2,HO_5,BK184,HB⟩:=hrel
  have hl5_2:=(R_reads' HO_5.out).1
  rw [hl5_2] at HO_5
  (try simp only [hl5_2])
  (try simp only [hl5_2] at BK184)
  cases gk with
  | zero=>exact absurd HA.out (by simp [impl_Road_seen.l1])
  | succ k2 =>
   have H:=HA.out
   clear HA
   simp only [impl_Road_seen.l1] at H
   by_cases c11 : x19_2 < (l1.length : Int)
   rotate_left
   ·rw [if_neg c11] at H
    have c11b0 : decide (x19_2 < (l1.length : Int)) = false:=decide_eq_false c11
    (try simp only [hl5_1,hl5_2] at c11b0)
    clear c11
    have H':=Aside0.mk H
    clear H
    go_wp2
    (try simp only [← hl5_1,← hl5_2])
    go_roundg k2
    case measure=>have:=HK1.out;have:=HK2.out;omega
    case rel=>exact ⟨(x5_2),(wrap64 (x14_1 + 1)),fd,H',⟨by have:=HK1.out;have:=HK2.out;omega⟩,⟨by (try simp only [hl5_1]);(try simp only [hl5_2]);(with_reducible repeat (first|apply R_alloc|apply R_drewN|apply R_drew));exact HO_5.out⟩,⟨by (try simp only [hl5_1]);(try simp only [hl5_2]);exact bm BK184.out⟩,⟨h1 HB.out GE184.out⟩⟩
   rw [if_pos c11] at H
   have c11b0 : decide (x19_2 < (l1.length : Int)) = true:=decide_eq_true c11
   (try simp only [hl5_1,hl5_2] at c11b0)
   clear c11
   by_cases c12 : 0 ≤ x19_2
   rotate_left
   ·rw [if_neg c12] at H
    exact absurd H (by simp)
   rw [if_pos c12] at H
   have c12b0 : decide (0 ≤ x19_2) = true:=decide_eq_true c12
   clear c12
   by_cases c13 : x19_2 < (l1.length : Int)
   rotate_left
   ·rw [if_neg c13] at H
    exact absurd H (by simp)
   rw [if_pos c13] at H
   have c13b0 : decide (x19_2 < (l1.length : Int)) = true:=decide_eq_true c13
   (try simp only [hl5_1,hl5_2] at c13b0)
   clear c13
   replace H:=Option.bind_eq_some_iff.mp H
   obtain ⟨t190,A140,H⟩:=H
   (try dsimp only at H)
   have A14:=Aside0.mk A140
   clear A140
   by_cases c15 : t190 ≤ ((rd_T59 l1 x19_2).f1)
   rotate_left
   ·rw [if_neg c15] at H
    have c15b0 : decide (t190 ≤ ((rd_T59 l1 x19_2).f1)) = false:=decide_eq_false c15
    clear c15
    have H':=Aside0.mk H
    clear H
    have p188 : 0 ≤ (x19_2 : Int):=od
    have q188 : x19_2 < (l1.length : Int):=od
    obtain ⟨ad188,e188,hx188_0,hx188_1⟩:=at_T59 HR1.out x19_2 p188 q188
    cases e188
    replace hx188_0:=(HB.out.cell (World.block_lt_of_cell? w _ hx188_0)).trans hx188_0
    replace hx188_1:=(HB.out.cell (World.block_lt_of_cell? w _ hx188_1)).trans hx188_1
    replace p188:=eq_true p188
    replace q188:=eq_true q188
    try go_wp2_with (first|((with_reducible refine gate_dst (N:=8) rfl ?_);refine box_event ?hg (N:=8) ?hd (cs:=#[.int .i64 0,.int .i64 0]) (t:=59) ?hr ?_;(case hd=>rfl);(case hg=>rfl);(case hr=>first|(go_simp;done)|(go_simp;rfl));intro gb189 hg w27 hbox hb;replace HO_5:=rb HO_5 hb;have BK189:=ak hbox;have GW189:=ak ((by rw [hg];exact (below_size (h1 HB.out GE184.out)) : w.heap.size ≤ gb189));have GE189:=ak ((by rw [hg];exact (below_size (h1 HB.out GE184.out)) : w.heap.size ≤ gb189));replace HB:=ak (below_step (h1 HB.out GE184.out) hb);have NB184_189:=ak ((by rw [hg];exact Nat.ne_of_lt (blk_lt (g:=gb184) (o:=.cells #[.int .i64 a0_0,.bool a0_1] 28 (0,0)) (bm BK184.out)) : gb184 ≠ gb189));have NB189_184:=ak ((by rw [hg];exact Nat.ne_of_gt (blk_lt (g:=gb184) (o:=.cells #[.int .i64 a0_0,.bool a0_1] 28 (0,0)) (bm BK184.out)) : gb189 ≠ gb184));replace BK184:=kb BK184 hb;clear hb hbox hg;have hnb28:=NB189_184.out;have hnc28:=NB184_189.out;have hcz29_0 : w27.cell? ⟨gb189,0,none⟩ = some (.int .i64 0):=(blk_cell BK189.out 0).trans rfl;have hcz29_1 : w27.cell? ⟨gb189,1,none⟩ = some (.int .i64 0):=(blk_cell BK189.out 1).trans rfl;have hfz29_0:=blk_frozen BK189.out 0;have hfz29_1:=blk_frozen BK189.out 1))
    have n0_ : Aside0 (Kd.R (Kd.int .i64) 3 ((w27.setCell ⟨gb189,0,none⟩ (.int .i64 ((rd_T59 l1 x19_2).f0))).setCell ⟨gb189,1,none⟩ (.int .i64 ((rd_T59 l1 x19_2).f1))) w.heap.size (fun _=>True) (.slice Ao9 x5_2.length co9) x5_2):=⟨by (with_reducible repeat (first|apply R_alloc|apply R_drewN|apply R_drew));exact R_mono (R_far (p:=⟨gb189,1,none⟩) (R_far (p:=⟨gb189,0,none⟩) (R_types HO_5.out BK189.out (by decide)) (fun _ hk=>hk.2) (.int .i64 ((rd_T59 l1 x19_2).f0))) (fun _ hk=>hk.2) (.int .i64 ((rd_T59 l1 x19_2).f1))) (fun _ hk=>trivial)⟩
    have n1_ : Aside0 (((w27.setCell ⟨gb189,0,none⟩ (.int .i64 ((rd_T59 l1 x19_2).f0))).setCell ⟨gb189,1,none⟩ (.int .i64 ((rd_T59 l1 x19_2).f1))).heap[gb184]? = some (.cells #[.int .i64 a0_0,.bool a0_1] 28 (0,0))):=⟨by (with_reducible repeat (first|apply blk_drewN|apply blk_drew|apply blk_alloc));refine blk_far ?_ NB184_189.out _;(with_reducible repeat (first|apply blk_drewN|apply blk_drew|apply blk_alloc));refine blk_far ?_ NB184_189.out _;exact bm BK184.out⟩
    have n2_ : Aside0 (((w27.setCell ⟨gb189,0,none⟩ (.int .i64 ((rd_T59 l1 x19_2).f0))).setCell ⟨gb189,1,none⟩ (.int .i64 ((rd_T59 l1 x19_2).f1))).heap[gb189]? = some (.cells #[.int .i64 ((rd_T59 l1 x19_2).f0),.int .i64 ((rd_T59 l1 x19_2).f1)] 59 (0,0))):=⟨by (with_reducible repeat (first|apply blk_drewN|apply blk_drew|apply blk_alloc));refine blk_put (cs:=#[.int .i64 ((rd_T59 l1 x19_2).f0),.int .i64 0]) ?_ 1 _ rfl;(with_reducible repeat (first|apply blk_drewN|apply blk_drew|apply blk_alloc));refine blk_put (cs:=#[.int .i64 0,.int .i64 0]) ?_ 0 _ rfl;exact bm BK189.out⟩
    have n3_ : Aside0 (Below w.heap.size w ((w27.setCell ⟨gb189,0,none⟩ (.int .i64 ((rd_T59 l1 x19_2).f0))).setCell ⟨gb189,1,none⟩ (.int .i64 ((rd_T59 l1 x19_2).f1)))):=⟨h2 HB.out GE184.out GE189.out⟩
    (try clear HO_5)
    (try clear BK184)
    (try clear BK189)
    (try clear HB)
    generalize ((w27.setCell ⟨gb189,0,none⟩ (.int .i64 ((rd_T59 l1 x19_2).f0))).setCell ⟨gb189,1,none⟩ (.int .i64 ((rd_T59 l1 x19_2).f1))) = w30 at n0_ n1_ n2_ n3_ ⊢
    have HO_5:=n0_
    have BK184:=n1_
    have BK189:=n2_
    have HB:=n3_
    clear n0_ n1_ n2_ n3_
    replace HO_5:=ak (R_drew HO_5.out)
    replace BK184:=ak (blk_drew BK184.out)
    replace BK189:=ak (blk_drew BK189.out)
    replace HB:=ak (below_drew1 HB.out)
    refine start_ (n:=8) (S:=fun w'=>w'.cell? ⟨gb184,0,none⟩ = some (.int .i64 a0_0) ∧ w'.cell? ⟨gb184,1,none⟩ = some (.bool a0_1) ∧ w'.cell? ⟨gb189,0,none⟩ = some (.int .i64 ((rd_T59 l1 x19_2).f0)) ∧ w'.cell? ⟨gb189,1,none⟩ = some (.int .i64 ((rd_T59 l1 x19_2).f1))) (ds:=[]) (lb 8 0) (by kernel_rfl) rfl rfl ⟨(blk_cell BK184.out 0).trans rfl,(blk_cell BK184.out 1).trans rfl,(blk_cell BK189.out 0).trans rfl,(blk_cell BK189.out 1).trans rfl⟩ (fun hHeld=>?_);refine with_tabW impl_Road_seen.tab8 impl_Road_seen.bits8 (fun HT_ HW_=>?_)
    generalize w30.drew = w31 at HO_5 BK184 BK189 HB hHeld ⊢
    refine pu 1 (N:=some 24) (v:=?_) (a':=?_) (lb 8 2) HT_ (by kernel_rfl) rfl rfl rfl (fun _ _ _ h=>h) ?_ ?_ ?_
    rotate_left
    ·intro w'
     go_simp
     with_reducible rfl
    rotate_left
    ·simp only [ap]
     rfl
    refine pu 3 (N:=some 26) (v:=?_) (a':=?_) (lb 8 10) HT_ (by kernel_rfl) rfl rfl rfl (fun _ _ _ h=>h) ?_ ?_ ?_
    rotate_left
    ·intro w'
     go_simp
     with_reducible rfl
    rotate_left
    ·simp only [ap]
     rfl
    refine pu 5 (N:=some 28) (v:=?_) (a':=?_) (lb 8 42) HT_ (by kernel_rfl) rfl rfl rfl (fun _ _ _ h=>h) ?_ ?_ ?_
    rotate_left
    ·intro w'
     go_simp
     with_reducible rfl
    rotate_left
    ·simp only [ap]
     rfl
    refine take_ (i:=0) (N:=some 23) (v:=?_) (a':=?_) (lb 8 43) rfl rfl (take_ofW HT_.out HW_.out (by kernel_rfl)) (fun _ _ _ h=>h) (Or.inl ⟨by rfl,?_⟩) hHeld ?_ ?_
    rotate_left
    ·rintro w' ⟨s0,s1,s2,s3⟩
     go_simp
     with_reducible rfl
    rotate_left
    ·simp only [ap]
     rfl
    refine take_ (i:=2) (N:=some 25) (v:=?_) (a':=?_) (lb 8 47) rfl rfl (take_ofW HT_.out HW_.out (by kernel_rfl)) (fun _ _ _ h=>h) (Or.inl ⟨by rfl,?_⟩) hHeld ?_ ?_
    rotate_left
    ·rintro w' ⟨s0,s1,s2,s3⟩
     go_simp
     with_reducible rfl
    rotate_left
    ·simp only [ap]
     rfl
    refine take_ (i:=6) (N:=some 29) (v:=?_) (a':=?_) (lb 8 111) rfl rfl (take_ofW HT_.out HW_.out (by kernel_rfl)) (fun _ _ _ h=>h) (Or.inl ⟨by rfl,?_⟩) hHeld ?_ ?_
    rotate_left
    ·rintro w' ⟨s0,s1,s2,s3⟩
     go_simp
     with_reducible rfl
    rotate_left
    ·simp only [ap]
     rfl
    refine one_ (i:=4) (N:=some 27) (lb 8 127) rfl rfl (one_of HT_.out (by kernel_rfl)) (by decide) (fun K hK=>?_)
    refine goes_ Try.func64 (by kernel_rfl) rfl #[.agg #[.int .i64 a0_0,.bool a0_1],.int .i64 ((rd_T59 l1 x19_2).f0),.int .i64 x14_1] (by rfl) rfl rfl gl ?_
    with_reducible refine (impl_Road_gap.calls a0_0 a0_1 ((rd_T59 l1 x19_2).f0) x14_1 t190 _ A14.out).mono ?_
    rintro e w32 ⟨rfl,hb⟩
    refine ⟨_,rfl,?_⟩
    replace HO_5:=rb HO_5 hb
    replace BK184:=kb BK184 hb
    replace BK189:=kb BK189 hb
    replace HB:=ak (below_step (h2 HB.out GE184.out GE189.out) hb)
    (try clear hb)
    (try clear hb2)
    (try clear hk)
    (try clear hi)
    refine hK.out _ _ ⟨(blk_cell BK184.out 0).trans rfl,(blk_cell BK184.out 1).trans rfl,(blk_cell BK189.out 0).trans rfl,(blk_cell BK189.out 1).trans rfl⟩ (fun hHeld=>?_)
    clear hK K
    refine norm_ (a':=?_) ?_ ?_
    rotate_left
    ·show Act.put _ (some 27) _ = _
     simp only [ap]
     rfl
    refine pu 7 (N:=some 30) (v:=?_) (a':=?_) (lb 8 255) HT_ (by kernel_rfl) rfl rfl rfl (fun _ _ _ h=>h) ?_ ?_ ?_
    rotate_left
    ·intro w'
     go_simp
     with_reducible rfl
    rotate_left
    ·simp only [ap]
     rfl
    refine done_ (done_of HT_.out (by kernel_rfl)) ?_
    try go_wp2
    (try simp only [← hl5_2])
    go_roundg k2
    case measure=>have:=HK1.out;have:=HK2.out;omega
    case rel=>exact ⟨(x5_2),(wrap64 (x19_2 + 1)),fd,H',⟨by have:=HK1.out;have:=HK2.out;omega⟩,⟨by (try simp only [hl5_1]);(try simp only [hl5_2]);(with_reducible repeat (first|apply R_alloc|apply R_drewN|apply R_drew));exact HO_5.out⟩,⟨by (try simp only [hl5_1]);(try simp only [hl5_2]);exact bm BK184.out⟩,⟨h2 HB.out GE184.out GE189.out⟩⟩
   rw [if_pos c15] at H
   have c15b0 : decide (t190 ≤ ((rd_T59 l1 x19_2).f1)) = true:=decide_eq_true c15
   clear c15
   by_cases c16 : 0 ≤ x14_1
   rotate_left
   ·rw [if_neg c16] at H
    exact absurd H (by simp)
   rw [if_pos c16] at H
   have c16b0 : decide (0 ≤ x14_1) = true:=decide_eq_true c16
   clear c16
   by_cases c17 : x14_1 < (x5_2.length : Int)
   rotate_left
   ·rw [if_neg c17] at H
    exact absurd H (by simp)
   rw [if_pos c17] at H
   have c17b0 : decide (x14_1 < (x5_2.length : Int)) = true:=decide_eq_true c17
   (try simp only [hl5_1,hl5_2] at c17b0)
   clear c17
   obtain ⟨y192,hy192⟩ : ∃ y_ : List Int,y_ = (x5_2.set (x14_1 : Int).toNat (wrap64 ((rd x5_2 x14_1) + 1))):=⟨_,rfl⟩
   replace H : (impl_Road_seen.l1 k2 l1 y192 x14_1 (y185.length : Int) x14_1 l1 (l1.length : Int) (wrap64 (x19_2 + 1)) a0_0 a0_1) = some r:=by first|(rw [hy192];with_reducible exact H)|(have H2_:=(Option.bind_some _ _).symm.trans H;rw [hy192];with_reducible exact H2_)|(have H2_:=(Option.bind_some _ _).symm.trans H;with_reducible exact H2_)|with_reducible exact H|(rw [hy192];exact H)|exact H
   have Ny192:=Aside0.mk hy192
   clear hy192
   have H':=Aside0.mk H
   clear H
   have p188 : 0 ≤ (x19_2 : Int):=od
   have q188 : x19_2 < (l1.length : Int):=od
   obtain ⟨ad188,e188,hx188_0,hx188_1⟩:=at_T59 HR1.out x19_2 p188 q188
   cases e188
   replace hx188_0:=(HB.out.cell (World.block_lt_of_cell? w _ hx188_0)).trans hx188_0
   replace hx188_1:=(HB.out.cell (World.block_lt_of_cell? w _ hx188_1)).trans hx188_1
   replace p188:=eq_true p188
   replace q188:=eq_true q188
   try go_wp2_with (first|((with_reducible refine gate_dst (N:=8) rfl ?_);refine box_event ?hg (N:=8) ?hd (cs:=#[.int .i64 0,.int .i64 0]) (t:=59) ?hr ?_;(case hd=>rfl);(case hg=>rfl);(case hr=>first|(go_simp;done)|(go_simp;rfl));intro gb189 hg w19 hbox hb;replace HO_5:=rb HO_5 hb;have BK189:=ak hbox;have GW189:=ak ((by rw [hg];exact (below_size (h1 HB.out GE184.out)) : w.heap.size ≤ gb189));have GE189:=ak ((by rw [hg];exact (below_size (h1 HB.out GE184.out)) : w.heap.size ≤ gb189));replace HB:=ak (below_step (h1 HB.out GE184.out) hb);have NB184_189:=ak ((by rw [hg];exact Nat.ne_of_lt (blk_lt (g:=gb184) (o:=.cells #[.int .i64 a0_0,.bool a0_1] 28 (0,0)) (bm BK184.out)) : gb184 ≠ gb189));have NB189_184:=ak ((by rw [hg];exact Nat.ne_of_gt (blk_lt (g:=gb184) (o:=.cells #[.int .i64 a0_0,.bool a0_1] 28 (0,0)) (bm BK184.out)) : gb189 ≠ gb184));replace BK184:=kb BK184 hb;clear hb hbox hg;have hnb20:=NB189_184.out;have hnc20:=NB184_189.out;have hcz21_0 : w19.cell? ⟨gb189,0,none⟩ = some (.int .i64 0):=(blk_cell BK189.out 0).trans rfl;have hcz21_1 : w19.cell? ⟨gb189,1,none⟩ = some (.int .i64 0):=(blk_cell BK189.out 1).trans rfl;have hfz21_0:=blk_frozen BK189.out 0;have hfz21_1:=blk_frozen BK189.out 1))
   have n0_ : Aside0 (Kd.R (Kd.int .i64) 3 ((w19.setCell ⟨gb189,0,none⟩ (.int .i64 ((rd_T59 l1 x19_2).f0))).setCell ⟨gb189,1,none⟩ (.int .i64 ((rd_T59 l1 x19_2).f1))) w.heap.size (fun _=>True) (.slice Ao9 x5_2.length co9) x5_2):=⟨by (with_reducible repeat (first|apply R_alloc|apply R_drewN|apply R_drew));exact R_mono (R_far (p:=⟨gb189,1,none⟩) (R_far (p:=⟨gb189,0,none⟩) (R_types HO_5.out BK189.out (by decide)) (fun _ hk=>hk.2) (.int .i64 ((rd_T59 l1 x19_2).f0))) (fun _ hk=>hk.2) (.int .i64 ((rd_T59 l1 x19_2).f1))) (fun _ hk=>trivial)⟩
   have n1_ : Aside0 (((w19.setCell ⟨gb189,0,none⟩ (.int .i64 ((rd_T59 l1 x19_2).f0))).setCell ⟨gb189,1,none⟩ (.int .i64 ((rd_T59 l1 x19_2).f1))).heap[gb184]? = some (.cells #[.int .i64 a0_0,.bool a0_1] 28 (0,0))):=⟨by (with_reducible repeat (first|apply blk_drewN|apply blk_drew|apply blk_alloc));refine blk_far ?_ NB184_189.out _;(with_reducible repeat (first|apply blk_drewN|apply blk_drew|apply blk_alloc));refine blk_far ?_ NB184_189.out _;exact bm BK184.out⟩
   have n2_ : Aside0 (((w19.setCell ⟨gb189,0,none⟩ (.int .i64 ((rd_T59 l1 x19_2).f0))).setCell ⟨gb189,1,none⟩ (.int .i64 ((rd_T59 l1 x19_2).f1))).heap[gb189]? = some (.cells #[.int .i64 ((rd_T59 l1 x19_2).f0),.int .i64 ((rd_T59 l1 x19_2).f1)] 59 (0,0))):=⟨by (with_reducible repeat (first|apply blk_drewN|apply blk_drew|apply blk_alloc));refine blk_put (cs:=#[.int .i64 ((rd_T59 l1 x19_2).f0),.int .i64 0]) ?_ 1 _ rfl;(with_reducible repeat (first|apply blk_drewN|apply blk_drew|apply blk_alloc));refine blk_put (cs:=#[.int .i64 0,.int .i64 0]) ?_ 0 _ rfl;exact bm BK189.out⟩
   have n3_ : Aside0 (Below w.heap.size w ((w19.setCell ⟨gb189,0,none⟩ (.int .i64 ((rd_T59 l1 x19_2).f0))).setCell ⟨gb189,1,none⟩ (.int .i64 ((rd_T59 l1 x19_2).f1)))):=⟨h2 HB.out GE184.out GE189.out⟩
   (try clear HO_5)
   (try clear BK184)
   (try clear BK189)
   (try clear HB)
   generalize ((w19.setCell ⟨gb189,0,none⟩ (.int .i64 ((rd_T59 l1 x19_2).f0))).setCell ⟨gb189,1,none⟩ (.int .i64 ((rd_T59 l1 x19_2).f1))) = w22 at n0_ n1_ n2_ n3_ ⊢
   have HO_5:=n0_
   have BK184:=n1_
   have BK189:=n2_
   have HB:=n3_
   clear n0_ n1_ n2_ n3_
   replace HO_5:=ak (R_drew HO_5.out)
   replace BK184:=ak (blk_drew BK184.out)
   replace BK189:=ak (blk_drew BK189.out)
   replace HB:=ak (below_drew1 HB.out)
   refine start_ (n:=8) (S:=fun w'=>w'.cell? ⟨gb184,0,none⟩ = some (.int .i64 a0_0) ∧ w'.cell? ⟨gb184,1,none⟩ = some (.bool a0_1) ∧ w'.cell? ⟨gb189,0,none⟩ = some (.int .i64 ((rd_T59 l1 x19_2).f0)) ∧ w'.cell? ⟨gb189,1,none⟩ = some (.int .i64 ((rd_T59 l1 x19_2).f1))) (ds:=[]) (lb 8 0) (by kernel_rfl) rfl rfl ⟨(blk_cell BK184.out 0).trans rfl,(blk_cell BK184.out 1).trans rfl,(blk_cell BK189.out 0).trans rfl,(blk_cell BK189.out 1).trans rfl⟩ (fun hHeld=>?_);refine with_tabW impl_Road_seen.tab8 impl_Road_seen.bits8 (fun HT_ HW_=>?_)
   generalize w22.drew = w23 at HO_5 BK184 BK189 HB hHeld ⊢
   refine pu 1 (N:=some 24) (v:=?_) (a':=?_) (lb 8 2) HT_ (by kernel_rfl) rfl rfl rfl (fun _ _ _ h=>h) ?_ ?_ ?_
   rotate_left
   ·intro w'
    go_simp
    with_reducible rfl
   rotate_left
   ·simp only [ap]
    rfl
   refine pu 3 (N:=some 26) (v:=?_) (a':=?_) (lb 8 10) HT_ (by kernel_rfl) rfl rfl rfl (fun _ _ _ h=>h) ?_ ?_ ?_
   rotate_left
   ·intro w'
    go_simp
    with_reducible rfl
   rotate_left
   ·simp only [ap]
    rfl
   refine pu 5 (N:=some 28) (v:=?_) (a':=?_) (lb 8 42) HT_ (by kernel_rfl) rfl rfl rfl (fun _ _ _ h=>h) ?_ ?_ ?_
   rotate_left
   ·intro w'
    go_simp
    with_reducible rfl
   rotate_left
   ·simp only [ap]
    rfl
   refine take_ (i:=0) (N:=some 23) (v:=?_) (a':=?_) (lb 8 43) rfl rfl (take_ofW HT_.out HW_.out (by kernel_rfl)) (fun _ _ _ h=>h) (Or.inl ⟨by rfl,?_⟩) hHeld ?_ ?_
   rotate_left
   ·rintro w' ⟨s0,s1,s2,s3⟩
    go_simp
    with_reducible rfl
   rotate_left
   ·simp only [ap]
    rfl
   refine take_ (i:=2) (N:=some 25) (v:=?_) (a':=?_) (lb 8 47) rfl rfl (take_ofW HT_.out HW_.out (by kernel_rfl)) (fun _ _ _ h=>h) (Or.inl ⟨by rfl,?_⟩) hHeld ?_ ?_
   rotate_left
   ·rintro w' ⟨s0,s1,s2,s3⟩
    go_simp
    with_reducible rfl
   rotate_left
   ·simp only [ap]
    rfl
   refine take_ (i:=6) (N:=some 29) (v:=?_) (a':=?_) (lb 8 111) rfl rfl (take_ofW HT_.out HW_.out (by kernel_rfl)) (fun _ _ _ h=>h) (Or.inl ⟨by rfl,?_⟩) hHeld ?_ ?_
   rotate_left
   ·rintro w' ⟨s0,s1,s2,s3⟩
    go_simp
    with_reducible rfl
   rotate_left
   ·simp only [ap]
    rfl
   refine one_ (i:=4) (N:=some 27) (lb 8 127) rfl rfl (one_of HT_.out (by kernel_rfl)) (by decide) (fun K hK=>?_)
   refine goes_ Try.func64 (by kernel_rfl) rfl #[.agg #[.int .i64 a0_0,.bool a0_1],.int .i64 ((rd_T59 l1 x19_2).f0),.int .i64 x14_1] (by rfl) rfl rfl gl ?_
   with_reducible refine (impl_Road_gap.calls a0_0 a0_1 ((rd_T59 l1 x19_2).f0) x14_1 t190 _ A14.out).mono ?_
   rintro e w24 ⟨rfl,hb⟩
   refine ⟨_,rfl,?_⟩
   replace HO_5:=rb HO_5 hb
   replace BK184:=kb BK184 hb
   replace BK189:=kb BK189 hb
   replace HB:=ak (below_step (h2 HB.out GE184.out GE189.out) hb)
   (try clear hb)
   (try clear hb2)
   (try clear hk)
   (try clear hi)
   refine hK.out _ _ ⟨(blk_cell BK184.out 0).trans rfl,(blk_cell BK184.out 1).trans rfl,(blk_cell BK189.out 0).trans rfl,(blk_cell BK189.out 1).trans rfl⟩ (fun hHeld=>?_)
   clear hK K
   refine norm_ (a':=?_) ?_ ?_
   rotate_left
   ·show Act.put _ (some 27) _ = _
    simp only [ap]
    rfl
   refine pu 7 (N:=some 30) (v:=?_) (a':=?_) (lb 8 255) HT_ (by kernel_rfl) rfl rfl rfl (fun _ _ _ h=>h) ?_ ?_ ?_
   rotate_left
   ·intro w'
    go_simp
    with_reducible rfl
   rotate_left
   ·simp only [ap]
    rfl
   refine done_ (done_of HT_.out (by kernel_rfl)) ?_
   have p191 : 0 ≤ (x14_1 : Int):=od
   have q191 : x14_1 < (x5_2.length : Int):=od
   obtain ⟨ad191,e191,hx191_0⟩:=Kd.at_int (R_reads' HO_5.out).2.2 x14_1 p191 q191
   cases e191
   replace p191:=eq_true p191
   replace q191:=eq_true q191
   have p18 : 0 ≤ (x14_1 : Int):=od
   have q18 : (x14_1 : Int) < ((x5_2.length : Int) : Int):=od
   obtain ⟨go18,co18,eo18,gb18,gl18,cl18,HG18⟩:=R_form HO_5.out (by omega)
   (first|cases eo18|(injection eo18 with ea_ en_ ec_;(first|subst ea_|(injection ea_ with ea_;subst ea_));subst ec_;clear en_))
   have GB18:=Aside0.mk gb18
   have GG18:=Aside0.mk HG18
   clear gb18 gl18 HG18
   (first|simp only [add_plain] at hx191_0|skip)
   obtain ⟨hx18_0,hf18_0⟩:=R_celln 0 HO_5.out (x14_1 : Int) p18 q18
   replace p18:=eq_true p18
   replace q18:=eq_true q18
   obtain ⟨hy25_,hz25_⟩:=R_celln 0 HO_5.out (x14_1 : Int) (od) (od)
   have HP25:=R_putg HO_5.out (x14_1 : Int) (wrap64 ((rd x5_2 x14_1) + 1))
   try go_wp2_with (first|((with_reducible refine gate_store (t:=3) (p:=36) rfl ?_);refine store_event (t:=3) (p:=36) (v:=?vo_w26) (w1:=(w24.setCell ⟨go18,(x14_1 : Int).toNat,none⟩ (.int .i64 (wrap64 ((rd x5_2 x14_1) + 1))))) ?hg ?ho ?hn ?hr ?_;(case ho=>rfl);(case hg=>rfl);(case hn=>rfl);(case hr=>first|(go_simp;done)|(go_simp;rfl));intro w26 hw;have hg : w24.grownBy w26 (some go18):=(by rw [hw];exact HP25.2);have hp_ : Kd.R (Kd.int .i64) 3 w26 w.heap.size (fun _=>True) (.slice (some ⟨go18,0,none⟩) x5_2.length co9) y192:=(by rw [hw,Ny192.out];exact HP25.1);clear HP25;replace BK184:=ak (blk_grown (g:=gb184) (o:=.cells #[.int .i64 a0_0,.bool a0_1] 28 (0,0)) (bm BK184.out) hg (R_ne HO_5.out BK184.out (by decide)));replace BK189:=ak (blk_grown (g:=gb189) (o:=.cells #[.int .i64 ((rd_T59 l1 x19_2).f0),.int .i64 ((rd_T59 l1 x19_2).f1)] 59 (0,0)) (bm BK189.out) hg (R_ne HO_5.out BK189.out (by decide)));replace HO_5:=ak hp_;replace HB:=ak ((by rw [hw];exact below_set (HB.out) GB18.out : Below w.heap.size w w26));clear hg hw hp_))
   (try simp only [← hl5_2])
   go_roundg k2
   case measure=>have:=HK1.out;have:=HK2.out;omega
   case rel=>exact ⟨(y192),(wrap64 (x19_2 + 1)),fd,H',⟨by have:=HK1.out;have:=HK2.out;omega⟩,⟨by (try simp only [hl5_1]);(try simp only [hl5_2]);(with_reducible repeat (first|apply R_alloc|apply R_drewN|apply R_drew));exact HO_5.out⟩,⟨by (try simp only [hl5_1]);(try simp only [hl5_2]);exact bm BK184.out⟩,⟨h2 HB.out GE184.out GE189.out⟩⟩

/-! ### impl_StrengthOf: function 21 -/
def impl_StrengthOf.f (k : Nat) (a0_0 : Int) (a0_1 : Bool) (l1 : List (S59)) : Option (Int × Bool):=(impl_isGuarded.f k a0_0 a0_1 l1).bind fun t194=>(if t194 = true then ((impl_Road_seen.f k a0_0 a0_1 l1).bind fun t195=>((slices_Min_int_int.f k t195).bind fun t198=>(some (t198,true)))) else (some (0,false)))
theorem impl_StrengthOf.mono : ∀ a0 a1 a2 k,LeO (impl_StrengthOf.f k a0 a1 a2) (impl_StrengthOf.f (k + 1) a0 a1 a2):=by
 intro a0 a1 a2 k
 unfold impl_StrengthOf.f
 repeat' first
   | (with_reducible exact impl_Road_seen.mono _ _ _ _)
   | (with_reducible exact impl_isGuarded.mono _ _ _ _)
   | (with_reducible exact slices_Min_int_int.mono _ _)
   | (with_reducible exact LeO.refl _)
   | (with_reducible exact LeO.none _)
   | (with_reducible refine LeO.ite ?_ ?_)
   | (with_reducible refine LeO.bind ?_ (fun _=>?_))
   | exact impl_Road_seen.mono _ _ _ _
   | exact impl_isGuarded.mono _ _ _ _
   | exact slices_Min_int_int.mono _ _
   | exact LeO.none _
   | refine LeO.ite ?_ ?_
   | refine LeO.bind ?_ (fun _=>?_)
set_option maxHeartbeats 8000000 in
set_option maxRecDepth 100000 in
theorem impl_StrengthOf.calls (k : Nat) (a0_0 : Int) (a0_1 : Bool) (A1 : Option Addr) (c1 : Nat) (l1 : List (S59)) (r1 : Int) (r2 : Bool) (w : World) (hr1 : Kd.C k59 w A1 l1.length l1) (hc1 : l1.length ≤ c1) (h : impl_StrengthOf.f k a0_0 a0_1 l1 = some (r1,r2)) :
  Calls Try.prog 21 #[.agg #[.int .i64 a0_0,.bool a0_1],.slice A1 l1.length c1] w fun e w'=>e = .returned (.tuple #[.int .i64 r1,.bool r2]) ∧ Below w.heap.size w w':=by
 have hu28:=Try.underlying28
 have HR1:=Aside0.mk hr1
 have HC1:=Aside0.mk hc1
 clear hr1 hc1
 have HB:=Aside0.mk (Below.refl w.heap.size w)
 have H : ((impl_isGuarded.f k a0_0 a0_1 l1).bind fun t194=>(if t194 = true then ((impl_Road_seen.f k a0_0 a0_1 l1).bind fun t195=>((slices_Min_int_int.f k t195).bind fun t198=>(some (t198,true)))) else (some (0,false)))) = some (r1,r2):=h
 clear h
 replace H:=Option.bind_eq_some_iff.mp H
 obtain ⟨t194,A30,H⟩:=H
 (try dsimp only at H)
 have A3:=Aside0.mk A30
 clear A30
 by_cases c4 : t194 = true
 rotate_left
 ·replace c4:=Bool.eq_false_iff.mpr c4
  subst c4
  rw [if_neg (show ¬ (false = true) by decide)] at H
  simp only [Option.some.injEq,Prod.mk.injEq] at H
  obtain ⟨rfl,rfl⟩:=H
  go_enter Try.func21,Try.ntmps21
  go_wp2_with (first|((with_reducible refine gate_dst (N:=2) rfl ?_);refine box_event ?hg (N:=2) ?hd (cs:=#[.int .i64 a0_0,.bool a0_1]) (t:=28) ?hr ?_;(case hd=>rfl);(case hg=>rfl);(case hr=>first|(go_simp;done)|(go_simp;rfl));intro gb193 hg w14 hbox hb;have BK193:=ak hbox;have GW193:=ak ((by rw [hg];exact (below_size (hm HB.out)) : w.heap.size ≤ gb193));have GE193:=ak ((by rw [hg];exact (below_size (hm HB.out)) : w.heap.size ≤ gb193));replace HB:=bs HB hb;clear hb hbox hg;have hcz15_0 : w14.cell? ⟨gb193,0,none⟩ = some (.int .i64 a0_0):=(blk_cell BK193.out 0).trans rfl;have hcz15_1 : w14.cell? ⟨gb193,1,none⟩ = some (.bool a0_1):=(blk_cell BK193.out 1).trans rfl;have hfz15_0:=blk_frozen BK193.out 0;have hfz15_1:=blk_frozen BK193.out 1)|((with_reducible refine gate_callee (f:=48) rfl ?_);refine goesL_ (some 8) rfl rfl Try.func48 (by kernel_rfl) rfl #[.agg #[.int .i64 a0_0,.bool a0_1],.slice A1 l1.length c1] rfl gl ?_;(with_reducible refine (impl_isGuarded.calls k a0_0 a0_1 _ _ l1 false _ ?side1 ?side2 A3.out).mono ?_);(case side1=>exact cm (C_below HR1.out HB.out));(case side2=>exact HC1.out);rintro e w16 ⟨rfl,hb⟩;refine ⟨_,rfl,?_⟩;replace BK193:=kb BK193 hb;replace HB:=ak (below_step (h1 HB.out GE193.out) hb);(try clear hb);(try clear hk);(try clear hi)))
  go_ret2
  exact ⟨fe,h1 HB.out GE193.out⟩
 subst c4
 rw [if_pos rfl] at H
 replace H:=Option.bind_eq_some_iff.mp H
 obtain ⟨t195,A50,H⟩:=H
 (try dsimp only at H)
 have A5:=Aside0.mk A50
 clear A50
 replace H:=Option.bind_eq_some_iff.mp H
 obtain ⟨t198,A60,H⟩:=H
 (try dsimp only at H)
 have A6:=Aside0.mk A60
 clear A60
 simp only [Option.some.injEq,Prod.mk.injEq] at H
 obtain ⟨rfl,rfl⟩:=H
 go_enter Try.func21,Try.ntmps21
 go_wp2_with (first|((with_reducible refine gate_dst (N:=2) rfl ?_);refine box_event ?hg (N:=2) ?hd (cs:=#[.int .i64 a0_0,.bool a0_1]) (t:=28) ?hr ?_;(case hd=>rfl);(case hg=>rfl);(case hr=>first|(go_simp;done)|(go_simp;rfl));intro gb193 hg w7 hbox hb;have BK193:=ak hbox;have GW193:=ak ((by rw [hg];exact (below_size (hm HB.out)) : w.heap.size ≤ gb193));have GE193:=ak ((by rw [hg];exact (below_size (hm HB.out)) : w.heap.size ≤ gb193));replace HB:=bs HB hb;clear hb hbox hg;have hcz8_0 : w7.cell? ⟨gb193,0,none⟩ = some (.int .i64 a0_0):=(blk_cell BK193.out 0).trans rfl;have hcz8_1 : w7.cell? ⟨gb193,1,none⟩ = some (.bool a0_1):=(blk_cell BK193.out 1).trans rfl;have hfz8_0:=blk_frozen BK193.out 0;have hfz8_1:=blk_frozen BK193.out 1)|((with_reducible refine gate_callee (f:=48) rfl ?_);refine goesL_ (some 8) rfl rfl Try.func48 (by kernel_rfl) rfl #[.agg #[.int .i64 a0_0,.bool a0_1],.slice A1 l1.length c1] rfl gl ?_;(with_reducible refine (impl_isGuarded.calls k a0_0 a0_1 _ _ l1 true _ ?side1 ?side2 A3.out).mono ?_);(case side1=>exact cm (C_below HR1.out HB.out));(case side2=>exact HC1.out);rintro e w9 ⟨rfl,hb⟩;refine ⟨_,rfl,?_⟩;replace BK193:=kb BK193 hb;replace HB:=ak (below_step (h1 HB.out GE193.out) hb);(try clear hb);(try clear hk);(try clear hi);have hcz10_0 : w9.cell? ⟨gb193,0,none⟩ = some (.int .i64 a0_0):=(blk_cell BK193.out 0).trans rfl;have hcz10_1 : w9.cell? ⟨gb193,1,none⟩ = some (.bool a0_1):=(blk_cell BK193.out 1).trans rfl;have hfz10_0:=blk_frozen BK193.out 0;have hfz10_1:=blk_frozen BK193.out 1)|((with_reducible refine gate_callee (f:=52) rfl ?_);refine goesL_ (some 12) rfl rfl Try.func52 (by kernel_rfl) rfl #[.agg #[.int .i64 a0_0,.bool a0_1],.slice A1 l1.length c1] rfl gl ?_;(with_reducible refine (impl_Road_seen.calls k a0_0 a0_1 _ _ l1 t195 _ ?side1 ?side2 A5.out).mono ?_);(case side1=>exact cm (C_below HR1.out HB.out));(case side2=>exact HC1.out);rintro e w11 ⟨v196,rfl,ho0,hb⟩;refine ⟨_,rfl,?_⟩;have HO197:=ak (R_lower ho0 (below_size (h1 HB.out GE193.out)));replace BK193:=kb BK193 hb;replace HB:=ak (below_step (h1 HB.out GE193.out) hb);(try clear hb);(try clear hk);(try clear hi);(try clear ho0);obtain ⟨Ao12,co12,eo12⟩:=R_slice HO197.out;subst eo12)|((with_reducible refine gate_callee (f:=51) rfl ?_);refine goesL_ (some 13) rfl rfl Try.func51 (by kernel_rfl) rfl #[.slice Ao12 t195.length co12] rfl gl ?_;(with_reducible refine (slices_Min_int_int.calls k _ _ t195 t198 _ ?side1 ?side2 A6.out).mono ?_);(case side1=>exact cm (R_reads' HO197.out).2.2);(case side2=>exact (R_reads' HO197.out).2.1);rintro e w13 ⟨rfl,hb⟩;refine ⟨_,rfl,?_⟩;replace HO197:=rb HO197 hb;replace BK193:=kb BK193 hb;replace HB:=ak (below_step (h1 HB.out GE193.out) hb);(try clear hb);(try clear hk);(try clear hi)))
 go_ret2
 exact ⟨fe,h1 HB.out GE193.out⟩

/-! ### spec_SeenBy: function 22 -/
def spec_SeenBy.f (k : Nat) (a0_0 : Int) (a0_1 : Bool) (l1 : List (S59)) : Option (List Int × Bool):=(spec_l9Sensors.f k a0_0 a0_1 l1).bind fun t200=>(if t200 = true then ((spec_l9Seen.f k a0_0 a0_1 l1).bind fun t201=>(some (t201,true))) else (some ((([] : List Int)),false)))
theorem spec_SeenBy.mono : ∀ a0 a1 a2 k,LeO (spec_SeenBy.f k a0 a1 a2) (spec_SeenBy.f (k + 1) a0 a1 a2):=by
 intro a0 a1 a2 k
 unfold spec_SeenBy.f
 repeat' first
   | (with_reducible exact spec_l9Seen.mono _ _ _ _)
   | (with_reducible exact spec_l9Sensors.mono _ _ _ _)
   | (with_reducible exact LeO.refl _)
   | (with_reducible exact LeO.none _)
   | (with_reducible refine LeO.ite ?_ ?_)
   | (with_reducible refine LeO.bind ?_ (fun _=>?_))
   | exact spec_l9Seen.mono _ _ _ _
   | exact spec_l9Sensors.mono _ _ _ _
   | exact LeO.none _
   | refine LeO.ite ?_ ?_
   | refine LeO.bind ?_ (fun _=>?_)
set_option maxHeartbeats 8000000 in
set_option maxRecDepth 100000 in
theorem spec_SeenBy.calls (k : Nat) (a0_0 : Int) (a0_1 : Bool) (A1 : Option Addr) (c1 : Nat) (l1 : List (S59)) (r1 : List Int) (r2 : Bool) (w : World) (hr1 : Kd.C k59 w A1 l1.length l1) (hc1 : l1.length ≤ c1) (h : spec_SeenBy.f k a0_0 a0_1 l1 = some (r1,r2)) :
  Calls Try.prog 22 #[.agg #[.int .i64 a0_0,.bool a0_1],.slice A1 l1.length c1] w fun e w'=>∃ v0_ : Value,e = .returned (.tuple #[v0_,.bool r2]) ∧ Kd.R (Kd.int .i64) 3 w' w.heap.size (fun _=>True) v0_ r1 ∧ Below w.heap.size w w':=by
 have hu28:=Try.underlying28
 have HR1:=Aside0.mk hr1
 have HC1:=Aside0.mk hc1
 clear hr1 hc1
 have HB:=Aside0.mk (Below.refl w.heap.size w)
 have H : ((spec_l9Sensors.f k a0_0 a0_1 l1).bind fun t200=>(if t200 = true then ((spec_l9Seen.f k a0_0 a0_1 l1).bind fun t201=>(some (t201,true))) else (some ((([] : List Int)),false)))) = some (r1,r2):=h
 clear h
 replace H:=Option.bind_eq_some_iff.mp H
 obtain ⟨t200,A30,H⟩:=H
 (try dsimp only at H)
 have A3:=Aside0.mk A30
 clear A30
 by_cases c4 : t200 = true
 rotate_left
 ·replace c4:=Bool.eq_false_iff.mpr c4
  subst c4
  rw [if_neg (show ¬ (false = true) by decide)] at H
  obtain ⟨y204,hy204⟩ : ∃ y_ : List Int,y_ = (([] : List Int)):=⟨_,rfl⟩
  replace H : (some (y204,false)) = some (r1,r2):=by first|(rw [hy204];with_reducible exact H)|(have H2_:=(Option.bind_some _ _).symm.trans H;rw [hy204];with_reducible exact H2_)|(have H2_:=(Option.bind_some _ _).symm.trans H;with_reducible exact H2_)|with_reducible exact H|(rw [hy204];exact H)|exact H
  have Ny204:=Aside0.mk hy204
  clear hy204
  simp only [Option.some.injEq,Prod.mk.injEq] at H
  obtain ⟨rfl,rfl⟩:=H
  go_enter Try.func22,Try.ntmps22
  go_wp2_with (first|((with_reducible refine gate_dst (N:=2) rfl ?_);refine box_event ?hg (N:=2) ?hd (cs:=#[.int .i64 a0_0,.bool a0_1]) (t:=28) ?hr ?_;(case hd=>rfl);(case hg=>rfl);(case hr=>first|(go_simp;done)|(go_simp;rfl));intro gb199 hg w11 hbox hb;have BK199:=ak hbox;have GW199:=ak ((by rw [hg];exact (below_size (hm HB.out)) : w.heap.size ≤ gb199));have GE199:=ak ((by rw [hg];exact (below_size (hm HB.out)) : w.heap.size ≤ gb199));replace HB:=bs HB hb;clear hb hbox hg;have hcz12_0 : w11.cell? ⟨gb199,0,none⟩ = some (.int .i64 a0_0):=(blk_cell BK199.out 0).trans rfl;have hcz12_1 : w11.cell? ⟨gb199,1,none⟩ = some (.bool a0_1):=(blk_cell BK199.out 1).trans rfl;have hfz12_0:=blk_frozen BK199.out 0;have hfz12_1:=blk_frozen BK199.out 1)|((with_reducible refine gate_callee (f:=43) rfl ?_);refine goesL_ (some 8) rfl rfl Try.func43 (by kernel_rfl) rfl #[.agg #[.int .i64 a0_0,.bool a0_1],.slice A1 l1.length c1] rfl gl ?_;(with_reducible refine (spec_l9Sensors.calls k a0_0 a0_1 _ _ l1 false _ ?side1 ?side2 A3.out).mono ?_);(case side1=>exact cm (C_below HR1.out HB.out));(case side2=>exact HC1.out);rintro e w13 ⟨rfl,hb⟩;refine ⟨_,rfl,?_⟩;replace BK199:=kb BK199 hb;replace HB:=ak (below_step (h1 HB.out GE199.out) hb);(try clear hb);(try clear hk);(try clear hi))|((with_reducible refine gate_dst (N:=10) rfl ?_);refine R_lit (Kd.int .i64) _ 3 ?hg (N:=10) ?hd (xs:=([] : List Int)) (inner:=[]) (ok:=fun _=>True) (okp:=fun _=>True) ?hr ?hp (fun _ hk=>hk) trivial (Below.refl _ _) (Nat.le_refl _) (by simp) ?_;(case hd=>rfl);(case hg=>rfl);(case hr=>first|(go_simp;done)|(go_simp;rfl));(case hp=>exact (Reps.none _ _));intro v205 w14 ho15 hb hg_ hnew_;clear hg_ hnew_;(first|rw [← Ny204.out] at ho15|(simp only [Int.reduceToNat] at ho15;rw [← Ny204.out] at ho15));have HO206:=ak (R_lower ho15 (below_size (h1 HB.out GE199.out)));replace BK199:=kb BK199 hb;replace HB:=ak (below_step (h1 HB.out GE199.out) hb);clear hb ho15))
  go_ret2
  exact ⟨_,fe,rm HO206.out,h1 HB.out GE199.out⟩
 subst c4
 rw [if_pos rfl] at H
 replace H:=Option.bind_eq_some_iff.mp H
 obtain ⟨t201,A50,H⟩:=H
 (try dsimp only at H)
 have A5:=Aside0.mk A50
 clear A50
 simp only [Option.some.injEq,Prod.mk.injEq] at H
 obtain ⟨rfl,rfl⟩:=H
 go_enter Try.func22,Try.ntmps22
 go_wp2_with (first|((with_reducible refine gate_dst (N:=2) rfl ?_);refine box_event ?hg (N:=2) ?hd (cs:=#[.int .i64 a0_0,.bool a0_1]) (t:=28) ?hr ?_;(case hd=>rfl);(case hg=>rfl);(case hr=>first|(go_simp;done)|(go_simp;rfl));intro gb199 hg w6 hbox hb;have BK199:=ak hbox;have GW199:=ak ((by rw [hg];exact (below_size (hm HB.out)) : w.heap.size ≤ gb199));have GE199:=ak ((by rw [hg];exact (below_size (hm HB.out)) : w.heap.size ≤ gb199));replace HB:=bs HB hb;clear hb hbox hg;have hcz7_0 : w6.cell? ⟨gb199,0,none⟩ = some (.int .i64 a0_0):=(blk_cell BK199.out 0).trans rfl;have hcz7_1 : w6.cell? ⟨gb199,1,none⟩ = some (.bool a0_1):=(blk_cell BK199.out 1).trans rfl;have hfz7_0:=blk_frozen BK199.out 0;have hfz7_1:=blk_frozen BK199.out 1)|((with_reducible refine gate_callee (f:=43) rfl ?_);refine goesL_ (some 8) rfl rfl Try.func43 (by kernel_rfl) rfl #[.agg #[.int .i64 a0_0,.bool a0_1],.slice A1 l1.length c1] rfl gl ?_;(with_reducible refine (spec_l9Sensors.calls k a0_0 a0_1 _ _ l1 true _ ?side1 ?side2 A3.out).mono ?_);(case side1=>exact cm (C_below HR1.out HB.out));(case side2=>exact HC1.out);rintro e w8 ⟨rfl,hb⟩;refine ⟨_,rfl,?_⟩;replace BK199:=kb BK199 hb;replace HB:=ak (below_step (h1 HB.out GE199.out) hb);(try clear hb);(try clear hk);(try clear hi);have hcz9_0 : w8.cell? ⟨gb199,0,none⟩ = some (.int .i64 a0_0):=(blk_cell BK199.out 0).trans rfl;have hcz9_1 : w8.cell? ⟨gb199,1,none⟩ = some (.bool a0_1):=(blk_cell BK199.out 1).trans rfl;have hfz9_0:=blk_frozen BK199.out 0;have hfz9_1:=blk_frozen BK199.out 1)|((with_reducible refine gate_callee (f:=53) rfl ?_);refine goesL_ (some 13) rfl rfl Try.func53 (by kernel_rfl) rfl #[.agg #[.int .i64 a0_0,.bool a0_1],.slice A1 l1.length c1] rfl gl ?_;(with_reducible refine (spec_l9Seen.calls k a0_0 a0_1 _ _ l1 t201 _ ?side1 ?side2 A5.out).mono ?_);(case side1=>exact cm (C_below HR1.out HB.out));(case side2=>exact HC1.out);rintro e w10 ⟨v202,rfl,ho0,hb⟩;refine ⟨_,rfl,?_⟩;have HO203:=ak (R_lower ho0 (below_size (h1 HB.out GE199.out)));replace BK199:=kb BK199 hb;replace HB:=ak (below_step (h1 HB.out GE199.out) hb);(try clear hb);(try clear hk);(try clear hi);(try clear ho0)))
 go_ret2
 exact ⟨_,fe,rm HO203.out,h1 HB.out GE199.out⟩

/-! ### impl_SeenBy: function 23 -/
def impl_SeenBy.f (k : Nat) (a0_0 : Int) (a0_1 : Bool) (l1 : List (S59)) : Option (List Int × Bool):=(impl_isGuarded.f k a0_0 a0_1 l1).bind fun t208=>(if t208 = true then ((impl_Road_seen.f k a0_0 a0_1 l1).bind fun t209=>(some (t209,true))) else (some (([] : List Int),false)))
theorem impl_SeenBy.mono : ∀ a0 a1 a2 k,LeO (impl_SeenBy.f k a0 a1 a2) (impl_SeenBy.f (k + 1) a0 a1 a2):=by
 intro a0 a1 a2 k
 unfold impl_SeenBy.f
 repeat' first
   | (with_reducible exact impl_Road_seen.mono _ _ _ _)
   | (with_reducible exact impl_isGuarded.mono _ _ _ _)
   | (with_reducible exact LeO.refl _)
   | (with_reducible exact LeO.none _)
   | (with_reducible refine LeO.ite ?_ ?_)
   | (with_reducible refine LeO.bind ?_ (fun _=>?_))
   | exact impl_Road_seen.mono _ _ _ _
   | exact impl_isGuarded.mono _ _ _ _
   | exact LeO.none _
   | refine LeO.ite ?_ ?_
   | refine LeO.bind ?_ (fun _=>?_)
set_option maxHeartbeats 8000000 in
set_option maxRecDepth 100000 in
theorem impl_SeenBy.calls (k : Nat) (a0_0 : Int) (a0_1 : Bool) (A1 : Option Addr) (c1 : Nat) (l1 : List (S59)) (r1 : List Int) (r2 : Bool) (w : World) (hr1 : Kd.C k59 w A1 l1.length l1) (hc1 : l1.length ≤ c1) (h : impl_SeenBy.f k a0_0 a0_1 l1 = some (r1,r2)) :
  Calls Try.prog 23 #[.agg #[.int .i64 a0_0,.bool a0_1],.slice A1 l1.length c1] w fun e w'=>∃ v0_ : Value,e = .returned (.tuple #[v0_,.bool r2]) ∧ Kd.R (Kd.int .i64) 3 w' w.heap.size (fun _=>True) v0_ r1 ∧ Below w.heap.size w w':=by
 have hu28:=Try.underlying28
 have HR1:=Aside0.mk hr1
 have HC1:=Aside0.mk hc1
 clear hr1 hc1
 have HB:=Aside0.mk (Below.refl w.heap.size w)
 have H : ((impl_isGuarded.f k a0_0 a0_1 l1).bind fun t208=>(if t208 = true then ((impl_Road_seen.f k a0_0 a0_1 l1).bind fun t209=>(some (t209,true))) else (some (([] : List Int),false)))) = some (r1,r2):=h
 clear h
 replace H:=Option.bind_eq_some_iff.mp H
 obtain ⟨t208,A30,H⟩:=H
 (try dsimp only at H)
 have A3:=Aside0.mk A30
 clear A30
 by_cases c4 : t208 = true
 rotate_left
 ·replace c4:=Bool.eq_false_iff.mpr c4
  subst c4
  rw [if_neg (show ¬ (false = true) by decide)] at H
  simp only [Option.some.injEq,Prod.mk.injEq] at H
  obtain ⟨rfl,rfl⟩:=H
  go_enter Try.func23,Try.ntmps23
  go_wp2_with (first|((with_reducible refine gate_dst (N:=2) rfl ?_);refine box_event ?hg (N:=2) ?hd (cs:=#[.int .i64 a0_0,.bool a0_1]) (t:=28) ?hr ?_;(case hd=>rfl);(case hg=>rfl);(case hr=>first|(go_simp;done)|(go_simp;rfl));intro gb207 hg w11 hbox hb;have BK207:=ak hbox;have GW207:=ak ((by rw [hg];exact (below_size (hm HB.out)) : w.heap.size ≤ gb207));have GE207:=ak ((by rw [hg];exact (below_size (hm HB.out)) : w.heap.size ≤ gb207));replace HB:=bs HB hb;clear hb hbox hg;have hcz12_0 : w11.cell? ⟨gb207,0,none⟩ = some (.int .i64 a0_0):=(blk_cell BK207.out 0).trans rfl;have hcz12_1 : w11.cell? ⟨gb207,1,none⟩ = some (.bool a0_1):=(blk_cell BK207.out 1).trans rfl;have hfz12_0:=blk_frozen BK207.out 0;have hfz12_1:=blk_frozen BK207.out 1)|((with_reducible refine gate_callee (f:=48) rfl ?_);refine goesL_ (some 8) rfl rfl Try.func48 (by kernel_rfl) rfl #[.agg #[.int .i64 a0_0,.bool a0_1],.slice A1 l1.length c1] rfl gl ?_;(with_reducible refine (impl_isGuarded.calls k a0_0 a0_1 _ _ l1 false _ ?side1 ?side2 A3.out).mono ?_);(case side1=>exact cm (C_below HR1.out HB.out));(case side2=>exact HC1.out);rintro e w13 ⟨rfl,hb⟩;refine ⟨_,rfl,?_⟩;replace BK207:=kb BK207 hb;replace HB:=ak (below_step (h1 HB.out GE207.out) hb);(try clear hb);(try clear hk);(try clear hi)))
  go_ret2
  exact ⟨_,fe,by first|exact R_nil _ _ _ _ _|exact Kd.N_nil _ _ _ _ _|exact Kd.V_nil _ _ _ _ _|exact Kd.Q_nil _ _ _ _ _|exact Kd.S_nil _ _ _ _ _,h1 HB.out GE207.out⟩
 subst c4
 rw [if_pos rfl] at H
 replace H:=Option.bind_eq_some_iff.mp H
 obtain ⟨t209,A50,H⟩:=H
 (try dsimp only at H)
 have A5:=Aside0.mk A50
 clear A50
 simp only [Option.some.injEq,Prod.mk.injEq] at H
 obtain ⟨rfl,rfl⟩:=H
 go_enter Try.func23,Try.ntmps23
 go_wp2_with (first|((with_reducible refine gate_dst (N:=2) rfl ?_);refine box_event ?hg (N:=2) ?hd (cs:=#[.int .i64 a0_0,.bool a0_1]) (t:=28) ?hr ?_;(case hd=>rfl);(case hg=>rfl);(case hr=>first|(go_simp;done)|(go_simp;rfl));intro gb207 hg w6 hbox hb;have BK207:=ak hbox;have GW207:=ak ((by rw [hg];exact (below_size (hm HB.out)) : w.heap.size ≤ gb207));have GE207:=ak ((by rw [hg];exact (below_size (hm HB.out)) : w.heap.size ≤ gb207));replace HB:=bs HB hb;clear hb hbox hg;have hcz7_0 : w6.cell? ⟨gb207,0,none⟩ = some (.int .i64 a0_0):=(blk_cell BK207.out 0).trans rfl;have hcz7_1 : w6.cell? ⟨gb207,1,none⟩ = some (.bool a0_1):=(blk_cell BK207.out 1).trans rfl;have hfz7_0:=blk_frozen BK207.out 0;have hfz7_1:=blk_frozen BK207.out 1)|((with_reducible refine gate_callee (f:=48) rfl ?_);refine goesL_ (some 8) rfl rfl Try.func48 (by kernel_rfl) rfl #[.agg #[.int .i64 a0_0,.bool a0_1],.slice A1 l1.length c1] rfl gl ?_;(with_reducible refine (impl_isGuarded.calls k a0_0 a0_1 _ _ l1 true _ ?side1 ?side2 A3.out).mono ?_);(case side1=>exact cm (C_below HR1.out HB.out));(case side2=>exact HC1.out);rintro e w8 ⟨rfl,hb⟩;refine ⟨_,rfl,?_⟩;replace BK207:=kb BK207 hb;replace HB:=ak (below_step (h1 HB.out GE207.out) hb);(try clear hb);(try clear hk);(try clear hi);have hcz9_0 : w8.cell? ⟨gb207,0,none⟩ = some (.int .i64 a0_0):=(blk_cell BK207.out 0).trans rfl;have hcz9_1 : w8.cell? ⟨gb207,1,none⟩ = some (.bool a0_1):=(blk_cell BK207.out 1).trans rfl;have hfz9_0:=blk_frozen BK207.out 0;have hfz9_1:=blk_frozen BK207.out 1)|((with_reducible refine gate_callee (f:=52) rfl ?_);refine goesL_ (some 12) rfl rfl Try.func52 (by kernel_rfl) rfl #[.agg #[.int .i64 a0_0,.bool a0_1],.slice A1 l1.length c1] rfl gl ?_;(with_reducible refine (impl_Road_seen.calls k a0_0 a0_1 _ _ l1 t209 _ ?side1 ?side2 A5.out).mono ?_);(case side1=>exact cm (C_below HR1.out HB.out));(case side2=>exact HC1.out);rintro e w10 ⟨v210,rfl,ho0,hb⟩;refine ⟨_,rfl,?_⟩;have HO211:=ak (R_lower ho0 (below_size (h1 HB.out GE207.out)));replace BK207:=kb BK207 hb;replace HB:=ak (below_step (h1 HB.out GE207.out) hb);(try clear hb);(try clear hk);(try clear hi);(try clear ho0)))
 go_ret2
 exact ⟨_,fe,rm HO211.out,h1 HB.out GE207.out⟩


end
end Go.Proofs.Ytknfhoghimnieaa.QFnSensors
