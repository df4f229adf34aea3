/- Functions that the law FnLanes comes to, as Lean functions, with the proof that the Go code does what they say: written by a program of this session over the kit's print. No condition but those named. -/
import Derived.Test.YthkbjcihelmaeaaQFnLanesx0
import Derived.Test.YthkbjcihelmaeaaQFnLanesx1
import Derived.Test.YthkbjcihelmaeaaQFnLanesx3
namespace Go.Proofs.Ythkbjcihelmaeaa.QFnLanes
open Go.RowKit Go.Proofs.YthkbjcihelmaeaaW.PrintWords Go.Proofs.YthkbjcihelmaeaaW.PrintLast Go.Proofs.YthkbjcihelmaeaaW.PrintMore Go.Proofs.Ythkbjcihelmaeaa.Short
attribute [local go_sem] max2_int min2_int max_two min_two max_three min_three max_four min_four   -- for this text's walks alone
set_option linter.unusedVariables false
set_option linter.unusedSimpArgs false

/-! ### spec_l8Turn: function 49 -/
section
open Kd
def spec_l8Turn.l0 : Nat → List Int → List Int → Int → Int → Int → Option (List Int × Int)
 | 0,_,_,_,_,_=>none
 | k + 1,x0,x4,x5,x6,x7=>if x7 < x6 then (if x6 = 0 then (none) else (if 0 ≤ x7 then (if x7 < (x0.length : Int) then (if (rd x0 x7) = 1 then (if 0 ≤ (Int.tmod (wrap64 (x7 + 1)) x6) then (if (Int.tmod (wrap64 (x7 + 1)) x6) < (x0.length : Int) then (if (rd x0 (Int.tmod (wrap64 (x7 + 1)) x6)) = 0 then (if x7 < (x4.length : Int) then (if (Int.tmod (wrap64 (x7 + 1)) x6) < (x4.length : Int) then (spec_l8Turn.l0 k x0 ((x4.set (x7 : Int).toNat 0).set ((Int.tmod (wrap64 (x7 + 1)) x6) : Int).toNat 1) (wrap64 (x5 + 1)) x6 (wrap64 (x7 + 1))) else (none)) else (none)) else (spec_l8Turn.l0 k x0 x4 x5 x6 (wrap64 (x7 + 1)))) else (none)) else (none)) else (spec_l8Turn.l0 k x0 x4 x5 x6 (wrap64 (x7 + 1)))) else (none)) else (none))) else (some (x4,x5))
def spec_l8Turn.f (k : Nat) (l0 : List Int) : Option (List Int × Int):=(spec_l1Own.f l0).bind fun t179=>(spec_l8Turn.l0 k l0 t179 0 (l0.length : Int) 0)
theorem spec_l8Turn.mono_l : ∀ k,(∀ y0 y1 y2 y3 y4,LeO (spec_l8Turn.l0 k y0 y1 y2 y3 y4) (spec_l8Turn.l0 (k + 1) y0 y1 y2 y3 y4))
 | 0=>fun _ _ _ _ _ r h=>by simp [spec_l8Turn.l0] at h
 | k + 1=>by
  have ih0:=spec_l8Turn.mono_l k
  ·intro y0 y1 y2 y3 y4
   unfold spec_l8Turn.l0
   repeat' first
   | (with_reducible exact ih0 _ _ _ _ _)
   | (with_reducible exact LeO.refl _)
   | (with_reducible exact LeO.none _)
   | (with_reducible refine LeO.ite ?_ ?_)
   | (with_reducible refine LeO.bind ?_ (fun _=>?_))
   | exact ih0 _ _ _ _ _
   | exact LeO.none _
   | refine LeO.ite ?_ ?_
   | refine LeO.bind ?_ (fun _=>?_)
theorem spec_l8Turn.mono : ∀ a0 k,LeO (spec_l8Turn.f k a0) (spec_l8Turn.f (k + 1) a0):=by
 intro a0 k
 have ih0:=spec_l8Turn.mono_l k
 unfold spec_l8Turn.f
 repeat' first
   | (with_reducible exact ih0 _ _ _ _ _)
   | (with_reducible exact LeO.refl _)
   | (with_reducible exact LeO.none _)
   | (with_reducible refine LeO.ite ?_ ?_)
   | (with_reducible refine LeO.bind ?_ (fun _=>?_))
   | exact ih0 _ _ _ _ _
   | exact LeO.none _
   | refine LeO.ite ?_ ?_
   | refine LeO.bind ?_ (fun _=>?_)
set_option maxHeartbeats 8000000 in
set_option maxRecDepth 100000 in
theorem spec_l8Turn.calls (k : Nat) (A0 : Option Addr) (c0 : Nat) (l0 : List Int) (r1 : List Int) (r2 : Int) (w : World) (hr0 : Kd.C (Kd.int .i64) w A0 l0.length l0) (hc0 : l0.length ≤ c0) (h : spec_l8Turn.f k l0 = some (r1,r2)) :
  Calls Try.prog 49 #[.slice A0 l0.length c0] w fun e w'=>∃ v0_ : Value,e = .returned (.tuple #[v0_,.int .i64 r2]) ∧ Kd.R (Kd.int .i64) 3 w' w.heap.size (fun _=>True) v0_ r1 ∧ Below w.heap.size w w':=by
 have HR0:=Aside0.mk hr0
 have HC0:=Aside0.mk hc0
 clear hr0 hc0
 have HB:=Aside0.mk (Below.refl w.heap.size w)
 have H : ((spec_l1Own.f l0).bind fun t179=>(spec_l8Turn.l0 k l0 t179 0 (l0.length : Int) 0)) = some (r1,r2):=h
 clear h
 replace H:=Option.bind_eq_some_iff.mp H
 obtain ⟨t179,A20,H⟩:=H
 replace H : (spec_l8Turn.l0 k l0 t179 0 (l0.length : Int) 0) = some (r1,r2):=H
 have A2:=Aside0.mk A20
 clear A20
 have H':=Aside0.mk H
 clear H
 go_enter Try.func49,Try.ntmps49
 go_wp2_with (first|((with_reducible refine gate_callee (f:=51) rfl ?_);refine goesL_ (some 10) rfl rfl Try.func51 (by kernel_rfl) rfl #[.slice A0 l0.length c0] rfl (by (try simp only [List.map_toArray,List.map_cons,List.map_nil]);first|done|rfl|(simp only [List.length_drop,List.length_take];rfl)) ?_;(with_reducible refine (spec_l1Own.calls _ _ l0 t179 _ ?side1 ?side2 A2.out).mono ?_);(case side1=>repeat (first|exact HR0.out|(with_reducible refine C_alloc ?_ _)|(with_reducible refine C_drewN ?_ _)|(with_reducible refine C_drew ?_)));(case side2=>exact HC0.out);rintro e w3 ⟨v180,rfl,ho0,hb⟩;refine ⟨_,rfl,?_⟩;have n0_:=Aside0.mk (R_lower ho0 (below_size (hm HB.out)));have n1_:=Aside0.mk (below_step (hm HB.out) hb);clear HB;have HO181:=n0_;have HB:=n1_;clear n0_ n1_;(try clear hb);(try clear hb2);(try clear hk);(try clear hi);(try clear ho0)))
 go_loopg [5,7] k (fun kq v5 v7 w'=>∃ (x4_1 : List Int) (x5_1 : Int) (x7_1 : Int),v5 = .int .i64 x5_1 ∧ v7 = .int .i64 x7_1 ∧ Aside0 (spec_l8Turn.l0 kq l0 x4_1 x5_1 (l0.length : Int) x7_1 = some (r1,r2)) ∧ Aside0 (kq ≤ k) ∧ Aside0 (Kd.R (Kd.int .i64) 3 w' w.heap.size (fun _=>True) v180 x4_1) ∧ Aside0 (Below w.heap.size w w'))
 case atStart=>exact ⟨(t179),(0),(0),(by first|rfl|(simp;done)|(simp [*];done)),(by first|rfl|(simp;done)|(simp [*];done)),H',⟨Nat.le_refl _⟩,⟨rm HO181.out⟩,⟨hm HB.out⟩⟩
 clear H'
 try clear p2
 obtain ⟨x4_1,x5_1,x7_1,rfl,rfl,HA,HK1,HO_4,HB⟩:=hrel
 cases gk with
 | zero=>exact absurd HA.out (by simp [spec_l8Turn.l0])
 | succ k1 =>
  have H:=HA.out
  clear HA
  simp only [spec_l8Turn.l0] at H
  by_cases c4 : x7_1 < (l0.length : Int)
  rotate_left
  ·rw [if_neg c4] at H
   have c4b0 : decide (x7_1 < (l0.length : Int)) = false:=decide_eq_false c4
   clear c4
   simp only [Option.some.injEq,Prod.mk.injEq] at H
   obtain ⟨rfl,rfl⟩:=H
   go_wp2
   go_ret2
   exact ⟨_,by first|rfl|(simp [errW_none,errW_some] <;> rfl)|(simp [*,errW_none,errW_some] <;> rfl),rm HO_4.out,hm HB.out⟩
  rw [if_pos c4] at H
  have c4b0 : decide (x7_1 < (l0.length : Int)) = true:=decide_eq_true c4
  clear c4
  by_cases c5 : (l0.length : Int) = 0
  ·rw [if_pos c5] at H
   exact absurd H (by simp)
  rw [if_neg c5] at H
  have c5b0 : ((l0.length : Int) == 0) = false:=beq_eq_false_iff_ne.mpr c5
  have c5b1 : ((l0.length : Int) != 0) = true:=bne_iff_ne.mpr c5
  have c5b2 : ¬ (l0 = []):=fun h_=>c5 (by rw [h_];rfl)
  by_cases c6 : 0 ≤ x7_1
  rotate_left
  ·rw [if_neg c6] at H
   exact absurd H (by simp)
  rw [if_pos c6] at H
  have c6b0 : decide (0 ≤ x7_1) = true:=decide_eq_true c6
  clear c6
  by_cases c7 : x7_1 < (l0.length : Int)
  rotate_left
  ·rw [if_neg c7] at H
   exact absurd H (by simp)
  rw [if_pos c7] at H
  have c7b0 : decide (x7_1 < (l0.length : Int)) = true:=decide_eq_true c7
  clear c7
  by_cases c8 : (rd l0 x7_1) = 1
  rotate_left
  ·rw [if_neg c8] at H
   have c8b0 : ((rd l0 x7_1) == 1) = false:=beq_eq_false_iff_ne.mpr c8
   have c8b1 : ((rd l0 x7_1) != 1) = true:=bne_iff_ne.mpr c8
   have H':=Aside0.mk H
   clear H
   have p182 : 0 ≤ (x7_1 : Int):=od
   have q182 : x7_1 < (l0.length : Int):=od
   obtain ⟨ad182,e182,hx182_0⟩:=Kd.at_int HR0.out x7_1 p182 q182
   cases e182
   replace hx182_0:=(HB.out.cell (World.block_lt_of_cell? w _ hx182_0)).trans hx182_0
   replace p182:=eq_true p182
   replace q182:=eq_true q182
   go_wp2
   go_roundg k1
   case measure=>have:=HK1.out;omega
   case rel=>exact ⟨(x4_1),(x5_1),(wrap64 (x7_1 + 1)),(by first|rfl|(simp;done)|(simp [*];done)),(by first|rfl|(simp;done)|(simp [*];done)),H',⟨by have:=HK1.out;omega⟩,⟨rm HO_4.out⟩,⟨hm HB.out⟩⟩
  rw [if_pos c8] at H
  have c8b0 : ((rd l0 x7_1) == 1) = true:=beq_iff_eq.mpr c8
  have c8b1 : ((rd l0 x7_1) != 1) = false:=bne_eq_false_iff_eq.mpr c8
  clear c8
  obtain ⟨ji9,hji9⟩ : ∃ j_ : Int,(Int.tmod (wrap64 (x7_1 + 1)) (l0.length : Int)) = j_:=⟨_,rfl⟩
  replace H : (if 0 ≤ (ji9) then (if (ji9) < (l0.length : Int) then (if (rd l0 (ji9)) = 0 then (if x7_1 < (x4_1.length : Int) then (if (ji9) < (x4_1.length : Int) then (spec_l8Turn.l0 k1 l0 ((x4_1.set (x7_1 : Int).toNat 0).set ((ji9) : Int).toNat 1) (wrap64 (x5_1 + 1)) (l0.length : Int) (wrap64 (x7_1 + 1))) else (none)) else (none)) else (spec_l8Turn.l0 k1 l0 x4_1 x5_1 (l0.length : Int) (wrap64 (x7_1 + 1)))) else (none)) else (none)) = some (r1,r2):=by first|(rw [hji9] at H;exact H)|(simp only [hji9] at H ⊢;exact H)
  by_cases c10 : 0 ≤ (ji9)
  rotate_left
  ·rw [if_neg c10] at H
   exact absurd H (by simp)
  rw [if_pos c10] at H
  have c10b0 : decide (0 ≤ (ji9)) = true:=decide_eq_true c10
  clear c10
  by_cases c11 : (ji9) < (l0.length : Int)
  rotate_left
  ·rw [if_neg c11] at H
   exact absurd H (by simp)
  rw [if_pos c11] at H
  have c11b0 : decide ((ji9) < (l0.length : Int)) = true:=decide_eq_true c11
  clear c11
  by_cases c12 : (rd l0 (ji9)) = 0
  rotate_left
  ·rw [if_neg c12] at H
   have c12b0 : ((rd l0 (ji9)) == 0) = false:=beq_eq_false_iff_ne.mpr c12
   have c12b1 : ((rd l0 (ji9)) != 0) = true:=bne_iff_ne.mpr c12
   have H':=Aside0.mk H
   clear H
   have p182 : 0 ≤ (x7_1 : Int):=od
   have q182 : x7_1 < (l0.length : Int):=od
   obtain ⟨ad182,e182,hx182_0⟩:=Kd.at_int HR0.out x7_1 p182 q182
   cases e182
   replace hx182_0:=(HB.out.cell (World.block_lt_of_cell? w _ hx182_0)).trans hx182_0
   replace p182:=eq_true p182
   replace q182:=eq_true q182
   have p183 : 0 ≤ ((ji9) : Int):=od
   have q183 : (ji9) < (l0.length : Int):=od
   obtain ⟨ad183,e183,hx183_0⟩:=Kd.at_int HR0.out (ji9) p183 q183
   obtain rfl : ad182 = ad183:=(by injection e183)
   replace hx183_0:=(HB.out.cell (World.block_lt_of_cell? w _ hx183_0)).trans hx183_0
   replace p183:=eq_true p183
   replace q183:=eq_true q183
   go_wp2
   go_roundg k1
   case measure=>have:=HK1.out;omega
   case rel=>exact ⟨(x4_1),(x5_1),(wrap64 (x7_1 + 1)),(by first|rfl|(simp;done)|(simp [*];done)),(by first|rfl|(simp;done)|(simp [*];done)),H',⟨by have:=HK1.out;omega⟩,⟨rm HO_4.out⟩,⟨hm HB.out⟩⟩
  rw [if_pos c12] at H
  have c12b0 : ((rd l0 (ji9)) == 0) = true:=beq_iff_eq.mpr c12
  have c12b1 : ((rd l0 (ji9)) != 0) = false:=bne_eq_false_iff_eq.mpr c12
  clear c12
  by_cases c13 : x7_1 < (x4_1.length : Int)
  rotate_left
  ·rw [if_neg c13] at H
   exact absurd H (by simp)
  rw [if_pos c13] at H
  have c13b0 : decide (x7_1 < (x4_1.length : Int)) = true:=decide_eq_true c13
  clear c13
  obtain ⟨y184,hy184⟩ : ∃ y_ : List Int,y_ = (x4_1.set (x7_1 : Int).toNat 0):=⟨_,rfl⟩
  replace H : (if (ji9) < (x4_1.length : Int) then (spec_l8Turn.l0 k1 l0 (y184.set ((ji9) : Int).toNat 1) (wrap64 (x5_1 + 1)) (l0.length : Int) (wrap64 (x7_1 + 1))) else (none)) = some (r1,r2):=by first|(rw [hy184];with_reducible exact H)|(have H2_:=(Option.bind_some _ _).symm.trans H;rw [hy184];with_reducible exact H2_)|(have H2_:=(Option.bind_some _ _).symm.trans H;with_reducible exact H2_)|with_reducible exact H|(rw [hy184];exact H)|exact H
  have Ny184:=Aside0.mk hy184
  clear hy184
  by_cases c15 : (ji9) < (x4_1.length : Int)
  rotate_left
  ·rw [if_neg c15] at H
   exact absurd H (by simp)
  rw [if_pos c15] at H
  have c15b0 : decide ((ji9) < (x4_1.length : Int)) = true:=decide_eq_true c15
  clear c15
  obtain ⟨y185,hy185⟩ : ∃ y_ : List Int,y_ = (y184.set ((ji9) : Int).toNat 1):=⟨_,rfl⟩
  replace H : (spec_l8Turn.l0 k1 l0 y185 (wrap64 (x5_1 + 1)) (l0.length : Int) (wrap64 (x7_1 + 1))) = some (r1,r2):=by first|(rw [hy185];with_reducible exact H)|(have H2_:=(Option.bind_some _ _).symm.trans H;rw [hy185];with_reducible exact H2_)|(have H2_:=(Option.bind_some _ _).symm.trans H;with_reducible exact H2_)|with_reducible exact H|(rw [hy185];exact H)|exact H
  have Ny185:=Aside0.mk hy185
  clear hy185
  have H':=Aside0.mk H
  clear H
  have p182 : 0 ≤ (x7_1 : Int):=od
  have q182 : x7_1 < (l0.length : Int):=od
  obtain ⟨ad182,e182,hx182_0⟩:=Kd.at_int HR0.out x7_1 p182 q182
  cases e182
  replace hx182_0:=(HB.out.cell (World.block_lt_of_cell? w _ hx182_0)).trans hx182_0
  replace p182:=eq_true p182
  replace q182:=eq_true q182
  have p183 : 0 ≤ ((ji9) : Int):=od
  have q183 : (ji9) < (l0.length : Int):=od
  obtain ⟨ad183,e183,hx183_0⟩:=Kd.at_int HR0.out (ji9) p183 q183
  obtain rfl : ad182 = ad183:=(by injection e183)
  replace hx183_0:=(HB.out.cell (World.block_lt_of_cell? w _ hx183_0)).trans hx183_0
  replace p183:=eq_true p183
  replace q183:=eq_true q183
  have p14 : 0 ≤ (x7_1 : Int):=od
  have q14 : (x7_1 : Int) < ((x4_1.length : Int) : Int):=od
  obtain ⟨go14,co14,eo14,gb14,gl14,cl14,HG14⟩:=R_form HO_4.out (by omega)
  (first|cases eo14|(injection eo14 with ea_ en_ ec_;(first|subst ea_|(injection ea_ with ea_;subst ea_));subst ec_;clear en_))
  have GB14:=Aside0.mk gb14
  have GG14:=Aside0.mk HG14
  clear gb14 gl14 HG14
  obtain ⟨hx14_0,hf14_0⟩:=R_celln 0 HO_4.out (x7_1 : Int) p14 q14
  replace p14:=eq_true p14
  replace q14:=eq_true q14
  have HP17:=R_putg HO_4.out (x7_1 : Int) 0
  go_wp2_with (first|((with_reducible refine gate_store (t:=3) (p:=36) rfl ?_);refine store_event (t:=3) (p:=36) (v:=?vo_w18) (w1:=(wr.setCell ⟨go14,(x7_1 : Int).toNat,none⟩ (.int .i64 0))) ?hg ?ho ?hn ?hr ?_;(case ho=>rfl);(case hg=>rfl);(case hn=>rfl);(case hr=>first|(go_simp;done)|(go_simp;rfl));intro w18 hw;have hg : wr.grownBy w18 (some go14):=(by rw [hw];exact HP17.2);have hp_ : Kd.R (Kd.int .i64) 3 w18 w.heap.size (fun _=>True) (.slice (some ⟨go14,0,none⟩) x4_1.length co14) y184:=(by rw [hw,Ny184.out];exact HP17.1);clear HP17;have n0_:=Aside0.mk (hp_);have n1_:=Aside0.mk ((by rw [hw];exact below_set (HB.out) GB14.out : Below w.heap.size w w18));clear HO_4;clear HB;have HO_4:=n0_;have HB:=n1_;clear n0_ n1_;clear hg hw hp_;have p16 : 0 ≤ ((ji9) : Int):=od;have q16 : ((ji9) : Int) < ((x4_1.length : Int) : Int):=od;obtain ⟨hx16_0,hf16_0⟩:=R_celln 0 HO_4.out ((ji9) : Int) p16 q16;replace p16:=eq_true p16;replace q16:=eq_true q16;obtain ⟨hy19_,hz19_⟩:=R_celln 0 HO_4.out ((ji9) : Int) (od) (od);have HP19:=R_putg HO_4.out ((ji9) : Int) 1)|((with_reducible refine gate_store (t:=3) (p:=39) rfl ?_);refine store_event (t:=3) (p:=39) (v:=?vo_w20) (w1:=(w18.setCell ⟨go14,((ji9) : Int).toNat,none⟩ (.int .i64 1))) ?hg ?ho ?hn ?hr ?_;(case ho=>rfl);(case hg=>rfl);(case hn=>rfl);(case hr=>first|(go_simp;done)|(go_simp;rfl));intro w20 hw;have hg : w18.grownBy w20 (some go14):=(by rw [hw];exact HP19.2);have hp_ : Kd.R (Kd.int .i64) 3 w20 w.heap.size (fun _=>True) (.slice (some ⟨go14,0,none⟩) x4_1.length co14) y185:=(by rw [hw,Ny185.out];exact HP19.1);clear HP19;have n0_:=Aside0.mk (hp_);have n1_:=Aside0.mk ((by rw [hw];exact below_set (HB.out) GB14.out : Below w.heap.size w w20));clear HO_4;clear HB;have HO_4:=n0_;have HB:=n1_;clear n0_ n1_;clear hg hw hp_))
  go_roundg k1
  case measure=>have:=HK1.out;omega
  case rel=>exact ⟨(y185),(wrap64 (x5_1 + 1)),(wrap64 (x7_1 + 1)),(by first|rfl|(simp;done)|(simp [*];done)),(by first|rfl|(simp;done)|(simp [*];done)),H',⟨by have:=HK1.out;omega⟩,⟨rm HO_4.out⟩,⟨hm HB.out⟩⟩

/-! ### spec_TurnLane: function 25 -/
def spec_TurnLane.f (k : Nat) (l0 : List Int) : Option (List Int × Int × Bool):=(spec_l8Lane.f k l0).bind fun t186=>(if t186 = true then ((spec_l8Turn.f k l0).bind fun bt187=>(some (bt187.1,bt187.2,true))) else (some ((([] : List Int)),0,false)))
theorem spec_TurnLane.mono : ∀ a0 k,LeO (spec_TurnLane.f k a0) (spec_TurnLane.f (k + 1) a0):=by
 intro a0 k
 unfold spec_TurnLane.f
 repeat' first
   | (with_reducible exact spec_l8Lane.mono _ _)
   | (with_reducible exact spec_l8Turn.mono _ _)
   | (with_reducible exact LeO.refl _)
   | (with_reducible exact LeO.none _)
   | (with_reducible refine LeO.ite ?_ ?_)
   | (with_reducible refine LeO.bind ?_ (fun _=>?_))
   | exact spec_l8Lane.mono _ _
   | exact spec_l8Turn.mono _ _
   | exact LeO.none _
   | refine LeO.ite ?_ ?_
   | refine LeO.bind ?_ (fun _=>?_)
set_option maxHeartbeats 8000000 in
set_option maxRecDepth 100000 in
theorem spec_TurnLane.calls (k : Nat) (A0 : Option Addr) (c0 : Nat) (l0 : List Int) (r1 : List Int) (r2 : Int) (r3 : Bool) (w : World) (hr0 : Kd.C (Kd.int .i64) w A0 l0.length l0) (hc0 : l0.length ≤ c0) (h : spec_TurnLane.f k l0 = some (r1,r2,r3)) :
  Calls Try.prog 25 #[.slice A0 l0.length c0] w fun e w'=>∃ v0_ : Value,e = .returned (.tuple #[v0_,.int .i64 r2,.bool r3]) ∧ Kd.R (Kd.int .i64) 3 w' w.heap.size (fun _=>True) v0_ r1 ∧ Below w.heap.size w w':=by
 have HR0:=Aside0.mk hr0
 have HC0:=Aside0.mk hc0
 clear hr0 hc0
 have HB:=Aside0.mk (Below.refl w.heap.size w)
 have H : ((spec_l8Lane.f k l0).bind fun t186=>(if t186 = true then ((spec_l8Turn.f k l0).bind fun bt187=>(some (bt187.1,bt187.2,true))) else (some ((([] : List Int)),0,false)))) = some (r1,r2,r3):=h
 clear h
 replace H:=Option.bind_eq_some_iff.mp H
 obtain ⟨t186,A20,H⟩:=H
 replace H : (if t186 = true then ((spec_l8Turn.f k l0).bind fun bt187=>(some (bt187.1,bt187.2,true))) else (some ((([] : List Int)),0,false))) = some (r1,r2,r3):=H
 have A2:=Aside0.mk A20
 clear A20
 by_cases c3 : t186 = true
 ·subst c3
  have H1 : ((spec_l8Turn.f k l0).bind fun bt187=>(some (bt187.1,bt187.2,true))) = some (r1,r2,r3):=by rw [if_pos rfl] at H;exact H
  clear H
  have H:=H1
  clear H1
  replace H:=Option.bind_eq_some_iff.mp H
  obtain ⟨⟨t187,t188⟩,A40,H⟩:=H
  replace H : (some (t187,t188,true)) = some (r1,r2,r3):=H
  have A4:=Aside0.mk A40
  clear A40
  simp only [Option.some.injEq,Prod.mk.injEq] at H
  obtain ⟨rfl,rfl,rfl⟩:=H
  go_enter Try.func25,Try.ntmps25
  go_wp2_with (first|((with_reducible refine gate_callee (f:=40) rfl ?_);refine goesL_ (some 8) rfl rfl Try.func40 (by kernel_rfl) rfl #[.slice A0 l0.length c0] rfl (by (try simp only [List.map_toArray,List.map_cons,List.map_nil]);first|done|rfl|(simp only [List.length_drop,List.length_take];rfl)) ?_;(with_reducible refine (spec_l8Lane.calls k _ _ l0 true _ ?side1 ?side2 A2.out).mono ?_);(case side1=>repeat (first|exact HR0.out|(with_reducible refine C_alloc ?_ _)|(with_reducible refine C_drewN ?_ _)|(with_reducible refine C_drew ?_)));(case side2=>exact HC0.out);rintro e w' ⟨rfl,⟨nd,rfl⟩⟩;refine ⟨_,rfl,?_⟩)|((with_reducible refine gate_callee (f:=49) rfl ?_);refine goesL_ (some 13) rfl rfl Try.func49 (by kernel_rfl) rfl #[.slice A0 l0.length c0] rfl (by (try simp only [List.map_toArray,List.map_cons,List.map_nil]);first|done|rfl|(simp only [List.length_drop,List.length_take];rfl)) ?_;(with_reducible refine (spec_l8Turn.calls k _ _ l0 t187 t188 _ ?side1 ?side2 A4.out).mono ?_);(case side1=>repeat (first|exact HR0.out|(with_reducible refine C_alloc ?_ _)|(with_reducible refine C_drewN ?_ _)|(with_reducible refine C_drew ?_)));(case side2=>exact HC0.out);rintro e w5 ⟨v189,rfl,ho0,hb⟩;refine ⟨_,rfl,?_⟩;have n0_:=Aside0.mk (R_lower ho0 (below_size (hm HB.out)));have n1_:=Aside0.mk (below_step (hm HB.out) hb);clear HB;have HO190:=n0_;have HB:=n1_;clear n0_ n1_;(try clear hb);(try clear hb2);(try clear hk);(try clear hi);(try clear ho0)))
  go_ret3
  exact ⟨_,by first|rfl|(simp [errW_none,errW_some] <;> rfl)|(simp [*,errW_none,errW_some] <;> rfl),rm HO190.out,hm HB.out⟩
 replace c3:=Bool.eq_false_iff.mpr c3
 subst c3
 have H1 : (some ((([] : List Int)),0,false)) = some (r1,r2,r3):=by rw [if_neg (show ¬ (false = true) by decide)] at H;exact H
 clear H
 have H:=H1
 clear H1
 obtain ⟨y191,hy191⟩ : ∃ y_ : List Int,y_ = (([] : List Int)):=⟨_,rfl⟩
 replace H : (some (y191,0,false)) = some (r1,r2,r3):=by first|(rw [hy191];with_reducible exact H)|(have H2_:=(Option.bind_some _ _).symm.trans H;rw [hy191];with_reducible exact H2_)|(have H2_:=(Option.bind_some _ _).symm.trans H;with_reducible exact H2_)|with_reducible exact H|(rw [hy191];exact H)|exact H
 have Ny191:=Aside0.mk hy191
 clear hy191
 simp only [Option.some.injEq,Prod.mk.injEq] at H
 obtain ⟨rfl,rfl,rfl⟩:=H
 go_enter Try.func25,Try.ntmps25
 go_wp2_with (first|((with_reducible refine gate_callee (f:=40) rfl ?_);refine goesL_ (some 8) rfl rfl Try.func40 (by kernel_rfl) rfl #[.slice A0 l0.length c0] rfl (by (try simp only [List.map_toArray,List.map_cons,List.map_nil]);first|done|rfl|(simp only [List.length_drop,List.length_take];rfl)) ?_;(with_reducible refine (spec_l8Lane.calls k _ _ l0 false _ ?side1 ?side2 A2.out).mono ?_);(case side1=>repeat (first|exact HR0.out|(with_reducible refine C_alloc ?_ _)|(with_reducible refine C_drewN ?_ _)|(with_reducible refine C_drew ?_)));(case side2=>exact HC0.out);rintro e w' ⟨rfl,⟨nd,rfl⟩⟩;refine ⟨_,rfl,?_⟩)|((with_reducible refine gate_dst (N:=10) rfl ?_);refine R_lit (Kd.int .i64) _ 3 ?hg (N:=10) ?hd (xs:=([] : List Int)) (inner:=[]) (ok:=fun _=>True) (okp:=fun _=>True) ?hr ?hp (fun _ hk=>hk) trivial (Below.refl _ _) (Nat.le_refl _) (by simp) ?_;(case hd=>rfl);(case hg=>rfl);(case hr=>first|(go_simp;done)|(go_simp;rfl));(case hp=>exact (Reps.none _ _));intro v192 w6 ho7 hb hg_ hnew_;clear hg_ hnew_;(first|rw [← Ny191.out] at ho7|(simp only [Int.reduceToNat] at ho7;rw [← Ny191.out] at ho7));have n0_:=Aside0.mk (R_lower ho7 (below_size (hm HB.out)));have n1_:=Aside0.mk (below_step (hm HB.out) hb);clear HB;have HO193:=n0_;have HB:=n1_;clear n0_ n1_;clear hb ho7))
 go_ret3
 exact ⟨_,by first|rfl|(simp [errW_none,errW_some] <;> rfl)|(simp [*,errW_none,errW_some] <;> rfl),rm HO193.out,hm HB.out⟩

/-! ### impl_TurnLane: function 26 -/
def impl_TurnLane.f (k : Nat) (l0 : List Int) : Option (List Int × Int × Bool):=(impl_IsLane.f k l0).bind fun t194=>(if t194 = true then ((impl_turn.f k l0).bind fun bt195=>(some (bt195.1,bt195.2.2,true))) else (some (([] : List Int),0,false)))
theorem impl_TurnLane.mono : ∀ a0 k,LeO (impl_TurnLane.f k a0) (impl_TurnLane.f (k + 1) a0):=by
 intro a0 k
 unfold impl_TurnLane.f
 repeat' first
   | (with_reducible exact impl_IsLane.mono _ _)
   | (with_reducible exact impl_turn.mono _ _)
   | (with_reducible exact LeO.refl _)
   | (with_reducible exact LeO.none _)
   | (with_reducible refine LeO.ite ?_ ?_)
   | (with_reducible refine LeO.bind ?_ (fun _=>?_))
   | exact impl_IsLane.mono _ _
   | exact impl_turn.mono _ _
   | exact LeO.none _
   | refine LeO.ite ?_ ?_
   | refine LeO.bind ?_ (fun _=>?_)
set_option maxHeartbeats 8000000 in
set_option maxRecDepth 100000 in
theorem impl_TurnLane.calls (k : Nat) (A0 : Option Addr) (c0 : Nat) (l0 : List Int) (r1 : List Int) (r2 : Int) (r3 : Bool) (w : World) (hr0 : Kd.C (Kd.int .i64) w A0 l0.length l0) (hc0 : l0.length ≤ c0) (h : impl_TurnLane.f k l0 = some (r1,r2,r3)) :
  Calls Try.prog 26 #[.slice A0 l0.length c0] w fun e w'=>∃ v0_ : Value,e = .returned (.tuple #[v0_,.int .i64 r2,.bool r3]) ∧ Kd.R (Kd.int .i64) 3 w' w.heap.size (fun _=>True) v0_ r1 ∧ Below w.heap.size w w':=by
 have HR0:=Aside0.mk hr0
 have HC0:=Aside0.mk hc0
 clear hr0 hc0
 have HB:=Aside0.mk (Below.refl w.heap.size w)
 have H : ((impl_IsLane.f k l0).bind fun t194=>(if t194 = true then ((impl_turn.f k l0).bind fun bt195=>(some (bt195.1,bt195.2.2,true))) else (some (([] : List Int),0,false)))) = some (r1,r2,r3):=h
 clear h
 replace H:=Option.bind_eq_some_iff.mp H
 obtain ⟨t194,A20,H⟩:=H
 replace H : (if t194 = true then ((impl_turn.f k l0).bind fun bt195=>(some (bt195.1,bt195.2.2,true))) else (some (([] : List Int),0,false))) = some (r1,r2,r3):=H
 have A2:=Aside0.mk A20
 clear A20
 by_cases c3 : t194 = true
 rotate_left
 ·replace c3:=Bool.eq_false_iff.mpr c3
  subst c3
  have H1 : (some (([] : List Int),0,false)) = some (r1,r2,r3):=by rw [if_neg (show ¬ (false = true) by decide)] at H;exact H
  clear H
  have H:=H1
  clear H1
  simp only [Option.some.injEq,Prod.mk.injEq] at H
  obtain ⟨rfl,rfl,rfl⟩:=H
  go_enter Try.func26,Try.ntmps26
  go_wp2_with (first|((with_reducible refine gate_callee (f:=15) rfl ?_);refine goesL_ (some 9) rfl rfl Try.func15 (by kernel_rfl) rfl #[.slice A0 l0.length c0] rfl (by (try simp only [List.map_toArray,List.map_cons,List.map_nil]);first|done|rfl|(simp only [List.length_drop,List.length_take];rfl)) ?_;(with_reducible refine (impl_IsLane.calls k _ _ l0 false _ ?side1 ?side2 A2.out).mono ?_);(case side1=>repeat (first|exact HR0.out|(with_reducible refine C_alloc ?_ _)|(with_reducible refine C_drewN ?_ _)|(with_reducible refine C_drew ?_)));(case side2=>exact HC0.out);rintro e w' ⟨rfl,⟨nd,rfl⟩⟩;refine ⟨_,rfl,?_⟩))
  go_ret3
  exact ⟨_,by first|rfl|(simp [errW_none,errW_some] <;> rfl)|(simp [*,errW_none,errW_some] <;> rfl),by first|exact R_nil _ _ _ _ _|exact Kd.N_nil _ _ _ _ _|exact Kd.V_nil _ _ _ _ _|exact Kd.Q_nil _ _ _ _ _|exact Kd.S_nil _ _ _ _ _,hm HB.out⟩
 subst c3
 have H1 : ((impl_turn.f k l0).bind fun bt195=>(some (bt195.1,bt195.2.2,true))) = some (r1,r2,r3):=by rw [if_pos rfl] at H;exact H
 clear H
 have H:=H1
 clear H1
 replace H:=Option.bind_eq_some_iff.mp H
 obtain ⟨⟨t195,t196,t197⟩,A40,H⟩:=H
 replace H : (some (t195,t197,true)) = some (r1,r2,r3):=H
 have A4:=Aside0.mk A40
 clear A40
 simp only [Option.some.injEq,Prod.mk.injEq] at H
 obtain ⟨rfl,rfl,rfl⟩:=H
 go_enter Try.func26,Try.ntmps26
 go_wp2_with (first|((with_reducible refine gate_callee (f:=15) rfl ?_);refine goesL_ (some 9) rfl rfl Try.func15 (by kernel_rfl) rfl #[.slice A0 l0.length c0] rfl (by (try simp only [List.map_toArray,List.map_cons,List.map_nil]);first|done|rfl|(simp only [List.length_drop,List.length_take];rfl)) ?_;(with_reducible refine (impl_IsLane.calls k _ _ l0 true _ ?side1 ?side2 A2.out).mono ?_);(case side1=>repeat (first|exact HR0.out|(with_reducible refine C_alloc ?_ _)|(with_reducible refine C_drewN ?_ _)|(with_reducible refine C_drew ?_)));(case side2=>exact HC0.out);rintro e w' ⟨rfl,⟨nd,rfl⟩⟩;refine ⟨_,rfl,?_⟩)|((with_reducible refine gate_callee (f:=48) rfl ?_);refine goesL_ (some 13) rfl rfl Try.func48 (by kernel_rfl) rfl #[.slice A0 l0.length c0] rfl (by (try simp only [List.map_toArray,List.map_cons,List.map_nil]);first|done|rfl|(simp only [List.length_drop,List.length_take];rfl)) ?_;(with_reducible refine (impl_turn.calls k _ _ l0 t195 t196 t197 _ ?side1 ?side2 A4.out).mono ?_);(case side1=>repeat (first|exact HR0.out|(with_reducible refine C_alloc ?_ _)|(with_reducible refine C_drewN ?_ _)|(with_reducible refine C_drew ?_)));(case side2=>exact HC0.out);rintro e w5 ⟨v198,v200,rfl,ho0,ho1,hb⟩;refine ⟨_,rfl,?_⟩;have n0_:=Aside0.mk (R_lower ho0 (below_size (hm HB.out)));have n1_:=Aside0.mk (R_lower ho1 (below_size (hm HB.out)));have n2_:=Aside0.mk (below_step (hm HB.out) hb);clear HB;have HO199:=n0_;have HO201:=n1_;have HB:=n2_;clear n0_ n1_ n2_;(try clear hb);(try clear hb2);(try clear hk);(try clear hi);(try clear ho0);(try clear ho1)))
 go_ret3
 exact ⟨_,by first|rfl|(simp [errW_none,errW_some] <;> rfl)|(simp [*,errW_none,errW_some] <;> rfl),rm (R_mono HO199.out (fun _ hk=>trivial)),hm HB.out⟩

/-! ### spec_l8Turns: function 50 -/
def spec_l8Turns.f (k : Nat) (l0 : List Int) (a1 : Int) : Option (Bool):=(spec_l8Lane.f k l0).bind fun t202=>(if t202 = true then ((spec_l1In.f a1 0 60).bind fun t203=>(some t203)) else (some false))
theorem spec_l8Turns.mono : ∀ a0 a1 k,LeO (spec_l8Turns.f k a0 a1) (spec_l8Turns.f (k + 1) a0 a1):=by
 intro a0 a1 k
 unfold spec_l8Turns.f
 repeat' first
   | (with_reducible exact spec_l8Lane.mono _ _)
   | (with_reducible exact LeO.refl _)
   | (with_reducible exact LeO.none _)
   | (with_reducible refine LeO.ite ?_ ?_)
   | (with_reducible refine LeO.bind ?_ (fun _=>?_))
   | exact spec_l8Lane.mono _ _
   | exact LeO.none _
   | refine LeO.ite ?_ ?_
   | refine LeO.bind ?_ (fun _=>?_)
set_option maxHeartbeats 8000000 in
set_option maxRecDepth 100000 in
theorem spec_l8Turns.calls (k : Nat) (A0 : Option Addr) (c0 : Nat) (l0 : List Int) (a1 : Int) (r : Bool) (w : World) (hr0 : Kd.C (Kd.int .i64) w A0 l0.length l0) (hc0 : l0.length ≤ c0) (h : spec_l8Turns.f k l0 a1 = some r) :
  Calls Try.prog 50 #[.slice A0 l0.length c0,.int .i64 a1] w fun e w'=>e = .returned (.bool r) ∧ Drawn0 w w':=by
 have HR0:=Aside0.mk hr0
 have HC0:=Aside0.mk hc0
 clear hr0 hc0
 have H : ((spec_l8Lane.f k l0).bind fun t202=>(if t202 = true then ((spec_l1In.f a1 0 60).bind fun t203=>(some t203)) else (some false))) = some r:=h
 clear h
 replace H:=Option.bind_eq_some_iff.mp H
 obtain ⟨t202,A30,H⟩:=H
 replace H : (if t202 = true then ((spec_l1In.f a1 0 60).bind fun t203=>(some t203)) else (some false)) = some r:=H
 have A3:=Aside0.mk A30
 clear A30
 by_cases c4 : t202 = true
 rotate_left
 ·replace c4:=Bool.eq_false_iff.mpr c4
  subst c4
  have H1 : (some false) = some r:=by rw [if_neg (show ¬ (false = true) by decide)] at H;exact H
  clear H
  have H:=H1
  clear H1
  obtain rfl:=Option.some.inj H
  go_enter Try.func50,Try.ntmps50
  go_wp2_with (first|((with_reducible refine gate_callee (f:=40) rfl ?_);refine goesL_ (some 6) rfl rfl Try.func40 (by kernel_rfl) rfl #[.slice A0 l0.length c0] rfl (by (try simp only [List.map_toArray,List.map_cons,List.map_nil]);first|done|rfl|(simp only [List.length_drop,List.length_take];rfl)) ?_;(with_reducible refine (spec_l8Lane.calls k _ _ l0 false _ ?side1 ?side2 A3.out).mono ?_);(case side1=>repeat (first|exact HR0.out|(with_reducible refine C_alloc ?_ _)|(with_reducible refine C_drewN ?_ _)|(with_reducible refine C_drew ?_)));(case side2=>exact HC0.out);rintro e w' ⟨rfl,⟨nd,rfl⟩⟩;refine ⟨_,rfl,?_⟩))
  go_ret
  exact ⟨by first|rfl|(simp;done)|(simp [*];done),by repeat (first|exact Drawn0.refl _|apply Drawn0.step)⟩
 subst c4
 have H1 : ((spec_l1In.f a1 0 60).bind fun t203=>(some t203)) = some r:=by rw [if_pos rfl] at H;exact H
 clear H
 have H:=H1
 clear H1
 replace H:=Option.bind_eq_some_iff.mp H
 obtain ⟨t203,A50,H⟩:=H
 replace H : (some t203) = some r:=H
 have A5:=Aside0.mk A50
 clear A50
 obtain rfl:=Option.some.inj H
 go_enter Try.func50,Try.ntmps50
 go_wp2_with (first|((with_reducible refine gate_callee (f:=40) rfl ?_);refine goesL_ (some 6) rfl rfl Try.func40 (by kernel_rfl) rfl #[.slice A0 l0.length c0] rfl (by (try simp only [List.map_toArray,List.map_cons,List.map_nil]);first|done|rfl|(simp only [List.length_drop,List.length_take];rfl)) ?_;(with_reducible refine (spec_l8Lane.calls k _ _ l0 true _ ?side1 ?side2 A3.out).mono ?_);(case side1=>repeat (first|exact HR0.out|(with_reducible refine C_alloc ?_ _)|(with_reducible refine C_drewN ?_ _)|(with_reducible refine C_drew ?_)));(case side2=>exact HC0.out);rintro e w' ⟨rfl,⟨nd,rfl⟩⟩;refine ⟨_,rfl,?_⟩)|(go_at_call 58;(with_reducible refine (spec_l1In.calls a1 0 60 t203 _ A5.out).mono ?_);rintro e w' ⟨rfl,⟨nd,rfl⟩⟩))
 go_ret
 exact ⟨by first|rfl|(simp;done)|(simp [*];done),by repeat (first|exact Drawn0.refl _|apply Drawn0.step)⟩

/-! ### spec_LaneAfter: function 27 -/
def spec_LaneAfter.l0 : Nat → Int → List Int → Int → Option (List Int × Bool)
 | 0,_,_,_=>none
 | k + 1,x1,x6,x7=>if x7 < x1 then ((spec_l8Turn.f k x6).bind fun bt211=>(spec_LaneAfter.l0 k x1 bt211.1 (wrap64 (x7 + 1)))) else (some (x6,true))
def spec_LaneAfter.f (k : Nat) (l0 : List Int) (a1 : Int) : Option (List Int × Bool):=(spec_l8Turns.f k l0 a1).bind fun t204=>(if t204 = true then ((spec_l1Own.f l0).bind fun t208=>(spec_LaneAfter.l0 k a1 t208 0)) else (some ((([] : List Int)),false)))
theorem spec_LaneAfter.mono_l : ∀ k,(∀ y0 y1 y2,LeO (spec_LaneAfter.l0 k y0 y1 y2) (spec_LaneAfter.l0 (k + 1) y0 y1 y2))
 | 0=>fun _ _ _ r h=>by simp [spec_LaneAfter.l0] at h
 | k + 1=>by
  have ih0:=spec_LaneAfter.mono_l k
  ·intro y0 y1 y2
   unfold spec_LaneAfter.l0
   repeat' first
   | (with_reducible exact ih0 _ _ _)
   | (with_reducible exact spec_l8Turn.mono _ _)
   | (with_reducible exact spec_l8Turns.mono _ _ _)
   | (with_reducible exact LeO.refl _)
   | (with_reducible exact LeO.none _)
   | (with_reducible refine LeO.ite ?_ ?_)
   | (with_reducible refine LeO.bind ?_ (fun _=>?_))
   | exact ih0 _ _ _
   | exact spec_l8Turn.mono _ _
   | exact spec_l8Turns.mono _ _ _
   | exact LeO.none _
   | refine LeO.ite ?_ ?_
   | refine LeO.bind ?_ (fun _=>?_)
theorem spec_LaneAfter.mono : ∀ a0 a1 k,LeO (spec_LaneAfter.f k a0 a1) (spec_LaneAfter.f (k + 1) a0 a1):=by
 intro a0 a1 k
 have ih0:=spec_LaneAfter.mono_l k
 unfold spec_LaneAfter.f
 repeat' first
   | (with_reducible exact ih0 _ _ _)
   | (with_reducible exact spec_l8Turn.mono _ _)
   | (with_reducible exact spec_l8Turns.mono _ _ _)
   | (with_reducible exact LeO.refl _)
   | (with_reducible exact LeO.none _)
   | (with_reducible refine LeO.ite ?_ ?_)
   | (with_reducible refine LeO.bind ?_ (fun _=>?_))
   | exact ih0 _ _ _
   | exact spec_l8Turn.mono _ _
   | exact spec_l8Turns.mono _ _ _
   | exact LeO.none _
   | refine LeO.ite ?_ ?_
   | refine LeO.bind ?_ (fun _=>?_)
set_option maxHeartbeats 8000000 in
set_option maxRecDepth 100000 in
theorem spec_LaneAfter.calls (k : Nat) (A0 : Option Addr) (c0 : Nat) (l0 : List Int) (a1 : Int) (r1 : List Int) (r2 : Bool) (w : World) (hr0 : Kd.C (Kd.int .i64) w A0 l0.length l0) (hc0 : l0.length ≤ c0) (h : spec_LaneAfter.f k l0 a1 = some (r1,r2)) :
  Calls Try.prog 27 #[.slice A0 l0.length c0,.int .i64 a1] w fun e w'=>∃ v0_ : Value,e = .returned (.tuple #[v0_,.bool r2]) ∧ Kd.R (Kd.int .i64) 3 w' w.heap.size (fun _=>True) v0_ r1 ∧ Below w.heap.size w w':=by
 have HR0:=Aside0.mk hr0
 have HC0:=Aside0.mk hc0
 clear hr0 hc0
 have HB:=Aside0.mk (Below.refl w.heap.size w)
 have H : ((spec_l8Turns.f k l0 a1).bind fun t204=>(if t204 = true then ((spec_l1Own.f l0).bind fun t208=>(spec_LaneAfter.l0 k a1 t208 0)) else (some ((([] : List Int)),false)))) = some (r1,r2):=h
 clear h
 replace H:=Option.bind_eq_some_iff.mp H
 obtain ⟨t204,A30,H⟩:=H
 replace H : (if t204 = true then ((spec_l1Own.f l0).bind fun t208=>(spec_LaneAfter.l0 k a1 t208 0)) else (some ((([] : List Int)),false))) = some (r1,r2):=H
 have A3:=Aside0.mk A30
 clear A30
 by_cases c4 : t204 = true
 rotate_left
 ·replace c4:=Bool.eq_false_iff.mpr c4
  subst c4
  have H1 : (some ((([] : List Int)),false)) = some (r1,r2):=by rw [if_neg (show ¬ (false = true) by decide)] at H;exact H
  clear H
  have H:=H1
  clear H1
  obtain ⟨y205,hy205⟩ : ∃ y_ : List Int,y_ = (([] : List Int)):=⟨_,rfl⟩
  replace H : (some (y205,false)) = some (r1,r2):=by first|(rw [hy205];with_reducible exact H)|(have H2_:=(Option.bind_some _ _).symm.trans H;rw [hy205];with_reducible exact H2_)|(have H2_:=(Option.bind_some _ _).symm.trans H;with_reducible exact H2_)|with_reducible exact H|(rw [hy205];exact H)|exact H
  have Ny205:=Aside0.mk hy205
  clear hy205
  simp only [Option.some.injEq,Prod.mk.injEq] at H
  obtain ⟨rfl,rfl⟩:=H
  go_enter Try.func27,Try.ntmps27
  go_wp2_with (first|((with_reducible refine gate_callee (f:=50) rfl ?_);refine goesL_ (some 10) rfl rfl Try.func50 (by kernel_rfl) rfl #[.slice A0 l0.length c0,.int .i64 a1] rfl (by (try simp only [List.map_toArray,List.map_cons,List.map_nil]);first|done|rfl|(simp only [List.length_drop,List.length_take];rfl)) ?_;(with_reducible refine (spec_l8Turns.calls k _ _ l0 a1 false _ ?side1 ?side2 A3.out).mono ?_);(case side1=>repeat (first|exact HR0.out|(with_reducible refine C_alloc ?_ _)|(with_reducible refine C_drewN ?_ _)|(with_reducible refine C_drew ?_)));(case side2=>exact HC0.out);rintro e w' ⟨rfl,⟨nd,rfl⟩⟩;refine ⟨_,rfl,?_⟩)|((with_reducible refine gate_dst (N:=12) rfl ?_);refine R_lit (Kd.int .i64) _ 3 ?hg (N:=12) ?hd (xs:=([] : List Int)) (inner:=[]) (ok:=fun _=>True) (okp:=fun _=>True) ?hr ?hp (fun _ hk=>hk) trivial (Below.refl _ _) (Nat.le_refl _) (by simp) ?_;(case hd=>rfl);(case hg=>rfl);(case hr=>first|(go_simp;done)|(go_simp;rfl));(case hp=>exact (Reps.none _ _));intro v206 w11 ho12 hb hg_ hnew_;clear hg_ hnew_;(first|rw [← Ny205.out] at ho12|(simp only [Int.reduceToNat] at ho12;rw [← Ny205.out] at ho12));have n0_:=Aside0.mk (R_lower ho12 (below_size (hm HB.out)));have n1_:=Aside0.mk (below_step (hm HB.out) hb);clear HB;have HO207:=n0_;have HB:=n1_;clear n0_ n1_;clear hb ho12))
  go_ret2
  exact ⟨_,by first|rfl|(simp [errW_none,errW_some] <;> rfl)|(simp [*,errW_none,errW_some] <;> rfl),rm HO207.out,hm HB.out⟩
 subst c4
 have H1 : ((spec_l1Own.f l0).bind fun t208=>(spec_LaneAfter.l0 k a1 t208 0)) = some (r1,r2):=by rw [if_pos rfl] at H;exact H
 clear H
 have H:=H1
 clear H1
 replace H:=Option.bind_eq_some_iff.mp H
 obtain ⟨t208,A50,H⟩:=H
 replace H : (spec_LaneAfter.l0 k a1 t208 0) = some (r1,r2):=H
 have A5:=Aside0.mk A50
 clear A50
 have H':=Aside0.mk H
 clear H
 go_enter Try.func27,Try.ntmps27
 go_wp2_with (first|((with_reducible refine gate_callee (f:=50) rfl ?_);refine goesL_ (some 10) rfl rfl Try.func50 (by kernel_rfl) rfl #[.slice A0 l0.length c0,.int .i64 a1] rfl (by (try simp only [List.map_toArray,List.map_cons,List.map_nil]);first|done|rfl|(simp only [List.length_drop,List.length_take];rfl)) ?_;(with_reducible refine (spec_l8Turns.calls k _ _ l0 a1 true _ ?side1 ?side2 A3.out).mono ?_);(case side1=>repeat (first|exact HR0.out|(with_reducible refine C_alloc ?_ _)|(with_reducible refine C_drewN ?_ _)|(with_reducible refine C_drew ?_)));(case side2=>exact HC0.out);rintro e w' ⟨rfl,⟨nd,rfl⟩⟩;refine ⟨_,rfl,?_⟩)|((with_reducible refine gate_callee (f:=51) rfl ?_);refine goesL_ (some 14) rfl rfl Try.func51 (by kernel_rfl) rfl #[.slice A0 l0.length c0] rfl (by (try simp only [List.map_toArray,List.map_cons,List.map_nil]);first|done|rfl|(simp only [List.length_drop,List.length_take];rfl)) ?_;(with_reducible refine (spec_l1Own.calls _ _ l0 t208 _ ?side1 ?side2 A5.out).mono ?_);(case side1=>repeat (first|exact HR0.out|(with_reducible refine C_alloc ?_ _)|(with_reducible refine C_drewN ?_ _)|(with_reducible refine C_drew ?_)));(case side2=>exact HC0.out);rintro e w6 ⟨v209,rfl,ho0,hb⟩;refine ⟨_,rfl,?_⟩;have n0_:=Aside0.mk (R_lower ho0 (below_size (hm HB.out)));have n1_:=Aside0.mk (below_step (hm HB.out) hb);clear HB;have HO210:=n0_;have HB:=n1_;clear n0_ n1_;(try clear hb);(try clear hb2);(try clear hk);(try clear hi);(try clear ho0)))
 go_loopg [6,7] k (fun kq v6 v7 w'=>∃ (x6_1 : List Int) (x7_1 : Int),v7 = .int .i64 x7_1 ∧ Aside0 (spec_LaneAfter.l0 kq a1 x6_1 x7_1 = some (r1,r2)) ∧ Aside0 (kq ≤ k) ∧ Aside0 (Kd.R (Kd.int .i64) 3 w' w.heap.size (fun _=>True) v6 x6_1) ∧ Aside0 (Below w.heap.size w w'))
 case atStart=>exact ⟨(t208),(0),(by first|rfl|(simp;done)|(simp [*];done)),H',⟨Nat.le_refl _⟩,⟨rm HO210.out⟩,⟨hm HB.out⟩⟩
 clear H'
 try clear c2
 try clear p2
 try clear c4
 try clear c5
 obtain ⟨x6_1,x7_1,rfl,HA,HK1,HO_6,HB⟩:=hrel
 cases gk with
 | zero=>exact absurd HA.out (by simp [spec_LaneAfter.l0])
 | succ k1 =>
  have H:=HA.out
  clear HA
  simp only [spec_LaneAfter.l0] at H
  by_cases c7 : x7_1 < a1
  rotate_left
  ·rw [if_neg c7] at H
   have c7b0 : decide (x7_1 < a1) = false:=decide_eq_false c7
   clear c7
   simp only [Option.some.injEq,Prod.mk.injEq] at H
   obtain ⟨rfl,rfl⟩:=H
   go_wp2
   go_ret2
   exact ⟨_,by first|rfl|(simp [errW_none,errW_some] <;> rfl)|(simp [*,errW_none,errW_some] <;> rfl),rm HO_6.out,hm HB.out⟩
  rw [if_pos c7] at H
  have c7b0 : decide (x7_1 < a1) = true:=decide_eq_true c7
  clear c7
  replace H:=Option.bind_eq_some_iff.mp H
  obtain ⟨⟨t211,t212⟩,A80,H⟩:=H
  replace H : (spec_LaneAfter.l0 k1 a1 t211 (wrap64 (x7_1 + 1))) = some (r1,r2):=H
  have A8:=Aside0.mk A80
  clear A80
  have H':=Aside0.mk H
  clear H
  obtain ⟨Ao9,co9,eo9⟩:=R_slice HO_6.out
  subst eo9
  go_wp2_with (first|((with_reducible refine gate_callee (f:=49) rfl ?_);refine goesL_ (some 22) rfl rfl Try.func49 (by kernel_rfl) rfl #[.slice Ao9 x6_1.length co9] rfl (by (try simp only [List.map_toArray,List.map_cons,List.map_nil]);first|done|rfl|(simp only [List.length_drop,List.length_take];rfl)) ?_;(with_reducible refine (spec_l8Turn.calls k1 _ _ x6_1 t211 t212 _ ?side1 ?side2 A8.out).mono ?_);(case side1=>exact cm (R_reads' HO_6.out).2.2);(case side2=>exact (R_reads' HO_6.out).2.1);rintro e w10 ⟨v213,rfl,ho0,hb⟩;refine ⟨_,rfl,?_⟩;have n0_:=Aside0.mk (R_elder' (rm HO_6.out) (R_base ho0) hb);have n1_:=Aside0.mk (R_lower (R_new' ho0 (R_lt (rm HO_6.out))) (below_size (hm HB.out)));have n2_:=Aside0.mk (below_step (hm HB.out) hb);clear HO_6;clear HB;have HO_6:=n0_;have HO214:=n1_;have HB:=n2_;clear n0_ n1_ n2_;(try clear hb);(try clear hb2);(try clear hk);(try clear hi);(try clear ho0)))
  go_roundg k1
  case measure=>have:=HK1.out;omega
  case rel=>exact ⟨(t211),(wrap64 (x7_1 + 1)),(by first|rfl|(simp;done)|(simp [*];done)),H',⟨by have:=HK1.out;omega⟩,⟨rm (R_mono HO214.out (fun _ hk=>trivial))⟩,⟨hm HB.out⟩⟩

/-! ### impl_isTurns: function 52 -/
def impl_isTurns.f (k : Nat) (l0 : List Int) (a1 : Int) : Option (Bool):=(impl_IsLane.f k l0).bind fun t215=>(if t215 = true then ((impl_within.f a1 0 60).bind fun t216=>(some t216)) else (some false))
theorem impl_isTurns.mono : ∀ a0 a1 k,LeO (impl_isTurns.f k a0 a1) (impl_isTurns.f (k + 1) a0 a1):=by
 intro a0 a1 k
 unfold impl_isTurns.f
 repeat' first
   | (with_reducible exact impl_IsLane.mono _ _)
   | (with_reducible exact LeO.refl _)
   | (with_reducible exact LeO.none _)
   | (with_reducible refine LeO.ite ?_ ?_)
   | (with_reducible refine LeO.bind ?_ (fun _=>?_))
   | exact impl_IsLane.mono _ _
   | exact LeO.none _
   | refine LeO.ite ?_ ?_
   | refine LeO.bind ?_ (fun _=>?_)
set_option maxHeartbeats 8000000 in
set_option maxRecDepth 100000 in
theorem impl_isTurns.calls (k : Nat) (A0 : Option Addr) (c0 : Nat) (l0 : List Int) (a1 : Int) (r : Bool) (w : World) (hr0 : Kd.C (Kd.int .i64) w A0 l0.length l0) (hc0 : l0.length ≤ c0) (h : impl_isTurns.f k l0 a1 = some r) :
  Calls Try.prog 52 #[.slice A0 l0.length c0,.int .i64 a1] w fun e w'=>e = .returned (.bool r) ∧ Drawn0 w w':=by
 have HR0:=Aside0.mk hr0
 have HC0:=Aside0.mk hc0
 clear hr0 hc0
 have H : ((impl_IsLane.f k l0).bind fun t215=>(if t215 = true then ((impl_within.f a1 0 60).bind fun t216=>(some t216)) else (some false))) = some r:=h
 clear h
 replace H:=Option.bind_eq_some_iff.mp H
 obtain ⟨t215,A30,H⟩:=H
 replace H : (if t215 = true then ((impl_within.f a1 0 60).bind fun t216=>(some t216)) else (some false)) = some r:=H
 have A3:=Aside0.mk A30
 clear A30
 by_cases c4 : t215 = true
 rotate_left
 ·replace c4:=Bool.eq_false_iff.mpr c4
  subst c4
  have H1 : (some false) = some r:=by rw [if_neg (show ¬ (false = true) by decide)] at H;exact H
  clear H
  have H:=H1
  clear H1
  obtain rfl:=Option.some.inj H
  go_enter Try.func52,Try.ntmps52
  go_wp2_with (first|((with_reducible refine gate_callee (f:=15) rfl ?_);refine goesL_ (some 6) rfl rfl Try.func15 (by kernel_rfl) rfl #[.slice A0 l0.length c0] rfl (by (try simp only [List.map_toArray,List.map_cons,List.map_nil]);first|done|rfl|(simp only [List.length_drop,List.length_take];rfl)) ?_;(with_reducible refine (impl_IsLane.calls k _ _ l0 false _ ?side1 ?side2 A3.out).mono ?_);(case side1=>repeat (first|exact HR0.out|(with_reducible refine C_alloc ?_ _)|(with_reducible refine C_drewN ?_ _)|(with_reducible refine C_drew ?_)));(case side2=>exact HC0.out);rintro e w' ⟨rfl,⟨nd,rfl⟩⟩;refine ⟨_,rfl,?_⟩))
  go_ret
  exact ⟨by first|rfl|(simp;done)|(simp [*];done),by repeat (first|exact Drawn0.refl _|apply Drawn0.step)⟩
 subst c4
 have H1 : ((impl_within.f a1 0 60).bind fun t216=>(some t216)) = some r:=by rw [if_pos rfl] at H;exact H
 clear H
 have H:=H1
 clear H1
 replace H:=Option.bind_eq_some_iff.mp H
 obtain ⟨t216,A50,H⟩:=H
 replace H : (some t216) = some r:=H
 have A5:=Aside0.mk A50
 clear A50
 obtain rfl:=Option.some.inj H
 go_enter Try.func52,Try.ntmps52
 go_wp2_with (first|((with_reducible refine gate_callee (f:=15) rfl ?_);refine goesL_ (some 6) rfl rfl Try.func15 (by kernel_rfl) rfl #[.slice A0 l0.length c0] rfl (by (try simp only [List.map_toArray,List.map_cons,List.map_nil]);first|done|rfl|(simp only [List.length_drop,List.length_take];rfl)) ?_;(with_reducible refine (impl_IsLane.calls k _ _ l0 true _ ?side1 ?side2 A3.out).mono ?_);(case side1=>repeat (first|exact HR0.out|(with_reducible refine C_alloc ?_ _)|(with_reducible refine C_drewN ?_ _)|(with_reducible refine C_drew ?_)));(case side2=>exact HC0.out);rintro e w' ⟨rfl,⟨nd,rfl⟩⟩;refine ⟨_,rfl,?_⟩)|(go_at_call 41;(with_reducible refine (impl_within.calls a1 0 60 t216 _ A5.out).mono ?_);rintro e w' ⟨rfl,⟨nd,rfl⟩⟩))
 go_ret
 exact ⟨by first|rfl|(simp;done)|(simp [*];done),by repeat (first|exact Drawn0.refl _|apply Drawn0.step)⟩

/-! ### impl_copied: function 53 -/
def impl_copied.f (l0 : List Int) : Option (List Int):=(some (([] : List Int) : List Int)).bind fun y217=>(if y217.length + l0.length < 17592186044416 then (some (y217 ++ l0)) else (none))
set_option maxHeartbeats 8000000 in
set_option maxRecDepth 100000 in
theorem impl_copied.calls (A0 : Option Addr) (c0 : Nat) (l0 : List Int) (r : List Int) (w : World) (hr0 : Kd.C (Kd.int .i64) w A0 l0.length l0) (hc0 : l0.length ≤ c0) (h : impl_copied.f l0 = some r) :
  Calls Try.prog 53 #[.slice A0 l0.length c0] w fun e w'=>∃ v0_ : Value,e = .returned (v0_) ∧ Kd.R (Kd.int .i64) 3 w' w.heap.size (fun _=>True) v0_ r ∧ Below w.heap.size w w':=by
 have HR0:=Aside0.mk hr0
 have HC0:=Aside0.mk hc0
 clear hr0 hc0
 have HB:=Aside0.mk (Below.refl w.heap.size w)
 have H : ((some (([] : List Int) : List Int)).bind fun y217=>(if y217.length + l0.length < 17592186044416 then (some (y217 ++ l0)) else (none))) = some r:=h
 clear h
 obtain ⟨y217,hy217⟩ : ∃ y_ : List Int,y_ = (([] : List Int)):=⟨_,rfl⟩
 replace H : (if y217.length + l0.length < 17592186044416 then (some (y217 ++ l0)) else (none)) = some r:=by first|(rw [hy217];with_reducible exact H)|(have H2_:=(Option.bind_some _ _).symm.trans H;rw [hy217];with_reducible exact H2_)|(have H2_:=(Option.bind_some _ _).symm.trans H;with_reducible exact H2_)|with_reducible exact H|(rw [hy217];exact H)|exact H
 have Ny217:=Aside0.mk hy217
 clear hy217
 by_cases c2 : y217.length + l0.length < 17592186044416
 rotate_left
 ·rw [if_neg c2] at H
  exact absurd H (by simp)
 rw [if_pos c2] at H
 have LMc2:=Aside0.mk c2
 clear c2
 obtain ⟨y220,hy220⟩ : ∃ y_ : List Int,y_ = (y217 ++ l0):=⟨_,rfl⟩
 replace H : (some y220) = some r:=by first|(rw [hy220];with_reducible exact H)|(have H2_:=(Option.bind_some _ _).symm.trans H;rw [hy220];with_reducible exact H2_)|(have H2_:=(Option.bind_some _ _).symm.trans H;with_reducible exact H2_)|with_reducible exact H|(rw [hy220];exact H)|exact H
 have Ny220:=Aside0.mk hy220
 clear hy220
 obtain rfl:=Option.some.inj H
 go_enter Try.func53,Try.ntmps53
 go_wp2_with (first|((with_reducible refine gate_dst (N:=3) rfl ?_);refine R_lit (Kd.int .i64) _ 3 ?hg (N:=3) ?hd (xs:=([] : List Int)) (inner:=[]) (ok:=fun _=>True) (okp:=fun _=>True) ?hr ?hp (fun _ hk=>hk) trivial (Below.refl _ _) (Nat.le_refl _) (by simp) ?_;(case hd=>rfl);(case hg=>rfl);(case hr=>first|(go_simp;done)|(go_simp;rfl));(case hp=>exact (Reps.none _ _));intro v218 w3 ho4 hb hg_ hnew_;clear hg_ hnew_;(first|rw [← Ny217.out] at ho4|(simp only [Int.reduceToNat] at ho4;rw [← Ny217.out] at ho4));have n0_:=Aside0.mk (R_lower ho4 (below_size (hm HB.out)));have n1_:=Aside0.mk (below_step (hm HB.out) hb);clear HB;have HO219:=n0_;have HB:=n1_;clear n0_ n1_;clear hb ho4)|((with_reducible refine gate_builtin (b:=.append) (xs:=#[.tmp 3,.tmp 4]) rfl ?_);at_builtin;refine R_append_rows (Kd.int .i64) (w0:=w) w.heap.size rfl (.tmp 3) (.tmp 4) 22 3 (.int .i64 0) 8 rfl Try.underlying22 info3 rfl (by decide) (by omega) v218 y217 l0 _ _ _ (fun _=>True) (fun _=>False) rfl rfl ?aO ?aR (fun _ _ h=>h) (fun _ h=>h.elim) ?aF ?aB ?aS ?aL ?_;(case aR=>exact cm (C_below HR0.out HB.out));(case aB=>exact (hm HB.out));(case aF=>exact (fun _ _=>trivial));(case aO=>exact (rm HO219.out));(case aS=>exact (below_size (hm HB.out)));(case aL=>have:=LMc2.out;omega);intro v221 w5 ho hb hg hat;rw [← Ny220.out] at ho;have n0_:=Aside0.mk (hb);have n1_:=Aside0.mk (ho);clear HB;clear HO219;have HB:=n0_;have HO222:=n1_;clear n0_ n1_;clear ho hb hg hat))
 go_ret
 exact ⟨_,by first|rfl|(simp [errW_none,errW_some] <;> rfl)|(simp [*,errW_none,errW_some] <;> rfl),rm HO222.out,hm HB.out⟩

/-! ### impl_LaneAfter: function 28 -/
def impl_LaneAfter.l0 : Nat → List Int → Int → Int → Option (List Int × Bool)
 | 0,_,_,_=>none
 | k + 1,x0,x12,x13=>if x13 < x12 then ((impl_turn.f k x0).bind fun bt227=>(impl_LaneAfter.l0 k bt227.1 x12 (wrap64 (x13 + 1)))) else (some (x0,true))
def impl_LaneAfter.f (k : Nat) (l0 : List Int) (a1 : Int) : Option (List Int × Bool):=(impl_isTurns.f k l0 a1).bind fun t223=>(if t223 = true then ((impl_copied.f l0).bind fun t224=>(impl_LaneAfter.l0 k t224 a1 0)) else (some (([] : List Int),false)))
theorem impl_LaneAfter.mono_l : ∀ k,(∀ y0 y1 y2,LeO (impl_LaneAfter.l0 k y0 y1 y2) (impl_LaneAfter.l0 (k + 1) y0 y1 y2))
 | 0=>fun _ _ _ r h=>by simp [impl_LaneAfter.l0] at h
 | k + 1=>by
  have ih0:=impl_LaneAfter.mono_l k
  ·intro y0 y1 y2
   unfold impl_LaneAfter.l0
   repeat' first
   | (with_reducible exact ih0 _ _ _)
   | (with_reducible exact impl_isTurns.mono _ _ _)
   | (with_reducible exact impl_turn.mono _ _)
   | (with_reducible exact LeO.refl _)
   | (with_reducible exact LeO.none _)
   | (with_reducible refine LeO.ite ?_ ?_)
   | (with_reducible refine LeO.bind ?_ (fun _=>?_))
   | exact ih0 _ _ _
   | exact impl_isTurns.mono _ _ _
   | exact impl_turn.mono _ _
   | exact LeO.none _
   | refine LeO.ite ?_ ?_
   | refine LeO.bind ?_ (fun _=>?_)
theorem impl_LaneAfter.mono : ∀ a0 a1 k,LeO (impl_LaneAfter.f k a0 a1) (impl_LaneAfter.f (k + 1) a0 a1):=by
 intro a0 a1 k
 have ih0:=impl_LaneAfter.mono_l k
 unfold impl_LaneAfter.f
 repeat' first
   | (with_reducible exact ih0 _ _ _)
   | (with_reducible exact impl_isTurns.mono _ _ _)
   | (with_reducible exact impl_turn.mono _ _)
   | (with_reducible exact LeO.refl _)
   | (with_reducible exact LeO.none _)
   | (with_reducible refine LeO.ite ?_ ?_)
   | (with_reducible refine LeO.bind ?_ (fun _=>?_))
   | exact ih0 _ _ _
   | exact impl_isTurns.mono _ _ _
   | exact impl_turn.mono _ _
   | exact LeO.none _
   | refine LeO.ite ?_ ?_
   | refine LeO.bind ?_ (fun _=>?_)
set_option maxHeartbeats 8000000 in
set_option maxRecDepth 100000 in
theorem impl_LaneAfter.calls (k : Nat) (A0 : Option Addr) (c0 : Nat) (l0 : List Int) (a1 : Int) (r1 : List Int) (r2 : Bool) (w : World) (hr0 : Kd.C (Kd.int .i64) w A0 l0.length l0) (hc0 : l0.length ≤ c0) (h : impl_LaneAfter.f k l0 a1 = some (r1,r2)) :
  Calls Try.prog 28 #[.slice A0 l0.length c0,.int .i64 a1] w fun e w'=>∃ v0_ : Value,e = .returned (.tuple #[v0_,.bool r2]) ∧ Kd.R (Kd.int .i64) 3 w' w.heap.size (fun _=>True) v0_ r1 ∧ Below w.heap.size w w':=by
 have HR0:=Aside0.mk hr0
 have HC0:=Aside0.mk hc0
 clear hr0 hc0
 have HB:=Aside0.mk (Below.refl w.heap.size w)
 have H : ((impl_isTurns.f k l0 a1).bind fun t223=>(if t223 = true then ((impl_copied.f l0).bind fun t224=>(impl_LaneAfter.l0 k t224 a1 0)) else (some (([] : List Int),false)))) = some (r1,r2):=h
 clear h
 replace H:=Option.bind_eq_some_iff.mp H
 obtain ⟨t223,A30,H⟩:=H
 replace H : (if t223 = true then ((impl_copied.f l0).bind fun t224=>(impl_LaneAfter.l0 k t224 a1 0)) else (some (([] : List Int),false))) = some (r1,r2):=H
 have A3:=Aside0.mk A30
 clear A30
 by_cases c4 : t223 = true
 rotate_left
 ·replace c4:=Bool.eq_false_iff.mpr c4
  subst c4
  have H1 : (some (([] : List Int),false)) = some (r1,r2):=by rw [if_neg (show ¬ (false = true) by decide)] at H;exact H
  clear H
  have H:=H1
  clear H1
  simp only [Option.some.injEq,Prod.mk.injEq] at H
  obtain ⟨rfl,rfl⟩:=H
  go_enter Try.func28,Try.ntmps28
  go_wp2_with (first|((with_reducible refine gate_callee (f:=52) rfl ?_);refine goesL_ (some 8) rfl rfl Try.func52 (by kernel_rfl) rfl #[.slice A0 l0.length c0,.int .i64 a1] rfl (by (try simp only [List.map_toArray,List.map_cons,List.map_nil]);first|done|rfl|(simp only [List.length_drop,List.length_take];rfl)) ?_;(with_reducible refine (impl_isTurns.calls k _ _ l0 a1 false _ ?side1 ?side2 A3.out).mono ?_);(case side1=>repeat (first|exact HR0.out|(with_reducible refine C_alloc ?_ _)|(with_reducible refine C_drewN ?_ _)|(with_reducible refine C_drew ?_)));(case side2=>exact HC0.out);rintro e w' ⟨rfl,⟨nd,rfl⟩⟩;refine ⟨_,rfl,?_⟩))
  go_ret2
  exact ⟨_,by first|rfl|(simp [errW_none,errW_some] <;> rfl)|(simp [*,errW_none,errW_some] <;> rfl),by first|exact R_nil _ _ _ _ _|exact Kd.N_nil _ _ _ _ _|exact Kd.V_nil _ _ _ _ _|exact Kd.Q_nil _ _ _ _ _|exact Kd.S_nil _ _ _ _ _,hm HB.out⟩
 subst c4
 have H1 : ((impl_copied.f l0).bind fun t224=>(impl_LaneAfter.l0 k t224 a1 0)) = some (r1,r2):=by rw [if_pos rfl] at H;exact H
 clear H
 have H:=H1
 clear H1
 replace H:=Option.bind_eq_some_iff.mp H
 obtain ⟨t224,A50,H⟩:=H
 replace H : (impl_LaneAfter.l0 k t224 a1 0) = some (r1,r2):=H
 have A5:=Aside0.mk A50
 clear A50
 have H':=Aside0.mk H
 clear H
 go_enter Try.func28,Try.ntmps28
 go_wp2_with (first|((with_reducible refine gate_callee (f:=52) rfl ?_);refine goesL_ (some 8) rfl rfl Try.func52 (by kernel_rfl) rfl #[.slice A0 l0.length c0,.int .i64 a1] rfl (by (try simp only [List.map_toArray,List.map_cons,List.map_nil]);first|done|rfl|(simp only [List.length_drop,List.length_take];rfl)) ?_;(with_reducible refine (impl_isTurns.calls k _ _ l0 a1 true _ ?side1 ?side2 A3.out).mono ?_);(case side1=>repeat (first|exact HR0.out|(with_reducible refine C_alloc ?_ _)|(with_reducible refine C_drewN ?_ _)|(with_reducible refine C_drew ?_)));(case side2=>exact HC0.out);rintro e w' ⟨rfl,⟨nd,rfl⟩⟩;refine ⟨_,rfl,?_⟩)|((with_reducible refine gate_callee (f:=53) rfl ?_);refine goesL_ (some 11) rfl rfl Try.func53 (by kernel_rfl) rfl #[.slice A0 l0.length c0] rfl (by (try simp only [List.map_toArray,List.map_cons,List.map_nil]);first|done|rfl|(simp only [List.length_drop,List.length_take];rfl)) ?_;(with_reducible refine (impl_copied.calls _ _ l0 t224 _ ?side1 ?side2 A5.out).mono ?_);(case side1=>repeat (first|exact HR0.out|(with_reducible refine C_alloc ?_ _)|(with_reducible refine C_drewN ?_ _)|(with_reducible refine C_drew ?_)));(case side2=>exact HC0.out);rintro e w6 ⟨v225,rfl,ho0,hb⟩;refine ⟨_,rfl,?_⟩;have n0_:=Aside0.mk (R_lower ho0 (below_size (hm HB.out)));have n1_:=Aside0.mk (below_step (hm HB.out) hb);clear HB;have HO226:=n0_;have HB:=n1_;clear n0_ n1_;(try clear hb);(try clear hb2);(try clear hk);(try clear hi);(try clear ho0)))
 go_loopg [0,13] k (fun kq v0 v13 w'=>∃ (x0_1 : List Int) (x13_1 : Int),v13 = .int .i64 x13_1 ∧ Aside0 (impl_LaneAfter.l0 kq x0_1 a1 x13_1 = some (r1,r2)) ∧ Aside0 (kq ≤ k) ∧ Aside0 (Kd.R (Kd.int .i64) 3 w' w.heap.size (fun _=>True) v0 x0_1) ∧ Aside0 (Below w.heap.size w w'))
 case atStart=>exact ⟨(t224),(0),(by first|rfl|(simp;done)|(simp [*];done)),H',⟨Nat.le_refl _⟩,⟨rm HO226.out⟩,⟨hm HB.out⟩⟩
 clear H'
 try clear c2
 try clear p2
 try clear c4
 try clear c5
 obtain ⟨x0_1,x13_1,rfl,HA,HK1,HO_0,HB⟩:=hrel
 cases gk with
 | zero=>exact absurd HA.out (by simp [impl_LaneAfter.l0])
 | succ k1 =>
  have H:=HA.out
  clear HA
  simp only [impl_LaneAfter.l0] at H
  by_cases c7 : x13_1 < a1
  rotate_left
  ·rw [if_neg c7] at H
   have c7b0 : decide (x13_1 < a1) = false:=decide_eq_false c7
   clear c7
   simp only [Option.some.injEq,Prod.mk.injEq] at H
   obtain ⟨rfl,rfl⟩:=H
   go_wp2
   go_ret2
   exact ⟨_,by first|rfl|(simp [errW_none,errW_some] <;> rfl)|(simp [*,errW_none,errW_some] <;> rfl),rm HO_0.out,hm HB.out⟩
  rw [if_pos c7] at H
  have c7b0 : decide (x13_1 < a1) = true:=decide_eq_true c7
  clear c7
  replace H:=Option.bind_eq_some_iff.mp H
  obtain ⟨⟨t227,t228,t229⟩,A80,H⟩:=H
  replace H : (impl_LaneAfter.l0 k1 t227 a1 (wrap64 (x13_1 + 1))) = some (r1,r2):=H
  have A8:=Aside0.mk A80
  clear A80
  have H':=Aside0.mk H
  clear H
  obtain ⟨Ao9,co9,eo9⟩:=R_slice HO_0.out
  subst eo9
  go_wp2_with (first|((with_reducible refine gate_callee (f:=48) rfl ?_);refine goesL_ (some 17) rfl rfl Try.func48 (by kernel_rfl) rfl #[.slice Ao9 x0_1.length co9] rfl (by (try simp only [List.map_toArray,List.map_cons,List.map_nil]);first|done|rfl|(simp only [List.length_drop,List.length_take];rfl)) ?_;(with_reducible refine (impl_turn.calls k1 _ _ x0_1 t227 t228 t229 _ ?side1 ?side2 A8.out).mono ?_);(case side1=>exact cm (R_reads' HO_0.out).2.2);(case side2=>exact (R_reads' HO_0.out).2.1);rintro e w10 ⟨v230,v232,rfl,ho0,ho1,hb⟩;refine ⟨_,rfl,?_⟩;have n0_:=Aside0.mk (R_mono (R_told (R_told (R_old (rm HO_0.out) hb) (R_base ho0)) (R_base ho1)) (fun _ h_=>h_.1));have n1_:=Aside0.mk (R_lower (R_new' ho0 (R_lt (rm HO_0.out))) (below_size (hm HB.out)));have n2_:=Aside0.mk (R_lower (R_new' ho1 (R_lt (rm HO_0.out))) (below_size (hm HB.out)));have n3_:=Aside0.mk (below_step (hm HB.out) hb);clear HO_0;clear HB;have HO_0:=n0_;have HO231:=n1_;have HO233:=n2_;have HB:=n3_;clear n0_ n1_ n2_ n3_;(try clear hb);(try clear hb2);(try clear hk);(try clear hi);(try clear ho0);(try clear ho1)))
  go_roundg k1
  case measure=>have:=HK1.out;omega
  case rel=>exact ⟨(t227),(wrap64 (x13_1 + 1)),(by first|rfl|(simp;done)|(simp [*];done)),H',⟨by have:=HK1.out;omega⟩,⟨rm (R_mono HO231.out (fun _ hk=>trivial))⟩,⟨hm HB.out⟩⟩

/-! ### spec_FlowsOf: function 29 -/
def spec_FlowsOf.l0 : Nat → Int → List Int → List Int → Int → Option (List Int × Bool)
 | 0,_,_,_,_=>none
 | k + 1,x1,x6,x7,x9=>if x9 < x1 then ((spec_l8Turn.f k x7).bind fun bt241=>(if x6.length < 17592186044416 then (spec_FlowsOf.l0 k x1 (x6 ++ [bt241.2]) bt241.1 (wrap64 (x9 + 1))) else (none))) else (some (x6,true))
def spec_FlowsOf.f (k : Nat) (l0 : List Int) (a1 : Int) : Option (List Int × Bool):=(some (([] : List Int) : List Int)).bind fun y234=>((spec_l8Turns.f k l0 a1).bind fun t237=>(if t237 = true then ((spec_l1Own.f l0).bind fun t238=>(spec_FlowsOf.l0 k a1 y234 t238 0)) else (some (y234,false))))
theorem spec_FlowsOf.mono_l : ∀ k,(∀ y0 y1 y2 y3,LeO (spec_FlowsOf.l0 k y0 y1 y2 y3) (spec_FlowsOf.l0 (k + 1) y0 y1 y2 y3))
 | 0=>fun _ _ _ _ r h=>by simp [spec_FlowsOf.l0] at h
 | k + 1=>by
  have ih0:=spec_FlowsOf.mono_l k
  ·intro y0 y1 y2 y3
   unfold spec_FlowsOf.l0
   repeat' first
   | (with_reducible exact ih0 _ _ _ _)
   | (with_reducible exact spec_l8Turn.mono _ _)
   | (with_reducible exact spec_l8Turns.mono _ _ _)
   | (with_reducible exact LeO.refl _)
   | (with_reducible exact LeO.none _)
   | (with_reducible refine LeO.ite ?_ ?_)
   | (with_reducible refine LeO.bind ?_ (fun _=>?_))
   | exact ih0 _ _ _ _
   | exact spec_l8Turn.mono _ _
   | exact spec_l8Turns.mono _ _ _
   | exact LeO.none _
   | refine LeO.ite ?_ ?_
   | refine LeO.bind ?_ (fun _=>?_)
theorem spec_FlowsOf.mono : ∀ a0 a1 k,LeO (spec_FlowsOf.f k a0 a1) (spec_FlowsOf.f (k + 1) a0 a1):=by
 intro a0 a1 k
 have ih0:=spec_FlowsOf.mono_l k
 unfold spec_FlowsOf.f
 repeat' first
   | (with_reducible exact ih0 _ _ _ _)
   | (with_reducible exact spec_l8Turn.mono _ _)
   | (with_reducible exact spec_l8Turns.mono _ _ _)
   | (with_reducible exact LeO.refl _)
   | (with_reducible exact LeO.none _)
   | (with_reducible refine LeO.ite ?_ ?_)
   | (with_reducible refine LeO.bind ?_ (fun _=>?_))
   | exact ih0 _ _ _ _
   | exact spec_l8Turn.mono _ _
   | exact spec_l8Turns.mono _ _ _
   | exact LeO.none _
   | refine LeO.ite ?_ ?_
   | refine LeO.bind ?_ (fun _=>?_)
set_option maxHeartbeats 8000000 in
set_option maxRecDepth 100000 in
theorem spec_FlowsOf.calls (k : Nat) (A0 : Option Addr) (c0 : Nat) (l0 : List Int) (a1 : Int) (r1 : List Int) (r2 : Bool) (w : World) (hr0 : Kd.C (Kd.int .i64) w A0 l0.length l0) (hc0 : l0.length ≤ c0) (h : spec_FlowsOf.f k l0 a1 = some (r1,r2)) :
  Calls Try.prog 29 #[.slice A0 l0.length c0,.int .i64 a1] w fun e w'=>∃ v0_ : Value,e = .returned (.tuple #[v0_,.bool r2]) ∧ Kd.R (Kd.int .i64) 3 w' w.heap.size (fun _=>True) v0_ r1 ∧ Below w.heap.size w w':=by
 have HR0:=Aside0.mk hr0
 have HC0:=Aside0.mk hc0
 clear hr0 hc0
 have HB:=Aside0.mk (Below.refl w.heap.size w)
 have H : ((some (([] : List Int) : List Int)).bind fun y234=>((spec_l8Turns.f k l0 a1).bind fun t237=>(if t237 = true then ((spec_l1Own.f l0).bind fun t238=>(spec_FlowsOf.l0 k a1 y234 t238 0)) else (some (y234,false))))) = some (r1,r2):=h
 clear h
 obtain ⟨y234,hy234⟩ : ∃ y_ : List Int,y_ = (([] : List Int)):=⟨_,rfl⟩
 replace H : ((spec_l8Turns.f k l0 a1).bind fun t237=>(if t237 = true then ((spec_l1Own.f l0).bind fun t238=>(spec_FlowsOf.l0 k a1 y234 t238 0)) else (some (y234,false)))) = some (r1,r2):=by first|(rw [hy234];with_reducible exact H)|(have H2_:=(Option.bind_some _ _).symm.trans H;rw [hy234];with_reducible exact H2_)|(have H2_:=(Option.bind_some _ _).symm.trans H;with_reducible exact H2_)|with_reducible exact H|(rw [hy234];exact H)|exact H
 have Ny234:=Aside0.mk hy234
 clear hy234
 replace H:=Option.bind_eq_some_iff.mp H
 obtain ⟨t237,A30,H⟩:=H
 replace H : (if t237 = true then ((spec_l1Own.f l0).bind fun t238=>(spec_FlowsOf.l0 k a1 y234 t238 0)) else (some (y234,false))) = some (r1,r2):=H
 have A3:=Aside0.mk A30
 clear A30
 by_cases c4 : t237 = true
 rotate_left
 ·replace c4:=Bool.eq_false_iff.mpr c4
  subst c4
  have H1 : (some (y234,false)) = some (r1,r2):=by rw [if_neg (show ¬ (false = true) by decide)] at H;exact H
  clear H
  have H:=H1
  clear H1
  simp only [Option.some.injEq,Prod.mk.injEq] at H
  obtain ⟨rfl,rfl⟩:=H
  go_enter Try.func29,Try.ntmps29
  go_wp2_with (first|((with_reducible refine gate_dst (N:=10) rfl ?_);refine R_lit (Kd.int .i64) _ 3 ?hg (N:=10) ?hd (xs:=([] : List Int)) (inner:=[]) (ok:=fun _=>True) (okp:=fun _=>True) ?hr ?hp (fun _ hk=>hk) trivial (Below.refl _ _) (Nat.le_refl _) (by simp) ?_;(case hd=>rfl);(case hg=>rfl);(case hr=>first|(go_simp;done)|(go_simp;rfl));(case hp=>exact (Reps.none _ _));intro v235 w15 ho16 hb hg_ hnew_;clear hg_ hnew_;(first|rw [← Ny234.out] at ho16|(simp only [Int.reduceToNat] at ho16;rw [← Ny234.out] at ho16));have n0_:=Aside0.mk (R_lower ho16 (below_size (hm HB.out)));have n1_:=Aside0.mk (below_step (hm HB.out) hb);clear HB;have HO236:=n0_;have HB:=n1_;clear n0_ n1_;clear hb ho16)|((with_reducible refine gate_callee (f:=50) rfl ?_);refine goesL_ (some 13) rfl rfl Try.func50 (by kernel_rfl) rfl #[.slice A0 l0.length c0,.int .i64 a1] rfl (by (try simp only [List.map_toArray,List.map_cons,List.map_nil]);first|done|rfl|(simp only [List.length_drop,List.length_take];rfl)) ?_;(with_reducible refine (spec_l8Turns.calls k _ _ l0 a1 false _ ?side1 ?side2 A3.out).mono ?_);(case side1=>exact cm (C_below HR0.out HB.out));(case side2=>exact HC0.out);rintro e w' ⟨rfl,⟨nd,rfl⟩⟩;refine ⟨_,rfl,?_⟩))
  go_ret2
  exact ⟨_,by first|rfl|(simp [errW_none,errW_some] <;> rfl)|(simp [*,errW_none,errW_some] <;> rfl),rm HO236.out,hm HB.out⟩
 subst c4
 have H1 : ((spec_l1Own.f l0).bind fun t238=>(spec_FlowsOf.l0 k a1 y234 t238 0)) = some (r1,r2):=by rw [if_pos rfl] at H;exact H
 clear H
 have H:=H1
 clear H1
 replace H:=Option.bind_eq_some_iff.mp H
 obtain ⟨t238,A50,H⟩:=H
 replace H : (spec_FlowsOf.l0 k a1 y234 t238 0) = some (r1,r2):=H
 have A5:=Aside0.mk A50
 clear A50
 have H':=Aside0.mk H
 clear H
 go_enter Try.func29,Try.ntmps29
 go_wp2_with (first|((with_reducible refine gate_dst (N:=10) rfl ?_);refine R_lit (Kd.int .i64) _ 3 ?hg (N:=10) ?hd (xs:=([] : List Int)) (inner:=[]) (ok:=fun _=>True) (okp:=fun _=>True) ?hr ?hp (fun _ hk=>hk) trivial (Below.refl _ _) (Nat.le_refl _) (by simp) ?_;(case hd=>rfl);(case hg=>rfl);(case hr=>first|(go_simp;done)|(go_simp;rfl));(case hp=>exact (Reps.none _ _));intro v235 w6 ho7 hb hg_ hnew_;clear hg_ hnew_;(first|rw [← Ny234.out] at ho7|(simp only [Int.reduceToNat] at ho7;rw [← Ny234.out] at ho7));have n0_:=Aside0.mk (R_lower ho7 (below_size (hm HB.out)));have n1_:=Aside0.mk (below_step (hm HB.out) hb);clear HB;have HO236:=n0_;have HB:=n1_;clear n0_ n1_;clear hb ho7)|((with_reducible refine gate_callee (f:=50) rfl ?_);refine goesL_ (some 13) rfl rfl Try.func50 (by kernel_rfl) rfl #[.slice A0 l0.length c0,.int .i64 a1] rfl (by (try simp only [List.map_toArray,List.map_cons,List.map_nil]);first|done|rfl|(simp only [List.length_drop,List.length_take];rfl)) ?_;(with_reducible refine (spec_l8Turns.calls k _ _ l0 a1 true _ ?side1 ?side2 A3.out).mono ?_);(case side1=>exact cm (C_below HR0.out HB.out));(case side2=>exact HC0.out);rintro e w' ⟨rfl,⟨nd,rfl⟩⟩;refine ⟨_,rfl,?_⟩)|((with_reducible refine gate_callee (f:=51) rfl ?_);refine goesL_ (some 17) rfl rfl Try.func51 (by kernel_rfl) rfl #[.slice A0 l0.length c0] rfl (by (try simp only [List.map_toArray,List.map_cons,List.map_nil]);first|done|rfl|(simp only [List.length_drop,List.length_take];rfl)) ?_;(with_reducible refine (spec_l1Own.calls _ _ l0 t238 _ ?side1 ?side2 A5.out).mono ?_);(case side1=>repeat (first|exact (C_below HR0.out (hm HB.out))|(with_reducible refine C_alloc ?_ _)|(with_reducible refine C_drewN ?_ _)|(with_reducible refine C_drew ?_)));(case side2=>exact HC0.out);rintro e w8 ⟨v239,rfl,ho0,hb⟩;refine ⟨_,rfl,?_⟩;have n0_:=Aside0.mk (R_elder' (rm HO236.out) (R_base ho0) hb);have n1_:=Aside0.mk (R_lower (R_new' ho0 (R_lt (rm HO236.out))) (below_size (hm HB.out)));have n2_:=Aside0.mk (below_step (hm HB.out) hb);clear HO236;clear HB;have HO236:=n0_;have HO240:=n1_;have HB:=n2_;clear n0_ n1_ n2_;(try clear hb);(try clear hb2);(try clear hk);(try clear hi);(try clear ho0)))
 go_loopg [6,7,9] k (fun kq v6 v7 v9 w'=>∃ (x6_1 : List Int) (x7_1 : List Int) (x9_1 : Int),v9 = .int .i64 x9_1 ∧ Aside0 (spec_FlowsOf.l0 kq a1 x6_1 x7_1 x9_1 = some (r1,r2)) ∧ Aside0 (kq ≤ k) ∧ Aside0 (Kd.R (Kd.int .i64) 3 w' w.heap.size (fun k_=>some k_ ≠ (v7 : Value).ownBlock) v6 x6_1) ∧ Aside0 (Kd.R (Kd.int .i64) 3 w' w.heap.size (fun k_=>some k_ ≠ (v6 : Value).ownBlock) v7 x7_1) ∧ Aside0 (Below w.heap.size w w'))
 case atStart=>exact ⟨(y234),(t238),(0),(by first|rfl|(simp;done)|(simp [*];done)),H',⟨Nat.le_refl _⟩,⟨rm (R_mono HO236.out (fun _ hk=>hk.2))⟩,⟨rm (R_mono HO240.out (fun _ hk=>hk.2))⟩,⟨hm HB.out⟩⟩
 clear H'
 try clear c2
 try clear p2
 try clear c4
 try clear c5
 obtain ⟨x6_1,x7_1,x9_1,rfl,HA,HK1,HO_6,HO_7,HB⟩:=hrel
 cases gk with
 | zero=>exact absurd HA.out (by simp [spec_FlowsOf.l0])
 | succ k1 =>
  have H:=HA.out
  clear HA
  simp only [spec_FlowsOf.l0] at H
  by_cases c9 : x9_1 < a1
  rotate_left
  ·rw [if_neg c9] at H
   have c9b0 : decide (x9_1 < a1) = false:=decide_eq_false c9
   clear c9
   simp only [Option.some.injEq,Prod.mk.injEq] at H
   obtain ⟨rfl,rfl⟩:=H
   go_wp2
   go_ret2
   exact ⟨_,by first|rfl|(simp [errW_none,errW_some] <;> rfl)|(simp [*,errW_none,errW_some] <;> rfl),rm (R_mono HO_6.out (fun _ hk=>trivial)),hm HB.out⟩
  rw [if_pos c9] at H
  have c9b0 : decide (x9_1 < a1) = true:=decide_eq_true c9
  clear c9
  replace H:=Option.bind_eq_some_iff.mp H
  obtain ⟨⟨t241,t242⟩,A100,H⟩:=H
  replace H : (if x6_1.length < 17592186044416 then (spec_FlowsOf.l0 k1 a1 (x6_1 ++ [t242]) t241 (wrap64 (x9_1 + 1))) else (none)) = some (r1,r2):=H
  have A10:=Aside0.mk A100
  clear A100
  by_cases c11 : x6_1.length < 17592186044416
  rotate_left
  ·rw [if_neg c11] at H
   exact absurd H (by simp)
  rw [if_pos c11] at H
  have LMc11:=Aside0.mk c11
  clear c11
  obtain ⟨y245,hy245⟩ : ∃ y_ : List Int,y_ = (x6_1 ++ [t242]):=⟨_,rfl⟩
  replace H : (spec_FlowsOf.l0 k1 a1 y245 t241 (wrap64 (x9_1 + 1))) = some (r1,r2):=by first|(rw [hy245];with_reducible exact H)|(have H2_:=(Option.bind_some _ _).symm.trans H;rw [hy245];with_reducible exact H2_)|(have H2_:=(Option.bind_some _ _).symm.trans H;with_reducible exact H2_)|with_reducible exact H|(rw [hy245];exact H)|exact H
  have Ny245:=Aside0.mk hy245
  clear hy245
  have H':=Aside0.mk H
  clear H
  obtain ⟨Ao12,co12,eo12⟩:=R_slice HO_7.out
  subst eo12
  go_wp2_with (first|((with_reducible refine gate_callee (f:=49) rfl ?_);refine goesL_ (some 25) rfl rfl Try.func49 (by kernel_rfl) rfl #[.slice Ao12 x7_1.length co12] rfl (by (try simp only [List.map_toArray,List.map_cons,List.map_nil]);first|done|rfl|(simp only [List.length_drop,List.length_take];rfl)) ?_;(with_reducible refine (spec_l8Turn.calls k1 _ _ x7_1 t241 t242 _ ?side1 ?side2 A10.out).mono ?_);(case side1=>exact cm (R_reads' HO_7.out).2.2);(case side2=>exact (R_reads' HO_7.out).2.1);rintro e w13 ⟨v243,rfl,ho0,hb⟩;refine ⟨_,rfl,?_⟩;have n0_:=Aside0.mk (R_elder' (rm HO_6.out) (R_base ho0) hb);have n1_:=Aside0.mk (R_elder' (rm HO_7.out) (R_base ho0) hb);have n2_:=Aside0.mk (R_lower (R_new' (R_new' ho0 (R_lt (rm HO_6.out))) (R_lt (rm HO_7.out))) (below_size (hm HB.out)));have n3_:=Aside0.mk (below_step (hm HB.out) hb);clear HO_6;clear HO_7;clear HB;have HO_6:=n0_;have HO_7:=n1_;have HO244:=n2_;have HB:=n3_;clear n0_ n1_ n2_ n3_;(try clear hb);(try clear hb2);(try clear hk);(try clear hi);(try clear ho0))|((with_reducible refine gate_builtin (b:=.append) (xs:=#[.tmp 28,.tmp 30]) rfl ?_);at_builtin;refine R_append (Kd.int .i64) (w0:=w) w.heap.size rfl (.tmp 28) (.tmp 30) 22 3 (.int .i64 0) 8 rfl Try.underlying22 info3 rfl (by decide) (by omega) u6 x6_1 t242 [.int .i64 t242] (fun k_=>some k_ ≠ (.slice Ao12 x7_1.length co12 : Value).ownBlock ∧ some k_ ≠ (v243 : Value).ownBlock) (fun _=>False) rfl rfl ?aP (fun _ hk=>hk.elim) ?aF ?aO ?aB ?aS ?aL ?_;(case aP=>exact rfl);(case aB=>exact (hm HB.out));(case aF=>exact (fun k_ hk=>⟨Kd.fresh' (R_lt (rm HO_7.out)) k_ hk,Kd.fresh' (R_lt (rm HO244.out)) k_ hk⟩));(case aO=>exact (rm HO_6.out));(case aS=>exact (below_size (hm HB.out)));(case aL=>have:=LMc11.out;omega);intro v246 w14 ho hb hg hat;rw [← Ny245.out] at ho;have n0_:=Aside0.mk (R_after (ok:=(fun k_=>some k_ ≠ (v243 : Value).ownBlock)) (rm (R_mono HO_7.out (fun _ hk=>⟨hk.2,hk.1⟩))) hg hat);have n1_:=Aside0.mk (R_after (ok:=(fun k_=>some k_ ≠ (.slice Ao12 x7_1.length co12 : Value).ownBlock)) (rm (R_mono HO244.out (fun _ hk=>⟨hk.2,hk.1.2⟩))) hg hat);have n2_:=Aside0.mk (hb);have n3_:=Aside0.mk (ho);clear HO_7;clear HO244;clear HB;clear HO_6;have HO_7:=n0_;have HO244:=n1_;have HB:=n2_;have HO247:=n3_;clear n0_ n1_ n2_ n3_;clear ho hb hg hat))
  go_roundg k1
  case measure=>have:=HK1.out;omega
  case rel=>exact ⟨(y245),(t241),(wrap64 (x9_1 + 1)),(by first|rfl|(simp;done)|(simp [*];done)),H',⟨by have:=HK1.out;omega⟩,⟨rm (R_mono HO247.out (fun _ hk=>hk.2))⟩,⟨rm (R_mono HO244.out (fun _ hk=>hk.2))⟩,⟨hm HB.out⟩⟩


end
end Go.Proofs.Ythkbjcihelmaeaa.QFnLanes
