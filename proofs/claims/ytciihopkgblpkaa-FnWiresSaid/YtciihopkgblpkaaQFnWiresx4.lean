/- Functions that the law FnWires comes to, and their walks: no condition but those named. -/
import Derived.Test.YtciihopkgblpkaaQFnWiresx0
import Derived.Test.YtciihopkgblpkaaQFnWiresx1
import Derived.Test.YtciihopkgblpkaaQFnWiresx2
import Derived.Test.YtciihopkgblpkaaQFnWiresx3
namespace Go.Proofs.Ytciihopkgblpkaa.QFnWires
open Go.RowKit Go.Proofs.YtciihopkgblpkaaW.PrintWords Go.Proofs.YtciihopkgblpkaaW.PrintLast Go.Proofs.YtciihopkgblpkaaW.PrintMore Go.Proofs.Ytciihopkgblpkaa.Short
attribute [local go_sem] max2_int min2_int max_two min_two max_three min_three max_four min_four
set_option linter.unusedVariables false
set_option linter.unusedSimpArgs false

section
open Kd
/-! ### spec_LastFall: function 18 -/
def spec_LastFall.l0 : Nat → Int → List Int → Int → Option (Int × Bool)
 | 0,_,_,_=>none
 | k + 1,x4,x5,x6=>if x6 < (x5.length : Int) then (if 0 ≤ x6 then ((spec_l1Most.f x4 (rd x5 x6)).bind fun t147=>(spec_LastFall.l0 k t147 x5 (wrap64 (x6 + 1)))) else (none)) else (some (x4,true))
def spec_LastFall.f (k : Nat) (a0_0 : Int) (l0_1 : List Int) (l0_2 : List Int) : Option (Int × Bool):=(spec_l8Wire.f k a0_0 l0_1 l0_2).bind fun t142=>(if t142 = true then ((spec_l8Shades.f k a0_0 l0_1 l0_2).bind fun t143=>(spec_LastFall.l0 k 0 t143 0)) else (some (0,false)))
theorem spec_LastFall.mono_l : ∀ k,(∀ y0 y1 y2,LeO (spec_LastFall.l0 k y0 y1 y2) (spec_LastFall.l0 (k + 1) y0 y1 y2))
 | 0=>by
  refine ?_<;>(intros;intro r h;simp [spec_LastFall.l0] at h)
 | k + 1=>by
  have ih0:=spec_LastFall.mono_l k
  refine ?_<;>intros<;>(first|unfold spec_LastFall.l0)<;>(repeat' first|(with_reducible exact ih0 ..)|(with_reducible exact spec_l8Shades.mono _ _ _ _)|(with_reducible exact spec_l8Wire.mono _ _ _ _)|(with_reducible exact LeO.refl _)|(with_reducible exact LeO.none _)|(with_reducible refine LeO.ite ?_ ?_)|(with_reducible refine LeO.bind ?_ (fun _=>?_))|exact ih0 ..|exact spec_l8Shades.mono _ _ _ _|exact spec_l8Wire.mono _ _ _ _|exact LeO.none _|refine LeO.ite ?_ ?_|refine LeO.bind ?_ (fun _=>?_))
theorem spec_LastFall.mono : ∀ a0 a1 a2 k,LeO (spec_LastFall.f k a0 a1 a2) (spec_LastFall.f (k + 1) a0 a1 a2):=by
 intro a0 a1 a2 k
 have ih0:=spec_LastFall.mono_l k
 unfold spec_LastFall.f
 repeat' first
   | (with_reducible exact ih0 _ _ _)
   | (with_reducible exact spec_l8Shades.mono _ _ _ _)
   | (with_reducible exact spec_l8Wire.mono _ _ _ _)
   | (with_reducible exact LeO.refl _)
   | (with_reducible exact LeO.none _)
   | (with_reducible refine LeO.ite ?_ ?_)
   | (with_reducible refine LeO.bind ?_ (fun _=>?_))
   | exact ih0 _ _ _
   | exact spec_l8Shades.mono _ _ _ _
   | exact spec_l8Wire.mono _ _ _ _
   | exact LeO.none _
   | refine LeO.ite ?_ ?_
   | refine LeO.bind ?_ (fun _=>?_)
set_option maxHeartbeats 8000000 in
set_option maxRecDepth 100000 in
theorem spec_LastFall.calls (k : Nat) (a0_0 : Int) (A0_1 : Option Addr) (c0_1 : Nat) (l0_1 : List Int) (A0_2 : Option Addr) (c0_2 : Nat) (l0_2 : List Int) (r1 : Int) (r2 : Bool) (w : World) (hr0_1 : Kd.C (Kd.int .i64) w A0_1 l0_1.length l0_1) (hc0_1 : l0_1.length ≤ c0_1) (hr0_2 : Kd.C (Kd.int .i64) w A0_2 l0_2.length l0_2) (hc0_2 : l0_2.length ≤ c0_2) (h : spec_LastFall.f k a0_0 l0_1 l0_2 = some (r1,r2)) :
  Calls Try.prog 18 #[.agg #[.int .i64 a0_0,.slice A0_1 l0_1.length c0_1,.slice A0_2 l0_2.length c0_2]] w fun e w'=>e = .returned (.tuple #[.int .i64 r1,.bool r2]) ∧ Below w.heap.size w w':=by
 have hu27:=Try.underlying27
 have HR0_1:=Aside0.mk hr0_1
 have HC0_1:=Aside0.mk hc0_1
 clear hr0_1 hc0_1
 have HR0_2:=Aside0.mk hr0_2
 have HC0_2:=Aside0.mk hc0_2
 clear hr0_2 hc0_2
 have HB:=Aside0.mk (Below.refl w.heap.size w)
 have H : ((spec_l8Wire.f k a0_0 l0_1 l0_2).bind fun t142=>(if t142 = true then ((spec_l8Shades.f k a0_0 l0_1 l0_2).bind fun t143=>(spec_LastFall.l0 k 0 t143 0)) else (some (0,false)))) = some (r1,r2):=h
 clear h
 replace H:=Option.bind_eq_some_iff.mp H
 obtain ⟨t142,A20,H⟩:=H
 have A2:=Aside0.mk A20
 clear A20
 by_cases c3 : t142 = true
 rotate_left
 ·replace c3:=Bool.eq_false_iff.mpr c3
  subst c3
  rw [if_neg (show ¬ (false = true) by decide)] at H
  simp only [Option.some.injEq,Prod.mk.injEq] at H
  obtain ⟨rfl,rfl⟩:=H
  go_enter Try.func18,Try.ntmps18
  go_wp2_with (first|((with_reducible refine gate_dst (N:=1) rfl ?_);refine box_event ?hg (N:=1) ?hd (cs:=#[.int .i64 a0_0,.slice A0_1 l0_1.length c0_1,.slice A0_2 l0_2.length c0_2]) (t:=27) ?hr ?_;(case hd=>rfl);(case hg=>rfl);(case hr=>first|(go_simp;done)|(go_simp;rfl));intro gb141 hg w15 hbox hb;have BK141:=ak hbox;have GW141:=ak ((by rw [hg];exact (below_size (hm HB.out)) : w.heap.size ≤ gb141));have GE141:=ak ((by rw [hg];exact (below_size (hm HB.out)) : w.heap.size ≤ gb141));replace HB:=bs HB hb;clear hb hbox hg;have hcz16_0 : w15.cell? ⟨gb141,0,none⟩ = some (.int .i64 a0_0):=(blk_cell BK141.out 0).trans rfl;have hcz16_1 : w15.cell? ⟨gb141,1,none⟩ = some (.slice A0_1 l0_1.length c0_1):=(blk_cell BK141.out 1).trans rfl;have hcz16_2 : w15.cell? ⟨gb141,2,none⟩ = some (.slice A0_2 l0_2.length c0_2):=(blk_cell BK141.out 2).trans rfl;have hfz16_0:=blk_frozen BK141.out 0;have hfz16_1:=blk_frozen BK141.out 1;have hfz16_2:=blk_frozen BK141.out 2)|((with_reducible refine gate_callee (f:=40) rfl ?_);refine goesL_ (some 8) rfl rfl Try.func40 (by kernel_rfl) rfl #[.agg #[.int .i64 a0_0,.slice A0_1 l0_1.length c0_1,.slice A0_2 l0_2.length c0_2]] rfl gl ?_;(with_reducible refine (spec_l8Wire.calls k a0_0 _ _ l0_1 _ _ l0_2 false _ ?side1 ?side2 ?side3 ?side4 A2.out).mono ?_);(case side1=>exact cm (C_below HR0_1.out HB.out));(case side2=>exact HC0_1.out);(case side3=>exact cm (C_below HR0_2.out HB.out));(case side4=>exact HC0_2.out);rintro e w17 ⟨rfl,hb⟩;refine ⟨_,rfl,?_⟩;replace BK141:=kb BK141 hb;replace HB:=ak (below_step (h1 HB.out GE141.out) hb);(try clear hb)))
  go_ret2
  exact ⟨fe,h1 HB.out GE141.out⟩
 subst c3
 rw [if_pos rfl] at H
 replace H:=Option.bind_eq_some_iff.mp H
 obtain ⟨t143,A40,H⟩:=H
 have A4:=Aside0.mk A40
 clear A40
 have H':=Aside0.mk H
 clear H
 go_enter Try.func18,Try.ntmps18
 go_wp2_with (first|((with_reducible refine gate_dst (N:=1) rfl ?_);refine box_event ?hg (N:=1) ?hd (cs:=#[.int .i64 a0_0,.slice A0_1 l0_1.length c0_1,.slice A0_2 l0_2.length c0_2]) (t:=27) ?hr ?_;(case hd=>rfl);(case hg=>rfl);(case hr=>first|(go_simp;done)|(go_simp;rfl));intro gb141 hg w5 hbox hb;have BK141:=ak hbox;have GW141:=ak ((by rw [hg];exact (below_size (hm HB.out)) : w.heap.size ≤ gb141));have GE141:=ak ((by rw [hg];exact (below_size (hm HB.out)) : w.heap.size ≤ gb141));replace HB:=bs HB hb;clear hb hbox hg;have hcz6_0 : w5.cell? ⟨gb141,0,none⟩ = some (.int .i64 a0_0):=(blk_cell BK141.out 0).trans rfl;have hcz6_1 : w5.cell? ⟨gb141,1,none⟩ = some (.slice A0_1 l0_1.length c0_1):=(blk_cell BK141.out 1).trans rfl;have hcz6_2 : w5.cell? ⟨gb141,2,none⟩ = some (.slice A0_2 l0_2.length c0_2):=(blk_cell BK141.out 2).trans rfl;have hfz6_0:=blk_frozen BK141.out 0;have hfz6_1:=blk_frozen BK141.out 1;have hfz6_2:=blk_frozen BK141.out 2)|((with_reducible refine gate_callee (f:=40) rfl ?_);refine goesL_ (some 8) rfl rfl Try.func40 (by kernel_rfl) rfl #[.agg #[.int .i64 a0_0,.slice A0_1 l0_1.length c0_1,.slice A0_2 l0_2.length c0_2]] rfl gl ?_;(with_reducible refine (spec_l8Wire.calls k a0_0 _ _ l0_1 _ _ l0_2 true _ ?side1 ?side2 ?side3 ?side4 A2.out).mono ?_);(case side1=>exact cm (C_below HR0_1.out HB.out));(case side2=>exact HC0_1.out);(case side3=>exact cm (C_below HR0_2.out HB.out));(case side4=>exact HC0_2.out);rintro e w7 ⟨rfl,hb⟩;refine ⟨_,rfl,?_⟩;replace BK141:=kb BK141 hb;replace HB:=ak (below_step (h1 HB.out GE141.out) hb);(try clear hb);have hcz8_0 : w7.cell? ⟨gb141,0,none⟩ = some (.int .i64 a0_0):=(blk_cell BK141.out 0).trans rfl;have hcz8_1 : w7.cell? ⟨gb141,1,none⟩ = some (.slice A0_1 l0_1.length c0_1):=(blk_cell BK141.out 1).trans rfl;have hcz8_2 : w7.cell? ⟨gb141,2,none⟩ = some (.slice A0_2 l0_2.length c0_2):=(blk_cell BK141.out 2).trans rfl;have hfz8_0:=blk_frozen BK141.out 0;have hfz8_1:=blk_frozen BK141.out 1;have hfz8_2:=blk_frozen BK141.out 2)|((with_reducible refine gate_callee (f:=44) rfl ?_);refine goesL_ (some 11) rfl rfl Try.func44 (by kernel_rfl) rfl #[.agg #[.int .i64 a0_0,.slice A0_1 l0_1.length c0_1,.slice A0_2 l0_2.length c0_2]] rfl gl ?_;(with_reducible refine (spec_l8Shades.calls k a0_0 _ _ l0_1 _ _ l0_2 t143 _ ?side1 ?side2 ?side3 ?side4 A4.out).mono ?_);(case side1=>exact cm (C_below HR0_1.out HB.out));(case side2=>exact HC0_1.out);(case side3=>exact cm (C_below HR0_2.out HB.out));(case side4=>exact HC0_2.out);rintro e w9 ⟨v144,rfl,ho0,hb⟩;refine ⟨_,rfl,?_⟩;have HO145:=ak (R_lower ho0 (below_size (h1 HB.out GE141.out)));replace BK141:=kb BK141 hb;replace HB:=ak (below_step (h1 HB.out GE141.out) hb);(try clear hb);(try clear ho0)))
 go_loopg [4,6] k (fun kq v4 v6 w'=>∃ (x4_1 : Int) (x6_1 : Int),v4 = .int .i64 x4_1 ∧ v6 = .int .i64 x6_1 ∧ Aside0 (spec_LastFall.l0 kq x4_1 t143 x6_1 = some (r1,r2)) ∧ Aside0 (kq ≤ k) ∧ Aside0 (Kd.R (Kd.int .i64) 3 w' w.heap.size (fun _=>True) v144 t143) ∧ Aside0 (w'.heap[gb141]? = some (.cells #[.int .i64 a0_0,(.slice A0_1 l0_1.length c0_1),(.slice A0_2 l0_2.length c0_2)] 27 (0,0))) ∧ Aside0 (Below w.heap.size w w'))
 case atStart=>exact ⟨(0),(0),fd,fd,H',⟨Nat.le_refl _⟩,⟨rm HO145.out⟩,⟨bm BK141.out⟩,⟨h1 HB.out GE141.out⟩⟩
 clear H'
 clear hcz6_0 hcz6_1 hcz6_2 hcz8_0 hcz8_1 hcz8_2 hfz6_0 hfz6_1 hfz6_2 hfz8_0 hfz8_1 hfz8_2
 obtain ⟨x4_1,x6_1,rfl,rfl,HA,HK1,HO_5,BK141,HB⟩:=hrel
 cases gk with
 | zero=>exact absurd HA.out (by simp [spec_LastFall.l0])
 | succ k1 =>
  have H:=HA.out
  clear HA
  simp only [spec_LastFall.l0] at H
  by_cases c10 : x6_1 < (t143.length : Int)
  rotate_left
  ·rw [if_neg c10] at H
   have c10b0 : decide (x6_1 < (t143.length : Int)) = false:=decide_eq_false c10
   clear c10
   simp only [Option.some.injEq,Prod.mk.injEq] at H
   obtain ⟨rfl,rfl⟩:=H
   obtain ⟨Ao14,co14,eo14⟩:=R_slice HO_5.out
   subst eo14
   go_wp2
   go_ret2
   exact ⟨fe,h1 HB.out GE141.out⟩
  rw [if_pos c10] at H
  have c10b0 : decide (x6_1 < (t143.length : Int)) = true:=decide_eq_true c10
  clear c10
  by_cases c11 : 0 ≤ x6_1
  rotate_left
  ·rw [if_neg c11] at H
   exact absurd H (by simp)
  rw [if_pos c11] at H
  have c11b0 : decide (0 ≤ x6_1) = true:=decide_eq_true c11
  clear c11
  replace H:=Option.bind_eq_some_iff.mp H
  obtain ⟨t147,A120,H⟩:=H
  have A12:=Aside0.mk A120
  clear A120
  have H':=Aside0.mk H
  clear H
  obtain ⟨Ao13,co13,eo13⟩:=R_slice HO_5.out
  subst eo13
  have p146 : 0 ≤ (x6_1 : Int):=od
  have q146 : x6_1 < (t143.length : Int):=od
  obtain ⟨ad146,e146,hx146_0⟩:=Kd.at_int (R_reads' HO_5.out).2.2 x6_1 p146 q146
  cases e146
  replace p146:=eq_true p146
  replace q146:=eq_true q146
  go_wp2_with (((with_reducible refine gate_callee (f:=45) rfl ?_);refine goesL_ (some 23) rfl rfl Try.func45 (by kernel_rfl) rfl #[.int .i64 x4_1,.int .i64 (rd t143 x6_1)] rfl gl ?_;(with_reducible refine (spec_l1Most.calls x4_1 (rd t143 x6_1) t147 _ A12.out).mono ?_);rintro e w' ⟨rfl,⟨nd,rfl⟩⟩;refine ⟨_,rfl,?_⟩))
  go_roundg k1
  case measure=>have:=HK1.out;omega
  case rel=>exact ⟨(t147),(wrap64 (x6_1 + 1)),fd,fd,H',⟨by have:=HK1.out;omega⟩,⟨rm HO_5.out⟩,⟨bm BK141.out⟩,⟨h1 HB.out GE141.out⟩⟩

/-! ### slices_Max_int_int: function 46 -/
def slices_Max_int_int.l0 : Nat → List Int → Int → Int → Option (Int)
 | 0,_,_,_=>none
 | k + 1,x0,x3,x4=>if x4 < (x0.length : Int) then (if 0 ≤ x4 then (slices_Max_int_int.l0 k x0 (mx x3 (rd x0 x4)) (wrap64 (x4 + 1))) else (none)) else (some x3)
def slices_Max_int_int.f (k : Nat) (l0 : List Int) : Option (Int):=if (l0.length : Int) < 1 then (none) else (if 0 < (l0.length : Int) then (slices_Max_int_int.l0 k l0 (rd l0 0) 1) else (none))
theorem slices_Max_int_int.mono_l : ∀ k,(∀ y0 y1 y2,LeO (slices_Max_int_int.l0 k y0 y1 y2) (slices_Max_int_int.l0 (k + 1) y0 y1 y2))
 | 0=>by
  refine ?_<;>(intros;intro r h;simp [slices_Max_int_int.l0] at h)
 | k + 1=>by
  have ih0:=slices_Max_int_int.mono_l k
  refine ?_<;>intros<;>(first|unfold slices_Max_int_int.l0)<;>(repeat' first|(with_reducible exact ih0 ..)|(with_reducible exact LeO.refl _)|(with_reducible exact LeO.none _)|(with_reducible refine LeO.ite ?_ ?_)|(with_reducible refine LeO.bind ?_ (fun _=>?_))|exact ih0 ..|exact LeO.none _|refine LeO.ite ?_ ?_|refine LeO.bind ?_ (fun _=>?_))
theorem slices_Max_int_int.mono : ∀ a0 k,LeO (slices_Max_int_int.f k a0) (slices_Max_int_int.f (k + 1) a0):=by
 intro a0 k
 have ih0:=slices_Max_int_int.mono_l k
 unfold slices_Max_int_int.f
 repeat' first
   | (with_reducible exact ih0 _ _ _)
   | (with_reducible exact LeO.refl _)
   | (with_reducible exact LeO.none _)
   | (with_reducible refine LeO.ite ?_ ?_)
   | (with_reducible refine LeO.bind ?_ (fun _=>?_))
   | exact ih0 _ _ _
   | exact LeO.none _
   | refine LeO.ite ?_ ?_
   | refine LeO.bind ?_ (fun _=>?_)
set_option maxHeartbeats 8000000 in
set_option maxRecDepth 100000 in
theorem slices_Max_int_int.calls (k : Nat) (A0 : Option Addr) (c0 : Nat) (l0 : List Int) (r : Int) (w : World) (hr0 : Kd.C (Kd.int .i64) w A0 l0.length l0) (hc0 : l0.length ≤ c0) (h : slices_Max_int_int.f k l0 = some r) :
  Calls Try.prog 46 #[.slice A0 l0.length c0] w fun e w'=>e = .returned (.int .i64 r) ∧ Below w.heap.size w w':=by
 have HR0:=Aside0.mk hr0
 have HC0:=Aside0.mk hc0
 clear hr0 hc0
 have HB:=Aside0.mk (Below.refl w.heap.size w)
 have H : (if (l0.length : Int) < 1 then (none) else (if 0 < (l0.length : Int) then (slices_Max_int_int.l0 k l0 (rd l0 0) 1) else (none))) = some r:=h
 clear h
 by_cases c2 : (l0.length : Int) < 1
 ·rw [if_pos c2] at H
  exact absurd H (by simp)
 rw [if_neg c2] at H
 have c2b0 : decide ((l0.length : Int) < 1) = false:=decide_eq_false c2
 have c2b1 : decide (l0.length < 1) = false:=decide_eq_false (by omega)
 clear c2
 by_cases c3 : 0 < (l0.length : Int)
 rotate_left
 ·rw [if_neg c3] at H
  exact absurd H (by simp)
 rw [if_pos c3] at H
 have c3b0 : decide (0 < (l0.length : Int)) = true:=decide_eq_true c3
 have c3b1 : decide (0 < l0.length) = true:=decide_eq_true (by omega)
 clear c3
 have H':=Aside0.mk H
 clear H
 have p148 : 0 ≤ (0 : Int):=(by omega)
 have q148 : 0 < (l0.length : Int):=od
 obtain ⟨ad148,e148,hx148_0⟩:=Kd.at_int HR0.out 0 p148 q148
 cases e148
 have qi148 : (0 < l0.length) = True:=eq_true (by omega)
 (try rw [show ((0 : Int)).toNat = 0 from rfl] at hx148_0)
 (try rw [Addr.add_zero'] at hx148_0)
 replace p148:=eq_true p148
 replace q148:=eq_true q148
 go_enter Try.func46,Try.ntmps46
 go_wp2
 go_loopg [3,4] k (fun kq v3 v4 w'=>∃ (x3_1 : Int) (x4_1 : Int),v3 = .int .i64 x3_1 ∧ v4 = .int .i64 x4_1 ∧ Aside0 (slices_Max_int_int.l0 kq l0 x3_1 x4_1 = some r) ∧ Aside0 (kq ≤ k) ∧ Aside0 (Below w.heap.size w w'))
 case atStart=>exact ⟨(rd l0 0),(1),fd,fd,H',⟨Nat.le_refl _⟩,⟨hm HB.out⟩⟩
 clear H'
 clear c2b0 c2b1 c3b0 c3b1 hx148_0 p148 q148
 obtain ⟨x3_1,x4_1,rfl,rfl,HA,HK1,HB⟩:=hrel
 cases gk with
 | zero=>exact absurd HA.out (by simp [slices_Max_int_int.l0])
 | succ k1 =>
  have H:=HA.out
  clear HA
  simp only [slices_Max_int_int.l0] at H
  by_cases c4 : x4_1 < (l0.length : Int)
  rotate_left
  ·rw [if_neg c4] at H
   have c4b0 : decide (x4_1 < (l0.length : Int)) = false:=decide_eq_false c4
   clear c4
   obtain rfl:=Option.some.inj H
   go_wp2
   go_ret
   exact ⟨fe,hm HB.out⟩
  rw [if_pos c4] at H
  have c4b0 : decide (x4_1 < (l0.length : Int)) = true:=decide_eq_true c4
  clear c4
  by_cases c5 : 0 ≤ x4_1
  rotate_left
  ·rw [if_neg c5] at H
   exact absurd H (by simp)
  rw [if_pos c5] at H
  have c5b0 : decide (0 ≤ x4_1) = true:=decide_eq_true c5
  clear c5
  obtain ⟨ji6,hji6⟩ : ∃ j_ : Int,(mx x3_1 (rd l0 x4_1)) = j_:=⟨_,rfl⟩
  replace H : (slices_Max_int_int.l0 k1 l0 ji6 (wrap64 (x4_1 + 1))) = some r:=by first|(rw [hji6] at H;exact H)|(simp only [hji6] at H ⊢;exact H)
  have hji6_ : (if x3_1 < (rd l0 x4_1) then (rd l0 x4_1) else x3_1) = ji6:=hji6
  have H':=Aside0.mk H
  clear H
  have p149 : 0 ≤ (x4_1 : Int):=od
  have q149 : x4_1 < (l0.length : Int):=od
  obtain ⟨ad149,e149,hx149_0⟩:=Kd.at_int HR0.out x4_1 p149 q149
  obtain rfl : ad148 = ad149:=(by injection e149)
  replace hx149_0:=(HB.out.cell (World.block_lt_of_cell? w _ hx149_0)).trans hx149_0
  replace p149:=eq_true p149
  replace q149:=eq_true q149
  go_wp2
  go_roundg k1
  case measure=>have:=HK1.out;omega
  case rel=>exact ⟨(ji6),(wrap64 (x4_1 + 1)),(by first|rfl|(simp;done)|(simp only [← hji6] <;> (fail))|(simp [*];done)),fd,H',⟨by have:=HK1.out;omega⟩,⟨hm HB.out⟩⟩

/-! ### impl_Wire_shades: function 47 -/
def impl_Wire_shades.l0 : Nat → List Int → List Int → Int → Int → Int → List Int → List Int → Option (List Int)
 | 0,_,_,_,_,_,_,_=>none
 | k + 1,x3,x8,x9,x10,x151000,x151001,x151002=>if x10 < x9 then (if 0 ≤ x10 then (if x10 < (x8.length : Int) then (if x10 < (x151002.length : Int) then (if (rd x151002 x10) < 0 then (if x3.length < 17592186044416 then (impl_Wire_shades.l0 k (x3 ++ [rd x8 x10]) x8 x9 (wrap64 (x10 + 1)) x151000 x151001 x151002) else (none)) else (if x3.length < 17592186044416 then (impl_Wire_shades.l0 k (x3 ++ [wrap64 (x151000 - (rd x8 x10))]) x8 x9 (wrap64 (x10 + 1)) x151000 x151001 x151002) else (none))) else (none)) else (none)) else (none)) else (some x3)
def impl_Wire_shades.f (k : Nat) (a0_0 : Int) (l0_1 : List Int) (l0_2 : List Int) : Option (List Int):=impl_Wire_shades.l0 k (([] : List Int)) l0_1 (l0_1.length : Int) 0 a0_0 l0_1 l0_2
theorem impl_Wire_shades.mono_l : ∀ k,(∀ y0 y1 y2 y3 y4 y5 y6,LeO (impl_Wire_shades.l0 k y0 y1 y2 y3 y4 y5 y6) (impl_Wire_shades.l0 (k + 1) y0 y1 y2 y3 y4 y5 y6))
 | 0=>by
  refine ?_<;>(intros;intro r h;simp [impl_Wire_shades.l0] at h)
 | k + 1=>by
  have ih0:=impl_Wire_shades.mono_l k
  refine ?_<;>intros<;>(first|unfold impl_Wire_shades.l0)<;>(repeat' first|(with_reducible exact ih0 ..)|(with_reducible exact LeO.refl _)|(with_reducible exact LeO.none _)|(with_reducible refine LeO.ite ?_ ?_)|(with_reducible refine LeO.bind ?_ (fun _=>?_))|exact ih0 ..|exact LeO.none _|refine LeO.ite ?_ ?_|refine LeO.bind ?_ (fun _=>?_))
theorem impl_Wire_shades.mono : ∀ a0 a1 a2 k,LeO (impl_Wire_shades.f k a0 a1 a2) (impl_Wire_shades.f (k + 1) a0 a1 a2):=by
 intro a0 a1 a2 k
 have ih0:=impl_Wire_shades.mono_l k
 unfold impl_Wire_shades.f
 repeat' first
   | (with_reducible exact ih0 _ _ _ _ _ _ _)
   | (with_reducible exact LeO.refl _)
   | (with_reducible exact LeO.none _)
   | (with_reducible refine LeO.ite ?_ ?_)
   | (with_reducible refine LeO.bind ?_ (fun _=>?_))
   | exact ih0 _ _ _ _ _ _ _
   | exact LeO.none _
   | refine LeO.ite ?_ ?_
   | refine LeO.bind ?_ (fun _=>?_)
set_option maxHeartbeats 8000000 in
set_option maxRecDepth 100000 in
theorem impl_Wire_shades.calls (k : Nat) (a0_0 : Int) (A0_1 : Option Addr) (c0_1 : Nat) (l0_1 : List Int) (A0_2 : Option Addr) (c0_2 : Nat) (l0_2 : List Int) (r : List Int) (w : World) (hr0_1 : Kd.C (Kd.int .i64) w A0_1 l0_1.length l0_1) (hc0_1 : l0_1.length ≤ c0_1) (hr0_2 : Kd.C (Kd.int .i64) w A0_2 l0_2.length l0_2) (hc0_2 : l0_2.length ≤ c0_2) (h : impl_Wire_shades.f k a0_0 l0_1 l0_2 = some r) :
  Calls Try.prog 47 #[.agg #[.int .i64 a0_0,.slice A0_1 l0_1.length c0_1,.slice A0_2 l0_2.length c0_2]] w fun e w'=>∃ v0_ : Value,e = .returned (v0_) ∧ Kd.R (Kd.int .i64) 3 w' w.heap.size (fun _=>True) v0_ r ∧ Below w.heap.size w w':=by
 have hu27:=Try.underlying27
 have HR0_1:=Aside0.mk hr0_1
 have HC0_1:=Aside0.mk hc0_1
 clear hr0_1 hc0_1
 have HR0_2:=Aside0.mk hr0_2
 have HC0_2:=Aside0.mk hc0_2
 clear hr0_2 hc0_2
 have HB:=Aside0.mk (Below.refl w.heap.size w)
 have H : (impl_Wire_shades.l0 k (([] : List Int)) l0_1 (l0_1.length : Int) 0 a0_0 l0_1 l0_2) = some r:=h
 clear h
 obtain ⟨y151,hy151⟩ : ∃ y_ : List Int,y_ = (([] : List Int)):=⟨_,rfl⟩
 replace H : (impl_Wire_shades.l0 k y151 l0_1 (l0_1.length : Int) 0 a0_0 l0_1 l0_2) = some r:=by first|(rw [hy151];with_reducible exact H)|(have H2_:=(Option.bind_some _ _).symm.trans H;rw [hy151];with_reducible exact H2_)|(have H2_:=(Option.bind_some _ _).symm.trans H;with_reducible exact H2_)|with_reducible exact H|(rw [hy151];exact H)|exact H
 have Ny151:=Aside0.mk hy151
 clear hy151
 have H':=Aside0.mk H
 clear H
 go_enter Try.func47,Try.ntmps47
 go_wp2_with (first|((with_reducible refine gate_dst (N:=1) rfl ?_);refine box_event ?hg (N:=1) ?hd (cs:=#[.int .i64 a0_0,.slice A0_1 l0_1.length c0_1,.slice A0_2 l0_2.length c0_2]) (t:=27) ?hr ?_;(case hd=>rfl);(case hg=>rfl);(case hr=>first|(go_simp;done)|(go_simp;rfl));intro gb150 hg w2 hbox hb;have BK150:=ak hbox;have GW150:=ak ((by rw [hg];exact (below_size (hm HB.out)) : w.heap.size ≤ gb150));have GE150:=ak ((by rw [hg];exact (below_size (hm HB.out)) : w.heap.size ≤ gb150));replace HB:=bs HB hb;clear hb hbox hg)|((with_reducible refine gate_dst (N:=6) rfl ?_);refine R_lit (Kd.int .i64) _ 3 ?hg (N:=6) ?hd (xs:=([] : List Int)) (inner:=[]) (ok:=fun _=>True) (okp:=fun _=>True) ?hr ?hp (fun _ hk=>hk) trivial (Below.refl _ _) (Nat.le_refl _) (by simp) ?_;(case hd=>rfl);(case hg=>rfl);(case hr=>first|(go_simp;done)|(go_simp;rfl));(case hp=>exact (Reps.none _ _));intro v152 w3 ho4 hb hg_ hnew_;clear hg_ hnew_;(rw [← Ny151.out] at ho4);have HO153:=ak (R_lower ho4 (below_size (h1 HB.out GE150.out)));replace BK150:=kb BK150 hb;replace HB:=ak (below_step (h1 HB.out GE150.out) hb);clear hb ho4;have hcz5_0 : w3.cell? ⟨gb150,0,none⟩ = some (.int .i64 a0_0):=(blk_cell BK150.out 0).trans rfl;have hcz5_1 : w3.cell? ⟨gb150,1,none⟩ = some (.slice A0_1 l0_1.length c0_1):=(blk_cell BK150.out 1).trans rfl;have hcz5_2 : w3.cell? ⟨gb150,2,none⟩ = some (.slice A0_2 l0_2.length c0_2):=(blk_cell BK150.out 2).trans rfl;have hfz5_0:=blk_frozen BK150.out 0;have hfz5_1:=blk_frozen BK150.out 1;have hfz5_2:=blk_frozen BK150.out 2))
 go_loopg [3,10] k (fun kq v3 v10 w'=>∃ (x3_1 : List Int) (x10_1 : Int),v10 = .int .i64 x10_1 ∧ Aside0 (impl_Wire_shades.l0 kq x3_1 l0_1 (l0_1.length : Int) x10_1 a0_0 l0_1 l0_2 = some r) ∧ Aside0 (kq ≤ k) ∧ Aside0 (Kd.R (Kd.int .i64) 3 w' w.heap.size (fun _=>True) v3 x3_1) ∧ Aside0 (w'.heap[gb150]? = some (.cells #[.int .i64 a0_0,(.slice A0_1 l0_1.length c0_1),(.slice A0_2 l0_2.length c0_2)] 27 (0,0))) ∧ Aside0 (Below w.heap.size w w'))
 case atStart=>exact ⟨(y151),(0),fd,H',⟨Nat.le_refl _⟩,⟨rm HO153.out⟩,⟨bm BK150.out⟩,⟨h1 HB.out GE150.out⟩⟩
 clear H'
 clear hcz5_0 hcz5_1 hcz5_2 hfz5_0 hfz5_1 hfz5_2
 obtain ⟨x3_1,x10_1,rfl,HA,HK1,HO_3,BK150,HB⟩:=hrel
 cases gk with
 | zero=>exact absurd HA.out (by simp [impl_Wire_shades.l0])
 | succ k1 =>
  have H:=HA.out
  clear HA
  simp only [impl_Wire_shades.l0] at H
  by_cases c6 : x10_1 < (l0_1.length : Int)
  rotate_left
  ·rw [if_neg c6] at H
   have c6b0 : decide (x10_1 < (l0_1.length : Int)) = false:=decide_eq_false c6
   clear c6
   obtain rfl:=Option.some.inj H
   go_wp2
   go_ret
   exact ⟨_,fe,rm HO_3.out,h1 HB.out GE150.out⟩
  rw [if_pos c6] at H
  have c6b0 : decide (x10_1 < (l0_1.length : Int)) = true:=decide_eq_true c6
  clear c6
  by_cases c7 : 0 ≤ x10_1
  rotate_left
  ·rw [if_neg c7] at H
   exact absurd H (by simp)
  rw [if_pos c7] at H
  have c7b0 : decide (0 ≤ x10_1) = true:=decide_eq_true c7
  clear c7
  by_cases c8 : x10_1 < (l0_1.length : Int)
  rotate_left
  ·rw [if_neg c8] at H
   exact absurd H (by simp)
  rw [if_pos c8] at H
  have c8b0 : decide (x10_1 < (l0_1.length : Int)) = true:=decide_eq_true c8
  clear c8
  by_cases c9 : x10_1 < (l0_2.length : Int)
  rotate_left
  ·rw [if_neg c9] at H
   exact absurd H (by simp)
  rw [if_pos c9] at H
  have c9b0 : decide (x10_1 < (l0_2.length : Int)) = true:=decide_eq_true c9
  clear c9
  by_cases c10 : (rd l0_2 x10_1) < 0
  ·rw [if_pos c10] at H
   have c10b0 : decide ((rd l0_2 x10_1) < 0) = true:=decide_eq_true c10
   clear c10
   by_cases c11 : x3_1.length < 17592186044416
   rotate_left
   ·rw [if_neg c11] at H
    exact absurd H (by simp)
   rw [if_pos c11] at H
   have LMc11:=Aside0.mk c11
   clear c11
   obtain ⟨y156,hy156⟩ : ∃ y_ : List Int,y_ = (x3_1 ++ [rd l0_1 x10_1]):=⟨_,rfl⟩
   replace H : (impl_Wire_shades.l0 k1 y156 l0_1 (l0_1.length : Int) (wrap64 (x10_1 + 1)) a0_0 l0_1 l0_2) = some r:=by first|(rw [hy156];with_reducible exact H)|(have H2_:=(Option.bind_some _ _).symm.trans H;rw [hy156];with_reducible exact H2_)|(have H2_:=(Option.bind_some _ _).symm.trans H;with_reducible exact H2_)|with_reducible exact H|(rw [hy156];exact H)|exact H
   have Ny156:=Aside0.mk hy156
   clear hy156
   have H':=Aside0.mk H
   clear H
   have p154 : 0 ≤ (x10_1 : Int):=od
   have q154 : x10_1 < (l0_1.length : Int):=od
   obtain ⟨ad154,e154,hx154_0⟩:=Kd.at_int HR0_1.out x10_1 p154 q154
   cases e154
   replace hx154_0:=(HB.out.cell (World.block_lt_of_cell? w _ hx154_0)).trans hx154_0
   replace p154:=eq_true p154
   replace q154:=eq_true q154
   have hcz12_0 : wr.cell? ⟨gb150,0,none⟩ = some (.int .i64 a0_0):=(blk_cell BK150.out 0).trans rfl
   have hcz12_1 : wr.cell? ⟨gb150,1,none⟩ = some (.slice (some ad154) l0_1.length c0_1):=(blk_cell BK150.out 1).trans rfl
   have hcz12_2 : wr.cell? ⟨gb150,2,none⟩ = some (.slice A0_2 l0_2.length c0_2):=(blk_cell BK150.out 2).trans rfl
   have hfz12_0:=blk_frozen BK150.out 0
   have hfz12_1:=blk_frozen BK150.out 1
   have hfz12_2:=blk_frozen BK150.out 2
   have p155 : 0 ≤ (x10_1 : Int):=od
   have q155 : x10_1 < (l0_2.length : Int):=od
   obtain ⟨ad155,e155,hx155_0⟩:=Kd.at_int HR0_2.out x10_1 p155 q155
   cases e155
   replace hx155_0:=(HB.out.cell (World.block_lt_of_cell? w _ hx155_0)).trans hx155_0
   replace p155:=eq_true p155
   replace q155:=eq_true q155
   go_wp2_with (((with_reducible refine gate_builtin (b:=.append) (xs:=#[.tmp 21,.tmp 23]) rfl ?_);at_builtin;refine R_append (Kd.int .i64) (w0:=w) w.heap.size rfl (.tmp 21) (.tmp 23) 22 3 (.int .i64 0) 8 rfl Try.underlying22 info3 rfl (by decide) (by omega) u3 x3_1 (rd l0_1 x10_1) [.int .i64 (rd l0_1 x10_1)] (fun _=>True) (fun _=>False) rfl rfl ?aP (fun _ hk=>hk.elim) ?aF ?aO ?aB ?aS ?aL ?_;(case aP=>exact rfl);(case aB=>exact (h1 HB.out GE150.out));(case aF=>exact (fun _ _=>trivial));(case aO=>exact (rm HO_3.out));(case aS=>exact (below_size (h1 HB.out GE150.out)));(case aL=>have:=LMc11.out;omega);intro v157 w13 ho hb hg hat;rw [← Ny156.out] at ho;replace BK150:=ak (blk_grown (g:=gb150) (o:=.cells #[.int .i64 a0_0,.slice (some ad154) l0_1.length c0_1,.slice (some ad155) l0_2.length c0_2] 27 (0,0)) (bm BK150.out) hg (R_ne HO_3.out BK150.out (by decide)));replace HB:=ak hb;have HO158:=ak ho;clear HO_3;clear ho hb hg hat))
   go_roundg k1
   case measure=>have:=HK1.out;omega
   case rel=>exact ⟨(y156),(wrap64 (x10_1 + 1)),fd,H',⟨by have:=HK1.out;omega⟩,⟨rm HO158.out⟩,⟨bm BK150.out⟩,⟨h1 HB.out GE150.out⟩⟩
  rw [if_neg c10] at H
  have c10b0 : decide ((rd l0_2 x10_1) < 0) = false:=decide_eq_false c10
  clear c10
  by_cases c14 : x3_1.length < 17592186044416
  rotate_left
  ·rw [if_neg c14] at H
   exact absurd H (by simp)
  rw [if_pos c14] at H
  have LMc14:=Aside0.mk c14
  clear c14
  obtain ⟨y159,hy159⟩ : ∃ y_ : List Int,y_ = (x3_1 ++ [wrap64 (a0_0 - (rd l0_1 x10_1))]):=⟨_,rfl⟩
  replace H : (impl_Wire_shades.l0 k1 y159 l0_1 (l0_1.length : Int) (wrap64 (x10_1 + 1)) a0_0 l0_1 l0_2) = some r:=by first|(rw [hy159];with_reducible exact H)|(have H2_:=(Option.bind_some _ _).symm.trans H;rw [hy159];with_reducible exact H2_)|(have H2_:=(Option.bind_some _ _).symm.trans H;with_reducible exact H2_)|with_reducible exact H|(rw [hy159];exact H)|exact H
  have Ny159:=Aside0.mk hy159
  clear hy159
  have H':=Aside0.mk H
  clear H
  have p154 : 0 ≤ (x10_1 : Int):=od
  have q154 : x10_1 < (l0_1.length : Int):=od
  obtain ⟨ad154,e154,hx154_0⟩:=Kd.at_int HR0_1.out x10_1 p154 q154
  cases e154
  replace hx154_0:=(HB.out.cell (World.block_lt_of_cell? w _ hx154_0)).trans hx154_0
  replace p154:=eq_true p154
  replace q154:=eq_true q154
  have hcz15_0 : wr.cell? ⟨gb150,0,none⟩ = some (.int .i64 a0_0):=(blk_cell BK150.out 0).trans rfl
  have hcz15_1 : wr.cell? ⟨gb150,1,none⟩ = some (.slice (some ad154) l0_1.length c0_1):=(blk_cell BK150.out 1).trans rfl
  have hcz15_2 : wr.cell? ⟨gb150,2,none⟩ = some (.slice A0_2 l0_2.length c0_2):=(blk_cell BK150.out 2).trans rfl
  have hfz15_0:=blk_frozen BK150.out 0
  have hfz15_1:=blk_frozen BK150.out 1
  have hfz15_2:=blk_frozen BK150.out 2
  have p155 : 0 ≤ (x10_1 : Int):=od
  have q155 : x10_1 < (l0_2.length : Int):=od
  obtain ⟨ad155,e155,hx155_0⟩:=Kd.at_int HR0_2.out x10_1 p155 q155
  cases e155
  replace hx155_0:=(HB.out.cell (World.block_lt_of_cell? w _ hx155_0)).trans hx155_0
  replace p155:=eq_true p155
  replace q155:=eq_true q155
  go_wp2_with (((with_reducible refine gate_builtin (b:=.append) (xs:=#[.tmp 25,.tmp 30]) rfl ?_);at_builtin;refine R_append (Kd.int .i64) (w0:=w) w.heap.size rfl (.tmp 25) (.tmp 30) 22 3 (.int .i64 0) 8 rfl Try.underlying22 info3 rfl (by decide) (by omega) u3 x3_1 (wrap64 (a0_0 - (rd l0_1 x10_1))) [.int .i64 (wrap64 (a0_0 - (rd l0_1 x10_1)))] (fun _=>True) (fun _=>False) rfl rfl ?aP (fun _ hk=>hk.elim) ?aF ?aO ?aB ?aS ?aL ?_;(case aP=>exact rfl);(case aB=>exact (h1 HB.out GE150.out));(case aF=>exact (fun _ _=>trivial));(case aO=>exact (rm HO_3.out));(case aS=>exact (below_size (h1 HB.out GE150.out)));(case aL=>have:=LMc14.out;omega);intro v160 w16 ho hb hg hat;rw [← Ny159.out] at ho;replace BK150:=ak (blk_grown (g:=gb150) (o:=.cells #[.int .i64 a0_0,.slice (some ad154) l0_1.length c0_1,.slice (some ad155) l0_2.length c0_2] 27 (0,0)) (bm BK150.out) hg (R_ne HO_3.out BK150.out (by decide)));replace HB:=ak hb;have HO161:=ak ho;clear HO_3;clear ho hb hg hat))
  go_roundg k1
  case measure=>have:=HK1.out;omega
  case rel=>exact ⟨(y159),(wrap64 (x10_1 + 1)),fd,H',⟨by have:=HK1.out;omega⟩,⟨rm HO161.out⟩,⟨bm BK150.out⟩,⟨h1 HB.out GE150.out⟩⟩

/-! ### impl_LastFall: function 19 -/
def impl_LastFall.f (k : Nat) (a0_0 : Int) (l0_1 : List Int) (l0_2 : List Int) : Option (Int × Bool):=(impl_IsWire.f k a0_0 l0_1 l0_2).bind fun t163=>(if t163 = true then ((impl_Wire_shades.f k a0_0 l0_1 l0_2).bind fun t164=>(if t164.length < 17592186044416 then ((slices_Max_int_int.f k (t164 ++ [0])).bind fun t170=>(some (t170,true))) else (none))) else (some (0,false)))
theorem impl_LastFall.mono : ∀ a0 a1 a2 k,LeO (impl_LastFall.f k a0 a1 a2) (impl_LastFall.f (k + 1) a0 a1 a2):=by
 intro a0 a1 a2 k
 unfold impl_LastFall.f
 repeat' first
   | (with_reducible exact impl_IsWire.mono _ _ _ _)
   | (with_reducible exact impl_Wire_shades.mono _ _ _ _)
   | (with_reducible exact slices_Max_int_int.mono _ _)
   | (with_reducible exact LeO.refl _)
   | (with_reducible exact LeO.none _)
   | (with_reducible refine LeO.ite ?_ ?_)
   | (with_reducible refine LeO.bind ?_ (fun _=>?_))
   | exact impl_IsWire.mono _ _ _ _
   | exact impl_Wire_shades.mono _ _ _ _
   | exact slices_Max_int_int.mono _ _
   | exact LeO.none _
   | refine LeO.ite ?_ ?_
   | refine LeO.bind ?_ (fun _=>?_)
set_option maxHeartbeats 8000000 in
set_option maxRecDepth 100000 in
theorem impl_LastFall.calls (k : Nat) (a0_0 : Int) (A0_1 : Option Addr) (c0_1 : Nat) (l0_1 : List Int) (A0_2 : Option Addr) (c0_2 : Nat) (l0_2 : List Int) (r1 : Int) (r2 : Bool) (w : World) (hr0_1 : Kd.C (Kd.int .i64) w A0_1 l0_1.length l0_1) (hc0_1 : l0_1.length ≤ c0_1) (hr0_2 : Kd.C (Kd.int .i64) w A0_2 l0_2.length l0_2) (hc0_2 : l0_2.length ≤ c0_2) (h : impl_LastFall.f k a0_0 l0_1 l0_2 = some (r1,r2)) :
  Calls Try.prog 19 #[.agg #[.int .i64 a0_0,.slice A0_1 l0_1.length c0_1,.slice A0_2 l0_2.length c0_2]] w fun e w'=>e = .returned (.tuple #[.int .i64 r1,.bool r2]) ∧ Below w.heap.size w w':=by
 have hu27:=Try.underlying27
 have HR0_1:=Aside0.mk hr0_1
 have HC0_1:=Aside0.mk hc0_1
 clear hr0_1 hc0_1
 have HR0_2:=Aside0.mk hr0_2
 have HC0_2:=Aside0.mk hc0_2
 clear hr0_2 hc0_2
 have HB:=Aside0.mk (Below.refl w.heap.size w)
 have H : ((impl_IsWire.f k a0_0 l0_1 l0_2).bind fun t163=>(if t163 = true then ((impl_Wire_shades.f k a0_0 l0_1 l0_2).bind fun t164=>(if t164.length < 17592186044416 then ((slices_Max_int_int.f k (t164 ++ [0])).bind fun t170=>(some (t170,true))) else (none))) else (some (0,false)))) = some (r1,r2):=h
 clear h
 replace H:=Option.bind_eq_some_iff.mp H
 obtain ⟨t163,A20,H⟩:=H
 have A2:=Aside0.mk A20
 clear A20
 by_cases c3 : t163 = true
 rotate_left
 ·replace c3:=Bool.eq_false_iff.mpr c3
  subst c3
  rw [if_neg (show ¬ (false = true) by decide)] at H
  simp only [Option.some.injEq,Prod.mk.injEq] at H
  obtain ⟨rfl,rfl⟩:=H
  go_enter Try.func19,Try.ntmps19
  go_wp2_with (first|((with_reducible refine gate_dst (N:=1) rfl ?_);refine box_event ?hg (N:=1) ?hd (cs:=#[.int .i64 a0_0,.slice A0_1 l0_1.length c0_1,.slice A0_2 l0_2.length c0_2]) (t:=27) ?hr ?_;(case hd=>rfl);(case hg=>rfl);(case hr=>first|(go_simp;done)|(go_simp;rfl));intro gb162 hg w15 hbox hb;have BK162:=ak hbox;have GW162:=ak ((by rw [hg];exact (below_size (hm HB.out)) : w.heap.size ≤ gb162));have GE162:=ak ((by rw [hg];exact (below_size (hm HB.out)) : w.heap.size ≤ gb162));replace HB:=bs HB hb;clear hb hbox hg;have hcz16_0 : w15.cell? ⟨gb162,0,none⟩ = some (.int .i64 a0_0):=(blk_cell BK162.out 0).trans rfl;have hcz16_1 : w15.cell? ⟨gb162,1,none⟩ = some (.slice A0_1 l0_1.length c0_1):=(blk_cell BK162.out 1).trans rfl;have hcz16_2 : w15.cell? ⟨gb162,2,none⟩ = some (.slice A0_2 l0_2.length c0_2):=(blk_cell BK162.out 2).trans rfl;have hfz16_0:=blk_frozen BK162.out 0;have hfz16_1:=blk_frozen BK162.out 1;have hfz16_2:=blk_frozen BK162.out 2)|((with_reducible refine gate_callee (f:=14) rfl ?_);refine goesL_ (some 5) rfl rfl Try.func14 (by kernel_rfl) rfl #[.agg #[.int .i64 a0_0,.slice A0_1 l0_1.length c0_1,.slice A0_2 l0_2.length c0_2]] rfl gl ?_;(with_reducible refine (impl_IsWire.calls k a0_0 _ _ l0_1 _ _ l0_2 false _ ?side1 ?side2 ?side3 ?side4 A2.out).mono ?_);(case side1=>exact cm (C_below HR0_1.out HB.out));(case side2=>exact HC0_1.out);(case side3=>exact cm (C_below HR0_2.out HB.out));(case side4=>exact HC0_2.out);rintro e w17 ⟨rfl,hb⟩;refine ⟨_,rfl,?_⟩;replace BK162:=kb BK162 hb;replace HB:=ak (below_step (h1 HB.out GE162.out) hb);(try clear hb)))
  go_ret2
  exact ⟨fe,h1 HB.out GE162.out⟩
 subst c3
 rw [if_pos rfl] at H
 replace H:=Option.bind_eq_some_iff.mp H
 obtain ⟨t164,A40,H⟩:=H
 have A4:=Aside0.mk A40
 clear A40
 by_cases c5 : t164.length < 17592186044416
 rotate_left
 ·rw [if_neg c5] at H
  exact absurd H (by simp)
 rw [if_pos c5] at H
 have LMc5:=Aside0.mk c5
 clear c5
 obtain ⟨y167,hy167⟩ : ∃ y_ : List Int,y_ = (t164 ++ [0]):=⟨_,rfl⟩
 replace H : ((slices_Max_int_int.f k y167).bind fun t170=>(some (t170,true))) = some (r1,r2):=by first|(rw [hy167];with_reducible exact H)|(have H2_:=(Option.bind_some _ _).symm.trans H;rw [hy167];with_reducible exact H2_)|(have H2_:=(Option.bind_some _ _).symm.trans H;with_reducible exact H2_)|with_reducible exact H|(rw [hy167];exact H)|exact H
 have Ny167:=Aside0.mk hy167
 clear hy167
 replace H:=Option.bind_eq_some_iff.mp H
 obtain ⟨t170,A60,H⟩:=H
 have A6:=Aside0.mk A60
 clear A60
 simp only [Option.some.injEq,Prod.mk.injEq] at H
 obtain ⟨rfl,rfl⟩:=H
 go_enter Try.func19,Try.ntmps19
 go_wp2_with (first|((with_reducible refine gate_dst (N:=1) rfl ?_);refine box_event ?hg (N:=1) ?hd (cs:=#[.int .i64 a0_0,.slice A0_1 l0_1.length c0_1,.slice A0_2 l0_2.length c0_2]) (t:=27) ?hr ?_;(case hd=>rfl);(case hg=>rfl);(case hr=>first|(go_simp;done)|(go_simp;rfl));intro gb162 hg w7 hbox hb;have BK162:=ak hbox;have GW162:=ak ((by rw [hg];exact (below_size (hm HB.out)) : w.heap.size ≤ gb162));have GE162:=ak ((by rw [hg];exact (below_size (hm HB.out)) : w.heap.size ≤ gb162));replace HB:=bs HB hb;clear hb hbox hg;have hcz8_0 : w7.cell? ⟨gb162,0,none⟩ = some (.int .i64 a0_0):=(blk_cell BK162.out 0).trans rfl;have hcz8_1 : w7.cell? ⟨gb162,1,none⟩ = some (.slice A0_1 l0_1.length c0_1):=(blk_cell BK162.out 1).trans rfl;have hcz8_2 : w7.cell? ⟨gb162,2,none⟩ = some (.slice A0_2 l0_2.length c0_2):=(blk_cell BK162.out 2).trans rfl;have hfz8_0:=blk_frozen BK162.out 0;have hfz8_1:=blk_frozen BK162.out 1;have hfz8_2:=blk_frozen BK162.out 2)|((with_reducible refine gate_callee (f:=14) rfl ?_);refine goesL_ (some 5) rfl rfl Try.func14 (by kernel_rfl) rfl #[.agg #[.int .i64 a0_0,.slice A0_1 l0_1.length c0_1,.slice A0_2 l0_2.length c0_2]] rfl gl ?_;(with_reducible refine (impl_IsWire.calls k a0_0 _ _ l0_1 _ _ l0_2 true _ ?side1 ?side2 ?side3 ?side4 A2.out).mono ?_);(case side1=>exact cm (C_below HR0_1.out HB.out));(case side2=>exact HC0_1.out);(case side3=>exact cm (C_below HR0_2.out HB.out));(case side4=>exact HC0_2.out);rintro e w9 ⟨rfl,hb⟩;refine ⟨_,rfl,?_⟩;replace BK162:=kb BK162 hb;replace HB:=ak (below_step (h1 HB.out GE162.out) hb);(try clear hb);have hcz10_0 : w9.cell? ⟨gb162,0,none⟩ = some (.int .i64 a0_0):=(blk_cell BK162.out 0).trans rfl;have hcz10_1 : w9.cell? ⟨gb162,1,none⟩ = some (.slice A0_1 l0_1.length c0_1):=(blk_cell BK162.out 1).trans rfl;have hcz10_2 : w9.cell? ⟨gb162,2,none⟩ = some (.slice A0_2 l0_2.length c0_2):=(blk_cell BK162.out 2).trans rfl;have hfz10_0:=blk_frozen BK162.out 0;have hfz10_1:=blk_frozen BK162.out 1;have hfz10_2:=blk_frozen BK162.out 2)|((with_reducible refine gate_callee (f:=47) rfl ?_);refine goesL_ (some 8) rfl rfl Try.func47 (by kernel_rfl) rfl #[.agg #[.int .i64 a0_0,.slice A0_1 l0_1.length c0_1,.slice A0_2 l0_2.length c0_2]] rfl gl ?_;(with_reducible refine (impl_Wire_shades.calls k a0_0 _ _ l0_1 _ _ l0_2 t164 _ ?side1 ?side2 ?side3 ?side4 A4.out).mono ?_);(case side1=>exact cm (C_below HR0_1.out HB.out));(case side2=>exact HC0_1.out);(case side3=>exact cm (C_below HR0_2.out HB.out));(case side4=>exact HC0_2.out);rintro e w11 ⟨v165,rfl,ho0,hb⟩;refine ⟨_,rfl,?_⟩;have HO166:=ak (R_lower ho0 (below_size (h1 HB.out GE162.out)));replace BK162:=kb BK162 hb;replace HB:=ak (below_step (h1 HB.out GE162.out) hb);(try clear hb);(try clear ho0))|((with_reducible refine gate_builtin (b:=.append) (xs:=#[.tmp 8,.tmp 9]) rfl ?_);at_builtin;refine R_append (Kd.int .i64) (w0:=w) w.heap.size rfl (.tmp 8) (.tmp 9) 22 3 (.int .i64 0) 8 rfl Try.underlying22 info3 rfl (by decide) (by omega) v165 t164 0 [.int .i64 0] (fun _=>True) (fun _=>False) rfl rfl ?aP (fun _ hk=>hk.elim) ?aF ?aO ?aB ?aS ?aL ?_;(case aP=>exact rfl);(case aB=>exact (h1 HB.out GE162.out));(case aF=>exact (fun _ _=>trivial));(case aO=>exact (rm HO166.out));(case aS=>exact (below_size (h1 HB.out GE162.out)));(case aL=>have:=LMc5.out;omega);intro v168 w12 ho hb hg hat;rw [← Ny167.out] at ho;replace BK162:=ak (blk_grown (g:=gb162) (o:=.cells #[.int .i64 a0_0,.slice A0_1 l0_1.length c0_1,.slice A0_2 l0_2.length c0_2] 27 (0,0)) (bm BK162.out) hg (R_ne HO166.out BK162.out (by decide)));replace HB:=ak hb;have HO169:=ak ho;clear HO166;clear ho hb hg hat;obtain ⟨Ao13,co13,eo13⟩:=R_slice HO169.out;subst eo13)|((with_reducible refine gate_callee (f:=46) rfl ?_);refine goesL_ (some 11) rfl rfl Try.func46 (by kernel_rfl) rfl #[.slice Ao13 y167.length co13] rfl gl ?_;(with_reducible refine (slices_Max_int_int.calls k _ _ y167 t170 _ ?side1 ?side2 A6.out).mono ?_);(case side1=>exact cm (R_reads' HO169.out).2.2);(case side2=>exact (R_reads' HO169.out).2.1);rintro e w14 ⟨rfl,hb⟩;refine ⟨_,rfl,?_⟩;replace HO169:=rb HO169 hb;replace BK162:=kb BK162 hb;replace HB:=ak (below_step (h1 HB.out GE162.out) hb);(try clear hb)))
 go_ret2
 exact ⟨fe,h1 HB.out GE162.out⟩

/-! ### spec_ShadeTimes: function 20 -/
def spec_ShadeTimes.f (k : Nat) (a0_0 : Int) (l0_1 : List Int) (l0_2 : List Int) : Option (List Int × Bool):=(spec_l8Wire.f k a0_0 l0_1 l0_2).bind fun t172=>(if t172 = true then ((spec_l8Shades.f k a0_0 l0_1 l0_2).bind fun t173=>(some (t173,true))) else (some ((([] : List Int)),false)))
theorem spec_ShadeTimes.mono : ∀ a0 a1 a2 k,LeO (spec_ShadeTimes.f k a0 a1 a2) (spec_ShadeTimes.f (k + 1) a0 a1 a2):=by
 intro a0 a1 a2 k
 unfold spec_ShadeTimes.f
 repeat' first
   | (with_reducible exact spec_l8Shades.mono _ _ _ _)
   | (with_reducible exact spec_l8Wire.mono _ _ _ _)
   | (with_reducible exact LeO.refl _)
   | (with_reducible exact LeO.none _)
   | (with_reducible refine LeO.ite ?_ ?_)
   | (with_reducible refine LeO.bind ?_ (fun _=>?_))
   | exact spec_l8Shades.mono _ _ _ _
   | exact spec_l8Wire.mono _ _ _ _
   | exact LeO.none _
   | refine LeO.ite ?_ ?_
   | refine LeO.bind ?_ (fun _=>?_)
set_option maxHeartbeats 8000000 in
set_option maxRecDepth 100000 in
theorem spec_ShadeTimes.calls (k : Nat) (a0_0 : Int) (A0_1 : Option Addr) (c0_1 : Nat) (l0_1 : List Int) (A0_2 : Option Addr) (c0_2 : Nat) (l0_2 : List Int) (r1 : List Int) (r2 : Bool) (w : World) (hr0_1 : Kd.C (Kd.int .i64) w A0_1 l0_1.length l0_1) (hc0_1 : l0_1.length ≤ c0_1) (hr0_2 : Kd.C (Kd.int .i64) w A0_2 l0_2.length l0_2) (hc0_2 : l0_2.length ≤ c0_2) (h : spec_ShadeTimes.f k a0_0 l0_1 l0_2 = some (r1,r2)) :
  Calls Try.prog 20 #[.agg #[.int .i64 a0_0,.slice A0_1 l0_1.length c0_1,.slice A0_2 l0_2.length c0_2]] w fun e w'=>∃ v0_ : Value,e = .returned (.tuple #[v0_,.bool r2]) ∧ Kd.R (Kd.int .i64) 3 w' w.heap.size (fun _=>True) v0_ r1 ∧ Below w.heap.size w w':=by
 have hu27:=Try.underlying27
 have HR0_1:=Aside0.mk hr0_1
 have HC0_1:=Aside0.mk hc0_1
 clear hr0_1 hc0_1
 have HR0_2:=Aside0.mk hr0_2
 have HC0_2:=Aside0.mk hc0_2
 clear hr0_2 hc0_2
 have HB:=Aside0.mk (Below.refl w.heap.size w)
 have H : ((spec_l8Wire.f k a0_0 l0_1 l0_2).bind fun t172=>(if t172 = true then ((spec_l8Shades.f k a0_0 l0_1 l0_2).bind fun t173=>(some (t173,true))) else (some ((([] : List Int)),false)))) = some (r1,r2):=h
 clear h
 replace H:=Option.bind_eq_some_iff.mp H
 obtain ⟨t172,A20,H⟩:=H
 have A2:=Aside0.mk A20
 clear A20
 by_cases c3 : t172 = true
 rotate_left
 ·replace c3:=Bool.eq_false_iff.mpr c3
  subst c3
  rw [if_neg (show ¬ (false = true) by decide)] at H
  obtain ⟨y176,hy176⟩ : ∃ y_ : List Int,y_ = (([] : List Int)):=⟨_,rfl⟩
  replace H : (some (y176,false)) = some (r1,r2):=by first|(rw [hy176];with_reducible exact H)|(have H2_:=(Option.bind_some _ _).symm.trans H;rw [hy176];with_reducible exact H2_)|(have H2_:=(Option.bind_some _ _).symm.trans H;with_reducible exact H2_)|with_reducible exact H|(rw [hy176];exact H)|exact H
  have Ny176:=Aside0.mk hy176
  clear hy176
  simp only [Option.some.injEq,Prod.mk.injEq] at H
  obtain ⟨rfl,rfl⟩:=H
  go_enter Try.func20,Try.ntmps20
  go_wp2_with (first|((with_reducible refine gate_dst (N:=1) rfl ?_);refine box_event ?hg (N:=1) ?hd (cs:=#[.int .i64 a0_0,.slice A0_1 l0_1.length c0_1,.slice A0_2 l0_2.length c0_2]) (t:=27) ?hr ?_;(case hd=>rfl);(case hg=>rfl);(case hr=>first|(go_simp;done)|(go_simp;rfl));intro gb171 hg w10 hbox hb;have BK171:=ak hbox;have GW171:=ak ((by rw [hg];exact (below_size (hm HB.out)) : w.heap.size ≤ gb171));have GE171:=ak ((by rw [hg];exact (below_size (hm HB.out)) : w.heap.size ≤ gb171));replace HB:=bs HB hb;clear hb hbox hg;have hcz11_0 : w10.cell? ⟨gb171,0,none⟩ = some (.int .i64 a0_0):=(blk_cell BK171.out 0).trans rfl;have hcz11_1 : w10.cell? ⟨gb171,1,none⟩ = some (.slice A0_1 l0_1.length c0_1):=(blk_cell BK171.out 1).trans rfl;have hcz11_2 : w10.cell? ⟨gb171,2,none⟩ = some (.slice A0_2 l0_2.length c0_2):=(blk_cell BK171.out 2).trans rfl;have hfz11_0:=blk_frozen BK171.out 0;have hfz11_1:=blk_frozen BK171.out 1;have hfz11_2:=blk_frozen BK171.out 2)|((with_reducible refine gate_callee (f:=40) rfl ?_);refine goesL_ (some 5) rfl rfl Try.func40 (by kernel_rfl) rfl #[.agg #[.int .i64 a0_0,.slice A0_1 l0_1.length c0_1,.slice A0_2 l0_2.length c0_2]] rfl gl ?_;(with_reducible refine (spec_l8Wire.calls k a0_0 _ _ l0_1 _ _ l0_2 false _ ?side1 ?side2 ?side3 ?side4 A2.out).mono ?_);(case side1=>exact cm (C_below HR0_1.out HB.out));(case side2=>exact HC0_1.out);(case side3=>exact cm (C_below HR0_2.out HB.out));(case side4=>exact HC0_2.out);rintro e w12 ⟨rfl,hb⟩;refine ⟨_,rfl,?_⟩;replace BK171:=kb BK171 hb;replace HB:=ak (below_step (h1 HB.out GE171.out) hb);(try clear hb))|((with_reducible refine gate_dst (N:=7) rfl ?_);refine R_lit (Kd.int .i64) _ 3 ?hg (N:=7) ?hd (xs:=([] : List Int)) (inner:=[]) (ok:=fun _=>True) (okp:=fun _=>True) ?hr ?hp (fun _ hk=>hk) trivial (Below.refl _ _) (Nat.le_refl _) (by simp) ?_;(case hd=>rfl);(case hg=>rfl);(case hr=>first|(go_simp;done)|(go_simp;rfl));(case hp=>exact (Reps.none _ _));intro v177 w13 ho14 hb hg_ hnew_;clear hg_ hnew_;(rw [← Ny176.out] at ho14);have HO178:=ak (R_lower ho14 (below_size (h1 HB.out GE171.out)));replace BK171:=kb BK171 hb;replace HB:=ak (below_step (h1 HB.out GE171.out) hb);clear hb ho14))
  go_ret2
  exact ⟨_,fe,rm HO178.out,h1 HB.out GE171.out⟩
 subst c3
 rw [if_pos rfl] at H
 replace H:=Option.bind_eq_some_iff.mp H
 obtain ⟨t173,A40,H⟩:=H
 have A4:=Aside0.mk A40
 clear A40
 simp only [Option.some.injEq,Prod.mk.injEq] at H
 obtain ⟨rfl,rfl⟩:=H
 go_enter Try.func20,Try.ntmps20
 go_wp2_with (first|((with_reducible refine gate_dst (N:=1) rfl ?_);refine box_event ?hg (N:=1) ?hd (cs:=#[.int .i64 a0_0,.slice A0_1 l0_1.length c0_1,.slice A0_2 l0_2.length c0_2]) (t:=27) ?hr ?_;(case hd=>rfl);(case hg=>rfl);(case hr=>first|(go_simp;done)|(go_simp;rfl));intro gb171 hg w5 hbox hb;have BK171:=ak hbox;have GW171:=ak ((by rw [hg];exact (below_size (hm HB.out)) : w.heap.size ≤ gb171));have GE171:=ak ((by rw [hg];exact (below_size (hm HB.out)) : w.heap.size ≤ gb171));replace HB:=bs HB hb;clear hb hbox hg;have hcz6_0 : w5.cell? ⟨gb171,0,none⟩ = some (.int .i64 a0_0):=(blk_cell BK171.out 0).trans rfl;have hcz6_1 : w5.cell? ⟨gb171,1,none⟩ = some (.slice A0_1 l0_1.length c0_1):=(blk_cell BK171.out 1).trans rfl;have hcz6_2 : w5.cell? ⟨gb171,2,none⟩ = some (.slice A0_2 l0_2.length c0_2):=(blk_cell BK171.out 2).trans rfl;have hfz6_0:=blk_frozen BK171.out 0;have hfz6_1:=blk_frozen BK171.out 1;have hfz6_2:=blk_frozen BK171.out 2)|((with_reducible refine gate_callee (f:=40) rfl ?_);refine goesL_ (some 5) rfl rfl Try.func40 (by kernel_rfl) rfl #[.agg #[.int .i64 a0_0,.slice A0_1 l0_1.length c0_1,.slice A0_2 l0_2.length c0_2]] rfl gl ?_;(with_reducible refine (spec_l8Wire.calls k a0_0 _ _ l0_1 _ _ l0_2 true _ ?side1 ?side2 ?side3 ?side4 A2.out).mono ?_);(case side1=>exact cm (C_below HR0_1.out HB.out));(case side2=>exact HC0_1.out);(case side3=>exact cm (C_below HR0_2.out HB.out));(case side4=>exact HC0_2.out);rintro e w7 ⟨rfl,hb⟩;refine ⟨_,rfl,?_⟩;replace BK171:=kb BK171 hb;replace HB:=ak (below_step (h1 HB.out GE171.out) hb);(try clear hb);have hcz8_0 : w7.cell? ⟨gb171,0,none⟩ = some (.int .i64 a0_0):=(blk_cell BK171.out 0).trans rfl;have hcz8_1 : w7.cell? ⟨gb171,1,none⟩ = some (.slice A0_1 l0_1.length c0_1):=(blk_cell BK171.out 1).trans rfl;have hcz8_2 : w7.cell? ⟨gb171,2,none⟩ = some (.slice A0_2 l0_2.length c0_2):=(blk_cell BK171.out 2).trans rfl;have hfz8_0:=blk_frozen BK171.out 0;have hfz8_1:=blk_frozen BK171.out 1;have hfz8_2:=blk_frozen BK171.out 2)|((with_reducible refine gate_callee (f:=44) rfl ?_);refine goesL_ (some 9) rfl rfl Try.func44 (by kernel_rfl) rfl #[.agg #[.int .i64 a0_0,.slice A0_1 l0_1.length c0_1,.slice A0_2 l0_2.length c0_2]] rfl gl ?_;(with_reducible refine (spec_l8Shades.calls k a0_0 _ _ l0_1 _ _ l0_2 t173 _ ?side1 ?side2 ?side3 ?side4 A4.out).mono ?_);(case side1=>exact cm (C_below HR0_1.out HB.out));(case side2=>exact HC0_1.out);(case side3=>exact cm (C_below HR0_2.out HB.out));(case side4=>exact HC0_2.out);rintro e w9 ⟨v174,rfl,ho0,hb⟩;refine ⟨_,rfl,?_⟩;have HO175:=ak (R_lower ho0 (below_size (h1 HB.out GE171.out)));replace BK171:=kb BK171 hb;replace HB:=ak (below_step (h1 HB.out GE171.out) hb);(try clear hb);(try clear ho0)))
 go_ret2
 exact ⟨_,fe,rm HO175.out,h1 HB.out GE171.out⟩

/-! ### impl_ShadeTimes: function 21 -/
def impl_ShadeTimes.f (k : Nat) (a0_0 : Int) (l0_1 : List Int) (l0_2 : List Int) : Option (List Int × Bool):=(impl_IsWire.f k a0_0 l0_1 l0_2).bind fun t180=>(if t180 = true then ((impl_Wire_shades.f k a0_0 l0_1 l0_2).bind fun t181=>(some (t181,true))) else (some (([] : List Int),false)))
theorem impl_ShadeTimes.mono : ∀ a0 a1 a2 k,LeO (impl_ShadeTimes.f k a0 a1 a2) (impl_ShadeTimes.f (k + 1) a0 a1 a2):=by
 intro a0 a1 a2 k
 unfold impl_ShadeTimes.f
 repeat' first
   | (with_reducible exact impl_IsWire.mono _ _ _ _)
   | (with_reducible exact impl_Wire_shades.mono _ _ _ _)
   | (with_reducible exact LeO.refl _)
   | (with_reducible exact LeO.none _)
   | (with_reducible refine LeO.ite ?_ ?_)
   | (with_reducible refine LeO.bind ?_ (fun _=>?_))
   | exact impl_IsWire.mono _ _ _ _
   | exact impl_Wire_shades.mono _ _ _ _
   | exact LeO.none _
   | refine LeO.ite ?_ ?_
   | refine LeO.bind ?_ (fun _=>?_)
set_option maxHeartbeats 8000000 in
set_option maxRecDepth 100000 in
theorem impl_ShadeTimes.calls (k : Nat) (a0_0 : Int) (A0_1 : Option Addr) (c0_1 : Nat) (l0_1 : List Int) (A0_2 : Option Addr) (c0_2 : Nat) (l0_2 : List Int) (r1 : List Int) (r2 : Bool) (w : World) (hr0_1 : Kd.C (Kd.int .i64) w A0_1 l0_1.length l0_1) (hc0_1 : l0_1.length ≤ c0_1) (hr0_2 : Kd.C (Kd.int .i64) w A0_2 l0_2.length l0_2) (hc0_2 : l0_2.length ≤ c0_2) (h : impl_ShadeTimes.f k a0_0 l0_1 l0_2 = some (r1,r2)) :
  Calls Try.prog 21 #[.agg #[.int .i64 a0_0,.slice A0_1 l0_1.length c0_1,.slice A0_2 l0_2.length c0_2]] w fun e w'=>∃ v0_ : Value,e = .returned (.tuple #[v0_,.bool r2]) ∧ Kd.R (Kd.int .i64) 3 w' w.heap.size (fun _=>True) v0_ r1 ∧ Below w.heap.size w w':=by
 have hu27:=Try.underlying27
 have HR0_1:=Aside0.mk hr0_1
 have HC0_1:=Aside0.mk hc0_1
 clear hr0_1 hc0_1
 have HR0_2:=Aside0.mk hr0_2
 have HC0_2:=Aside0.mk hc0_2
 clear hr0_2 hc0_2
 have HB:=Aside0.mk (Below.refl w.heap.size w)
 have H : ((impl_IsWire.f k a0_0 l0_1 l0_2).bind fun t180=>(if t180 = true then ((impl_Wire_shades.f k a0_0 l0_1 l0_2).bind fun t181=>(some (t181,true))) else (some (([] : List Int),false)))) = some (r1,r2):=h
 clear h
 replace H:=Option.bind_eq_some_iff.mp H
 obtain ⟨t180,A20,H⟩:=H
 have A2:=Aside0.mk A20
 clear A20
 by_cases c3 : t180 = true
 rotate_left
 ·replace c3:=Bool.eq_false_iff.mpr c3
  subst c3
  rw [if_neg (show ¬ (false = true) by decide)] at H
  simp only [Option.some.injEq,Prod.mk.injEq] at H
  obtain ⟨rfl,rfl⟩:=H
  go_enter Try.func21,Try.ntmps21
  go_wp2_with (first|((with_reducible refine gate_dst (N:=1) rfl ?_);refine box_event ?hg (N:=1) ?hd (cs:=#[.int .i64 a0_0,.slice A0_1 l0_1.length c0_1,.slice A0_2 l0_2.length c0_2]) (t:=27) ?hr ?_;(case hd=>rfl);(case hg=>rfl);(case hr=>first|(go_simp;done)|(go_simp;rfl));intro gb179 hg w10 hbox hb;have BK179:=ak hbox;have GW179:=ak ((by rw [hg];exact (below_size (hm HB.out)) : w.heap.size ≤ gb179));have GE179:=ak ((by rw [hg];exact (below_size (hm HB.out)) : w.heap.size ≤ gb179));replace HB:=bs HB hb;clear hb hbox hg;have hcz11_0 : w10.cell? ⟨gb179,0,none⟩ = some (.int .i64 a0_0):=(blk_cell BK179.out 0).trans rfl;have hcz11_1 : w10.cell? ⟨gb179,1,none⟩ = some (.slice A0_1 l0_1.length c0_1):=(blk_cell BK179.out 1).trans rfl;have hcz11_2 : w10.cell? ⟨gb179,2,none⟩ = some (.slice A0_2 l0_2.length c0_2):=(blk_cell BK179.out 2).trans rfl;have hfz11_0:=blk_frozen BK179.out 0;have hfz11_1:=blk_frozen BK179.out 1;have hfz11_2:=blk_frozen BK179.out 2)|((with_reducible refine gate_callee (f:=14) rfl ?_);refine goesL_ (some 5) rfl rfl Try.func14 (by kernel_rfl) rfl #[.agg #[.int .i64 a0_0,.slice A0_1 l0_1.length c0_1,.slice A0_2 l0_2.length c0_2]] rfl gl ?_;(with_reducible refine (impl_IsWire.calls k a0_0 _ _ l0_1 _ _ l0_2 false _ ?side1 ?side2 ?side3 ?side4 A2.out).mono ?_);(case side1=>exact cm (C_below HR0_1.out HB.out));(case side2=>exact HC0_1.out);(case side3=>exact cm (C_below HR0_2.out HB.out));(case side4=>exact HC0_2.out);rintro e w12 ⟨rfl,hb⟩;refine ⟨_,rfl,?_⟩;replace BK179:=kb BK179 hb;replace HB:=ak (below_step (h1 HB.out GE179.out) hb);(try clear hb)))
  go_ret2
  exact ⟨_,fe,by first|exact R_nil _ _ _ _ _|exact Kd.N_nil _ _ _ _ _|exact Kd.V_nil _ _ _ _ _|exact Kd.Q_nil _ _ _ _ _|exact Kd.S_nil _ _ _ _ _,h1 HB.out GE179.out⟩
 subst c3
 rw [if_pos rfl] at H
 replace H:=Option.bind_eq_some_iff.mp H
 obtain ⟨t181,A40,H⟩:=H
 have A4:=Aside0.mk A40
 clear A40
 simp only [Option.some.injEq,Prod.mk.injEq] at H
 obtain ⟨rfl,rfl⟩:=H
 go_enter Try.func21,Try.ntmps21
 go_wp2_with (first|((with_reducible refine gate_dst (N:=1) rfl ?_);refine box_event ?hg (N:=1) ?hd (cs:=#[.int .i64 a0_0,.slice A0_1 l0_1.length c0_1,.slice A0_2 l0_2.length c0_2]) (t:=27) ?hr ?_;(case hd=>rfl);(case hg=>rfl);(case hr=>first|(go_simp;done)|(go_simp;rfl));intro gb179 hg w5 hbox hb;have BK179:=ak hbox;have GW179:=ak ((by rw [hg];exact (below_size (hm HB.out)) : w.heap.size ≤ gb179));have GE179:=ak ((by rw [hg];exact (below_size (hm HB.out)) : w.heap.size ≤ gb179));replace HB:=bs HB hb;clear hb hbox hg;have hcz6_0 : w5.cell? ⟨gb179,0,none⟩ = some (.int .i64 a0_0):=(blk_cell BK179.out 0).trans rfl;have hcz6_1 : w5.cell? ⟨gb179,1,none⟩ = some (.slice A0_1 l0_1.length c0_1):=(blk_cell BK179.out 1).trans rfl;have hcz6_2 : w5.cell? ⟨gb179,2,none⟩ = some (.slice A0_2 l0_2.length c0_2):=(blk_cell BK179.out 2).trans rfl;have hfz6_0:=blk_frozen BK179.out 0;have hfz6_1:=blk_frozen BK179.out 1;have hfz6_2:=blk_frozen BK179.out 2)|((with_reducible refine gate_callee (f:=14) rfl ?_);refine goesL_ (some 5) rfl rfl Try.func14 (by kernel_rfl) rfl #[.agg #[.int .i64 a0_0,.slice A0_1 l0_1.length c0_1,.slice A0_2 l0_2.length c0_2]] rfl gl ?_;(with_reducible refine (impl_IsWire.calls k a0_0 _ _ l0_1 _ _ l0_2 true _ ?side1 ?side2 ?side3 ?side4 A2.out).mono ?_);(case side1=>exact cm (C_below HR0_1.out HB.out));(case side2=>exact HC0_1.out);(case side3=>exact cm (C_below HR0_2.out HB.out));(case side4=>exact HC0_2.out);rintro e w7 ⟨rfl,hb⟩;refine ⟨_,rfl,?_⟩;replace BK179:=kb BK179 hb;replace HB:=ak (below_step (h1 HB.out GE179.out) hb);(try clear hb);have hcz8_0 : w7.cell? ⟨gb179,0,none⟩ = some (.int .i64 a0_0):=(blk_cell BK179.out 0).trans rfl;have hcz8_1 : w7.cell? ⟨gb179,1,none⟩ = some (.slice A0_1 l0_1.length c0_1):=(blk_cell BK179.out 1).trans rfl;have hcz8_2 : w7.cell? ⟨gb179,2,none⟩ = some (.slice A0_2 l0_2.length c0_2):=(blk_cell BK179.out 2).trans rfl;have hfz8_0:=blk_frozen BK179.out 0;have hfz8_1:=blk_frozen BK179.out 1;have hfz8_2:=blk_frozen BK179.out 2)|((with_reducible refine gate_callee (f:=47) rfl ?_);refine goesL_ (some 8) rfl rfl Try.func47 (by kernel_rfl) rfl #[.agg #[.int .i64 a0_0,.slice A0_1 l0_1.length c0_1,.slice A0_2 l0_2.length c0_2]] rfl gl ?_;(with_reducible refine (impl_Wire_shades.calls k a0_0 _ _ l0_1 _ _ l0_2 t181 _ ?side1 ?side2 ?side3 ?side4 A4.out).mono ?_);(case side1=>exact cm (C_below HR0_1.out HB.out));(case side2=>exact HC0_1.out);(case side3=>exact cm (C_below HR0_2.out HB.out));(case side4=>exact HC0_2.out);rintro e w9 ⟨v182,rfl,ho0,hb⟩;refine ⟨_,rfl,?_⟩;have HO183:=ak (R_lower ho0 (below_size (h1 HB.out GE179.out)));replace BK179:=kb BK179 hb;replace HB:=ak (below_step (h1 HB.out GE179.out) hb);(try clear hb);(try clear ho0)))
 go_ret2
 exact ⟨_,fe,rm HO183.out,h1 HB.out GE179.out⟩


end
end Go.Proofs.Ytciihopkgblpkaa.QFnWires
