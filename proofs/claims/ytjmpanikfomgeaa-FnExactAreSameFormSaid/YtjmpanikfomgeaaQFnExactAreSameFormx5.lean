/- Functions that the law FnExactAreSameForm comes to, as Lean functions, with the proof that the Go code does what they say: written by a program of this session over the kit's print. No condition but those named. -/
import Derived.Test.YtjmpanikfomgeaaQFnExactAreSameFormx0
import Derived.Test.YtjmpanikfomgeaaQFnExactAreSameFormx1
import Derived.Test.YtjmpanikfomgeaaQFnExactAreSameFormx4
namespace Go.Proofs.Ytjmpanikfomgeaa.QFnExactAreSameForm
open Go.RowKit Go.Proofs.YtjmpanikfomgeaaW.PrintWords Go.Proofs.YtjmpanikfomgeaaW.PrintLast Go.Proofs.YtjmpanikfomgeaaW.PrintMore Go.Proofs.Ytjmpanikfomgeaa.Short
attribute [local go_sem] max2_int min2_int max_two min_two max_three min_three max_four min_four   -- for this text's walks alone
set_option linter.unusedVariables false
set_option linter.unusedSimpArgs false

/-! ### spec_AreSameForm: function 43 -/
section
open Kd
def spec_AreSameForm.j0 : Nat → Bool → Int → List Int → Int → List Int → Option (Bool × Bool)
 | 0,_,_,_,_,_=>none
 | k + 1,x13,x219000,x219001,x220000,x220001=>if x13 = true then (some (false,false)) else (if x219000 = x220000 then ((spec_l10Form.f k x219000 x219001).bind fun bt222=>((spec_l10Form.f k x220000 x220001).bind fun bt226=>((spec_l1Same.f k bt222.2 bt226.2).bind fun t230=>(some (t230,true))))) else (some (false,true)))
def spec_AreSameForm.f (k : Nat) (a0_0 : Int) (l0_1 : List Int) (a1_0 : Int) (l1_1 : List Int) : Option (Bool × Bool):=(spec_l10Crowd.f k a0_0 l0_1).bind fun t220=>(if t220 = true then ((spec_l10Crowd.f k a1_0 l1_1).bind fun t221=>(spec_AreSameForm.j0 k (!t221) a0_0 l0_1 a1_0 l1_1)) else (spec_AreSameForm.j0 k true a0_0 l0_1 a1_0 l1_1))
theorem spec_AreSameForm.mono_l : ∀ k,(∀ y0 y1 y2 y3 y4,LeO (spec_AreSameForm.j0 k y0 y1 y2 y3 y4) (spec_AreSameForm.j0 (k + 1) y0 y1 y2 y3 y4))
 | 0=>fun _ _ _ _ _ r h=>by simp [spec_AreSameForm.j0] at h
 | k + 1=>by
  have ih0:=spec_AreSameForm.mono_l k
  ·intro y0 y1 y2 y3 y4
   unfold spec_AreSameForm.j0
   repeat' first
   | (with_reducible exact ih0 _ _ _ _ _)
   | (with_reducible exact spec_l10Crowd.mono _ _ _)
   | (with_reducible exact spec_l10Form.mono _ _ _)
   | (with_reducible exact spec_l1Same.mono _ _ _)
   | (with_reducible exact LeO.refl _)
   | (with_reducible exact LeO.none _)
   | (with_reducible refine LeO.ite ?_ ?_)
   | (with_reducible refine LeO.bind ?_ (fun _=>?_))
   | exact ih0 _ _ _ _ _
   | exact spec_l10Crowd.mono _ _ _
   | exact spec_l10Form.mono _ _ _
   | exact spec_l1Same.mono _ _ _
   | exact LeO.none _
   | refine LeO.ite ?_ ?_
   | refine LeO.bind ?_ (fun _=>?_)
theorem spec_AreSameForm.mono : ∀ a0 a1 a2 a3 k,LeO (spec_AreSameForm.f k a0 a1 a2 a3) (spec_AreSameForm.f (k + 1) a0 a1 a2 a3):=by
 intro a0 a1 a2 a3 k
 have ih0:=spec_AreSameForm.mono_l k
 unfold spec_AreSameForm.f
 repeat' first
   | (with_reducible exact ih0 _ _ _ _ _)
   | (with_reducible exact spec_l10Crowd.mono _ _ _)
   | (with_reducible exact spec_l10Form.mono _ _ _)
   | (with_reducible exact spec_l1Same.mono _ _ _)
   | (with_reducible exact LeO.refl _)
   | (with_reducible exact LeO.none _)
   | (with_reducible refine LeO.ite ?_ ?_)
   | (with_reducible refine LeO.bind ?_ (fun _=>?_))
   | exact ih0 _ _ _ _ _
   | exact spec_l10Crowd.mono _ _ _
   | exact spec_l10Form.mono _ _ _
   | exact spec_l1Same.mono _ _ _
   | exact LeO.none _
   | refine LeO.ite ?_ ?_
   | refine LeO.bind ?_ (fun _=>?_)
def spec_AreSameForm.T3 : Bool × List (List Nat × List Nat):=(true,[([],[]),([0],[0]),([],[]),([2],[2]),([1,3],[1,3]),([4],[4]),([5],[5]),([6,5,5],[5,6]),([7,5],[5,7]),([5],[5]),([9,7,5],[5,9]),([10,5],[5,10]),([8,11,10,5],[5,8,11]),([5,12],[5,12]),([13,12,0,1,2,3,4,5,6,7,8,9,10,11,12,13],[13]),([14,0,1,2,3,4,5,6,7,8,9,10,11,12,13,14],[])])
def spec_AreSameForm.B3 : List Nat:=[0,1,0,4,15,31,63,127,255,63,767,1791,4095,8191,16383,32767]
theorem spec_AreSameForm.tab3 : rtab .any (opsOf Try.f43 3) = spec_AreSameForm.T3:=by kernel_rfl
theorem spec_AreSameForm.bits3 : waitsOk spec_AreSameForm.T3.2 spec_AreSameForm.B3 = true:=by kernel_rfl
theorem spec_AreSameForm.fld30_1 (x0 x1 : Value) (w : World) : (Instr.field 30 (.agg #[x0,x1]) 1).run Try.prog w = .ok x1 w:=by kernel_rfl
attribute [local go_sem] spec_AreSameForm.fld30_1
set_option maxHeartbeats 8000000 in
set_option maxRecDepth 100000 in
theorem spec_AreSameForm.calls (k : Nat) (a0_0 : Int) (A0_1 : Option Addr) (c0_1 : Nat) (l0_1 : List Int) (a1_0 : Int) (A1_1 : Option Addr) (c1_1 : Nat) (l1_1 : List Int) (r1 : Bool) (r2 : Bool) (w : World) (hr0_1 : Kd.C (Kd.int .i64) w A0_1 l0_1.length l0_1) (hc0_1 : l0_1.length ≤ c0_1) (hr1_1 : Kd.C (Kd.int .i64) w A1_1 l1_1.length l1_1) (hc1_1 : l1_1.length ≤ c1_1) (h : spec_AreSameForm.f k a0_0 l0_1 a1_0 l1_1 = some (r1,r2)) :
  Calls Try.prog 43 #[.agg #[.int .i64 a0_0,.slice A0_1 l0_1.length c0_1],.agg #[.int .i64 a1_0,.slice A1_1 l1_1.length c1_1]] w fun e w'=>e = .returned (.tuple #[.bool r1,.bool r2]) ∧ Below w.heap.size w w':=by
 have hu30:=Try.underlying30
 have HR0_1:=Aside0.mk hr0_1
 have HC0_1:=Aside0.mk hc0_1
 clear hr0_1 hc0_1
 have HR1_1:=Aside0.mk hr1_1
 have HC1_1:=Aside0.mk hc1_1
 clear hr1_1 hc1_1
 have HB:=Aside0.mk (Below.refl w.heap.size w)
 have H : ((spec_l10Crowd.f k a0_0 l0_1).bind fun t220=>(if t220 = true then ((spec_l10Crowd.f k a1_0 l1_1).bind fun t221=>(spec_AreSameForm.j0 k (!t221) a0_0 l0_1 a1_0 l1_1)) else (spec_AreSameForm.j0 k true a0_0 l0_1 a1_0 l1_1))) = some (r1,r2):=h
 clear h
 have HC3:=Aside0.mk H
 clear H
 go_enter Try.func43,Try.ntmps43
 go_upto_region 1 with (first|((with_reducible refine gate_dst (N:=2) rfl ?_);refine box_event ?hg (N:=2) ?hd (cs:=#[.int .i64 a0_0,.slice A0_1 l0_1.length c0_1]) (t:=30) ?hr ?_;(case hd=>rfl);(case hg=>rfl);(case hr=>first|(go_simp;done)|(go_simp;rfl));intro gb218 hg w4 hbox hb;have n0_:=Aside0.mk (below_step (hm HB.out) hb);have n1_:=Aside0.mk (hbox);have n2_:=Aside0.mk ((by rw [hg];exact (below_size (hm HB.out)) : w.heap.size ≤ gb218));have n3_:=Aside0.mk ((by rw [hg];exact (below_size (hm HB.out)) : w.heap.size ≤ gb218));clear HB;have HB:=n0_;have BK218:=n1_;have GW218:=n2_;have GE218:=n3_;clear n0_ n1_ n2_ n3_;clear hb hbox hg)|((with_reducible refine gate_dst (N:=3) rfl ?_);refine box_event ?hg (N:=3) ?hd (cs:=#[.int .i64 a1_0,.slice A1_1 l1_1.length c1_1]) (t:=30) ?hr ?_;(case hd=>rfl);(case hg=>rfl);(case hr=>first|(go_simp;done)|(go_simp;rfl));intro gb219 hg w5 hbox hb;have n0_:=Aside0.mk (blk_below (g:=gb218) (o:=.cells #[.int .i64 a0_0,.slice A0_1 l0_1.length c0_1] 30 (0,0)) (bm BK218.out) hb);have n1_:=Aside0.mk (below_step (h1 HB.out GE218.out) hb);have n2_:=Aside0.mk (hbox);have n3_:=Aside0.mk ((by rw [hg];exact (below_size (h1 HB.out GE218.out)) : w.heap.size ≤ gb219));have n4_:=Aside0.mk ((by rw [hg];exact (below_size (h1 HB.out GE218.out)) : w.heap.size ≤ gb219));have n5_:=Aside0.mk ((by rw [hg];exact Nat.ne_of_lt (blk_lt (g:=gb218) (bm BK218.out)) : gb218 ≠ gb219));have n6_:=Aside0.mk ((by rw [hg];exact Nat.ne_of_gt (blk_lt (g:=gb218) (bm BK218.out)) : gb219 ≠ gb218));clear BK218;clear HB;have BK218:=n0_;have HB:=n1_;have BK219:=n2_;have GW219:=n3_;have GE219:=n4_;have NB218_219:=n5_;have NB219_218:=n6_;clear n0_ n1_ n2_ n3_ n4_ n5_ n6_;clear hb hbox hg))
 (try simp only [ap])
 go_cut [13] (fun v13 wc=>∃ (kq : Nat) (x13_2 : Bool),v13 = .bool x13_2 ∧ Aside0 (spec_AreSameForm.j0 kq x13_2 a0_0 l0_1 a1_0 l1_1 = some (r1,r2)) ∧ Aside0 (kq ≤ k) ∧ Aside0 (wc.heap[gb218]? = some (.cells #[.int .i64 a0_0,(.slice A0_1 l0_1.length c0_1)] 30 (0,0))) ∧ Aside0 (wc.heap[gb219]? = some (.cells #[.int .i64 a1_0,(.slice A1_1 l1_1.length c1_1)] 30 (0,0))) ∧ Aside0 (Below w.heap.size w wc))
 case first =>
  have H:=HC3.out
  clear HC3
  replace H:=Option.bind_eq_some_iff.mp H
  obtain ⟨t220,A60,H⟩:=H
  replace H : (if t220 = true then ((spec_l10Crowd.f k a1_0 l1_1).bind fun t221=>(spec_AreSameForm.j0 k (!t221) a0_0 l0_1 a1_0 l1_1)) else (spec_AreSameForm.j0 k true a0_0 l0_1 a1_0 l1_1)) = some (r1,r2):=H
  have A6:=Aside0.mk A60
  clear A60
  by_cases c7 : t220 = true
  rotate_left
  ·replace c7:=Bool.eq_false_iff.mpr c7
   subst c7
   have H1 : (spec_AreSameForm.j0 k true a0_0 l0_1 a1_0 l1_1) = some (r1,r2):=by rw [if_neg (show ¬ (false = true) by decide)] at H;exact H
   clear H
   have H:=H1
   clear H1
   have H':=Aside0.mk H
   clear H
   have hnb14:=NB218_219.out
   have hnc14:=NB219_218.out
   have hcz15_0 : w5.cell? ⟨gb218,0,none⟩ = some (.int .i64 a0_0):=(blk_cell BK218.out 0).trans rfl
   have hcz15_1 : w5.cell? ⟨gb218,1,none⟩ = some (.slice A0_1 l0_1.length c0_1):=(blk_cell BK218.out 1).trans rfl
   have hfz15_0:=blk_frozen BK218.out 0
   have hfz15_1:=blk_frozen BK218.out 1
   go_wp2_with (first|((with_reducible refine gate_callee (f:=48) rfl ?_);refine goesL_ (some 7) rfl rfl Try.func48 (by kernel_rfl) rfl #[.agg #[.int .i64 a0_0,.slice A0_1 l0_1.length c0_1]] rfl (by (try simp only [List.map_toArray,List.map_cons,List.map_nil]);first|done|rfl|(simp only [List.length_drop,List.length_take];rfl)) ?_;(with_reducible refine (spec_l10Crowd.calls k a0_0 _ _ l0_1 false _ ?side1 ?side2 A6.out).mono ?_);(case side1=>exact cm (C_below HR0_1.out HB.out));(case side2=>exact HC0_1.out);rintro e w16 ⟨rfl,hb⟩;refine ⟨_,rfl,?_⟩;have n0_:=Aside0.mk (blk_below (g:=gb218) (o:=.cells #[.int .i64 a0_0,.slice A0_1 l0_1.length c0_1] 30 (0,0)) (bm BK218.out) hb);have n1_:=Aside0.mk (blk_below (g:=gb219) (o:=.cells #[.int .i64 a1_0,.slice A1_1 l1_1.length c1_1] 30 (0,0)) (bm BK219.out) hb);have n2_:=Aside0.mk (below_step (h2 HB.out GE218.out GE219.out) hb);clear BK218;clear BK219;clear HB;have BK218:=n0_;have BK219:=n1_;have HB:=n2_;clear n0_ n1_ n2_;(try clear hb);(try clear hb2);(try clear hk);(try clear hi)))
   go_meet
   case rel=>exact ⟨_,(true),(by first|rfl|(simp;done)|(simp [*];done)),H',⟨by first|omega|exact Nat.le_refl _⟩,⟨bm BK218.out⟩,⟨bm BK219.out⟩,⟨h2 HB.out GE218.out GE219.out⟩⟩
  subst c7
  have H1 : ((spec_l10Crowd.f k a1_0 l1_1).bind fun t221=>(spec_AreSameForm.j0 k (!t221) a0_0 l0_1 a1_0 l1_1)) = some (r1,r2):=by rw [if_pos rfl] at H;exact H
  clear H
  have H:=H1
  clear H1
  replace H:=Option.bind_eq_some_iff.mp H
  obtain ⟨t221,A80,H⟩:=H
  replace H : (spec_AreSameForm.j0 k (!t221) a0_0 l0_1 a1_0 l1_1) = some (r1,r2):=H
  have A8:=Aside0.mk A80
  clear A80
  have H':=Aside0.mk H
  clear H
  have hnb9:=NB218_219.out
  have hnc9:=NB219_218.out
  have hcz10_0 : w5.cell? ⟨gb218,0,none⟩ = some (.int .i64 a0_0):=(blk_cell BK218.out 0).trans rfl
  have hcz10_1 : w5.cell? ⟨gb218,1,none⟩ = some (.slice A0_1 l0_1.length c0_1):=(blk_cell BK218.out 1).trans rfl
  have hfz10_0:=blk_frozen BK218.out 0
  have hfz10_1:=blk_frozen BK218.out 1
  go_wp2_with (first|((with_reducible refine gate_callee (f:=48) rfl ?_);refine goesL_ (some 7) rfl rfl Try.func48 (by kernel_rfl) rfl #[.agg #[.int .i64 a0_0,.slice A0_1 l0_1.length c0_1]] rfl (by (try simp only [List.map_toArray,List.map_cons,List.map_nil]);first|done|rfl|(simp only [List.length_drop,List.length_take];rfl)) ?_;(with_reducible refine (spec_l10Crowd.calls k a0_0 _ _ l0_1 true _ ?side1 ?side2 A6.out).mono ?_);(case side1=>exact cm (C_below HR0_1.out HB.out));(case side2=>exact HC0_1.out);rintro e w11 ⟨rfl,hb⟩;refine ⟨_,rfl,?_⟩;have n0_:=Aside0.mk (blk_below (g:=gb218) (o:=.cells #[.int .i64 a0_0,.slice A0_1 l0_1.length c0_1] 30 (0,0)) (bm BK218.out) hb);have n1_:=Aside0.mk (blk_below (g:=gb219) (o:=.cells #[.int .i64 a1_0,.slice A1_1 l1_1.length c1_1] 30 (0,0)) (bm BK219.out) hb);have n2_:=Aside0.mk (below_step (h2 HB.out GE218.out GE219.out) hb);clear BK218;clear BK219;clear HB;have BK218:=n0_;have BK219:=n1_;have HB:=n2_;clear n0_ n1_ n2_;(try clear hb);(try clear hb2);(try clear hk);(try clear hi);have hcz12_0 : w11.cell? ⟨gb219,0,none⟩ = some (.int .i64 a1_0):=(blk_cell BK219.out 0).trans rfl;have hcz12_1 : w11.cell? ⟨gb219,1,none⟩ = some (.slice A1_1 l1_1.length c1_1):=(blk_cell BK219.out 1).trans rfl;have hfz12_0:=blk_frozen BK219.out 0;have hfz12_1:=blk_frozen BK219.out 1)|(go_at_call 48;(with_reducible refine (spec_l10Crowd.calls k a1_0 _ _ l1_1 t221 _ ?side1 ?side2 A8.out).mono ?_);(case side1=>exact cm (C_below HR1_1.out HB.out));(case side2=>exact HC1_1.out);rintro e w13 ⟨rfl,hb⟩;have n0_:=Aside0.mk (blk_below (g:=gb218) (o:=.cells #[.int .i64 a0_0,.slice A0_1 l0_1.length c0_1] 30 (0,0)) (bm BK218.out) hb);have n1_:=Aside0.mk (blk_below (g:=gb219) (o:=.cells #[.int .i64 a1_0,.slice A1_1 l1_1.length c1_1] 30 (0,0)) (bm BK219.out) hb);have n2_:=Aside0.mk (below_step (h2 HB.out GE218.out GE219.out) hb);clear BK218;clear BK219;clear HB;have BK218:=n0_;have BK219:=n1_;have HB:=n2_;clear n0_ n1_ n2_;(try clear hb);(try clear hb2);(try clear hk);(try clear hi)))
  go_meet
  case rel=>exact ⟨_,(!t221),(by first|rfl|(simp;done)|(simp [*];done)),H',⟨by first|omega|exact Nat.le_refl _⟩,⟨bm BK218.out⟩,⟨bm BK219.out⟩,⟨h2 HB.out GE218.out GE219.out⟩⟩
 clear HC3
 try clear c1
 try clear p2
 try clear c4
 try clear c7
 try clear c9
 try clear c14
 try clear hcz10_0
 try clear hcz10_1
 try clear hcz12_0
 try clear hcz12_1
 try clear hcz15_0
 try clear hcz15_1
 try clear hfz10_0
 try clear hfz10_1
 try clear hfz12_0
 try clear hfz12_1
 try clear hfz15_0
 try clear hfz15_1
 obtain ⟨kq,x13_2,rfl,HA,HJ2,BK218,BK219,HB⟩:=hcut
 cases kq with
 | zero=>exact absurd HA.out (by simp [spec_AreSameForm.j0])
 | succ kj2 =>
  have H:=HA.out
  clear HA
  simp only [spec_AreSameForm.j0] at H
  by_cases c17 : x13_2 = true
  ·subst c17
   have H1 : (some (false,false)) = some (r1,r2):=by rw [if_pos rfl] at H;exact H
   clear H
   have H:=H1
   clear H1
   simp only [Option.some.injEq,Prod.mk.injEq] at H
   obtain ⟨rfl,rfl⟩:=H
   go_wp2
   go_ret2
   exact ⟨by first|rfl|(simp [errW_none,errW_some] <;> rfl)|(simp [*,errW_none,errW_some] <;> rfl),h2 HB.out GE218.out GE219.out⟩
  replace c17:=Bool.eq_false_iff.mpr c17
  subst c17
  have H1 : (if a0_0 = a1_0 then ((spec_l10Form.f kj2 a0_0 l0_1).bind fun bt222=>((spec_l10Form.f kj2 a1_0 l1_1).bind fun bt226=>((spec_l1Same.f kj2 bt222.2 bt226.2).bind fun t230=>(some (t230,true))))) else (some (false,true))) = some (r1,r2):=by rw [if_neg (show ¬ (false = true) by decide)] at H;exact H
  clear H
  have H:=H1
  clear H1
  by_cases c18 : a0_0 = a1_0
  rotate_left
  ·rw [if_neg c18] at H
   have c18b0 : (a0_0 == a1_0) = false:=beq_eq_false_iff_ne.mpr c18
   have c18b1 : (a0_0 != a1_0) = true:=bne_iff_ne.mpr c18
   simp only [Option.some.injEq,Prod.mk.injEq] at H
   obtain ⟨rfl,rfl⟩:=H
   try go_wp2
   have n0_:=Aside0.mk (blk_drew BK218.out)
   have n1_:=Aside0.mk (blk_drew BK219.out)
   have n2_:=Aside0.mk (below_drew1 HB.out)
   clear BK218
   clear BK219
   clear HB
   have BK218:=n0_
   have BK219:=n1_
   have HB:=n2_
   clear n0_ n1_ n2_
   refine start_ (n:=16) (S:=fun w'=>w'.cell? ⟨gb218,0,none⟩ = some (.int .i64 a0_0) ∧ w'.cell? ⟨gb218,1,none⟩ = some (.slice A0_1 l0_1.length c0_1) ∧ w'.cell? ⟨gb219,0,none⟩ = some (.int .i64 a1_0) ∧ w'.cell? ⟨gb219,1,none⟩ = some (.slice A1_1 l1_1.length c1_1)) (ds:=[]) (lb 16 0) (by kernel_rfl) rfl rfl ⟨(blk_cell BK218.out 0).trans rfl,(blk_cell BK218.out 1).trans rfl,(blk_cell BK219.out 0).trans rfl,(blk_cell BK219.out 1).trans rfl⟩ (fun hHeld=>?_);refine with_tabW spec_AreSameForm.tab3 spec_AreSameForm.bits3 (fun HT_ HW_=>?_)
   generalize wc.drew = w27 at BK218 BK219 HB hHeld ⊢
   refine pu 0 (N:=some 14) (v:=?_) (a':=?_) (lb 16 1) HT_ (by kernel_rfl) rfl rfl rfl (fun _ _ _ h=>h) ?_ ?_ ?_
   rotate_left
   ·intro w'
    go_simp
    with_reducible rfl
   rotate_left
   ·simp only [ap]
    rfl
   refine pu 2 (N:=some 16) (v:=?_) (a':=?_) (lb 16 5) HT_ (by kernel_rfl) rfl rfl rfl (fun _ _ _ h=>h) ?_ ?_ ?_
   rotate_left
   ·intro w'
    go_simp
    with_reducible rfl
   rotate_left
   ·simp only [ap]
    rfl
   refine take_ (i:=1) (N:=some 15) (v:=?_) (a':=?_) (lb 16 7) rfl rfl (take_ofW HT_.out HW_.out (by kernel_rfl)) (fun _ _ _ h=>h) (Or.inl ⟨by rfl,?_⟩) hHeld ?_ ?_
   rotate_left
   ·rintro w' ⟨s0,s1,s2,s3⟩
    go_simp
    with_reducible rfl
   rotate_left
   ·simp only [ap]
    rfl
   refine take_ (i:=3) (N:=some 17) (v:=?_) (a':=?_) (lb 16 15) rfl rfl (take_ofW HT_.out HW_.out (by kernel_rfl)) (fun _ _ _ h=>h) (Or.inl ⟨by rfl,?_⟩) hHeld ?_ ?_
   rotate_left
   ·rintro w' ⟨s0,s1,s2,s3⟩
    go_simp
    with_reducible rfl
   rotate_left
   ·simp only [ap]
    rfl
   refine pu 4 (N:=some 18) (v:=?_) (a':=?_) (lb 16 31) HT_ (by kernel_rfl) rfl rfl rfl (fun _ _ _ h=>h) ?_ ?_ ?_
   rotate_left
   ·intro w'
    go_simp
    with_reducible rfl
   rotate_left
   ·simp only [ap]
    rfl
   refine pu 5 (N:=some 19) (v:=?_) (a':=?_) (lb 16 63) HT_ (by kernel_rfl) rfl rfl rfl (fun _ _ _ h=>h) ?_ ?_ ?_
   rotate_left
   ·intro w'
    go_simp
    with_reducible rfl
   rotate_left
   ·simp only [ap]
    rfl
   refine pure_ (i:=6) (N:=some 20) (v:=undef) (a':=?_) (lb 16 127) rfl rfl (any_of HT_.out (by kernel_rfl)) (fun _ _ _ h=>h) (Or.inr ⟨by rfl,rfl⟩) ?_ ?_
   rotate_left
   ·simp only [ap]
    rfl
   refine pure_ (i:=7) (N:=some 21) (v:=undef) (a':=?_) (lb 16 255) rfl rfl (any_of HT_.out (by kernel_rfl)) (fun _ _ _ h=>h) (Or.inr ⟨by rfl,rfl⟩) ?_ ?_
   rotate_left
   ·simp only [ap]
    rfl
   refine pure_ (i:=8) (N:=some 22) (v:=undef) (a':=?_) (lb 16 511) rfl rfl (any_of HT_.out (by kernel_rfl)) (fun _ _ _ h=>h) (Or.inr ⟨by rfl,rfl⟩) ?_ ?_
   rotate_left
   ·simp only [ap]
    rfl
   refine pure_ (i:=9) (N:=some 23) (v:=undef) (a':=?_) (lb 16 1023) rfl rfl (any_of HT_.out (by kernel_rfl)) (fun _ _ _ h=>h) (Or.inr ⟨by rfl,rfl⟩) ?_ ?_
   rotate_left
   ·simp only [ap]
    rfl
   refine pure_ (i:=10) (N:=some 24) (v:=undef) (a':=?_) (lb 16 2047) rfl rfl (any_of HT_.out (by kernel_rfl)) (fun _ _ _ h=>h) (Or.inr ⟨by rfl,rfl⟩) ?_ ?_
   rotate_left
   ·simp only [ap]
    rfl
   refine pure_ (i:=11) (N:=some 25) (v:=undef) (a':=?_) (lb 16 4095) rfl rfl (any_of HT_.out (by kernel_rfl)) (fun _ _ _ h=>h) (Or.inr ⟨by rfl,rfl⟩) ?_ ?_
   rotate_left
   ·simp only [ap]
    rfl
   refine pure_ (i:=12) (N:=some 26) (v:=undef) (a':=?_) (lb 16 8191) rfl rfl (any_of HT_.out (by kernel_rfl)) (fun _ _ _ h=>h) (Or.inr ⟨by rfl,rfl⟩) ?_ ?_
   rotate_left
   ·simp only [ap]
    rfl
   refine pu 13 (N:=some 27) (v:=?_) (a':=?_) (lb 16 16383) HT_ (by kernel_rfl) rfl rfl rfl (fun _ _ _ h=>h) ?_ ?_ ?_
   rotate_left
   ·intro w'
    go_simp
    with_reducible rfl
   rotate_left
   ·simp only [ap]
    rfl
   refine pu 14 (N:=some 4) (v:=?_) (a':=?_) (lb 16 32767) HT_ (by kernel_rfl) rfl rfl rfl (fun _ _ _ h=>h) ?_ ?_ ?_
   rotate_left
   ·intro w'
    go_simp
    with_reducible rfl
   rotate_left
   ·simp only [ap]
    rfl
   refine pu 15 (N:=some 5) (v:=?_) (a':=?_) (lb 16 65535) HT_ (by kernel_rfl) rfl rfl rfl (fun _ _ _ h=>h) ?_ ?_ ?_
   rotate_left
   ·intro w'
    go_simp
    with_reducible rfl
   rotate_left
   ·simp only [ap]
    rfl
   refine done_ (done_of HT_.out (by kernel_rfl)) ?_
   try go_wp2
   go_ret2
   exact ⟨by first|rfl|(simp [errW_none,errW_some] <;> rfl)|(simp [*,errW_none,errW_some] <;> rfl),h2 HB.out GE218.out GE219.out⟩
  rw [if_pos c18] at H
  have c18b0 : (a0_0 == a1_0) = true:=beq_iff_eq.mpr c18
  have c18b1 : (a0_0 != a1_0) = false:=bne_eq_false_iff_eq.mpr c18
  clear c18
  replace H:=Option.bind_eq_some_iff.mp H
  obtain ⟨⟨t222,t223⟩,A190,H⟩:=H
  replace H : ((spec_l10Form.f kj2 a1_0 l1_1).bind fun bt226=>((spec_l1Same.f kj2 t223 bt226.2).bind fun t230=>(some (t230,true)))) = some (r1,r2):=H
  have A19:=Aside0.mk A190
  clear A190
  replace H:=Option.bind_eq_some_iff.mp H
  obtain ⟨⟨t226,t227⟩,A200,H⟩:=H
  replace H : ((spec_l1Same.f kj2 t223 t227).bind fun t230=>(some (t230,true))) = some (r1,r2):=H
  have A20:=Aside0.mk A200
  clear A200
  replace H:=Option.bind_eq_some_iff.mp H
  obtain ⟨t230,A210,H⟩:=H
  replace H : (some (t230,true)) = some (r1,r2):=H
  have A21:=Aside0.mk A210
  clear A210
  simp only [Option.some.injEq,Prod.mk.injEq] at H
  obtain ⟨rfl,rfl⟩:=H
  try go_wp2
  have n0_:=Aside0.mk (blk_drew BK218.out)
  have n1_:=Aside0.mk (blk_drew BK219.out)
  have n2_:=Aside0.mk (below_drew1 HB.out)
  clear BK218
  clear BK219
  clear HB
  have BK218:=n0_
  have BK219:=n1_
  have HB:=n2_
  clear n0_ n1_ n2_
  refine start_ (n:=16) (S:=fun w'=>w'.cell? ⟨gb218,0,none⟩ = some (.int .i64 a0_0) ∧ w'.cell? ⟨gb218,1,none⟩ = some (.slice A0_1 l0_1.length c0_1) ∧ w'.cell? ⟨gb219,0,none⟩ = some (.int .i64 a1_0) ∧ w'.cell? ⟨gb219,1,none⟩ = some (.slice A1_1 l1_1.length c1_1)) (ds:=[]) (lb 16 0) (by kernel_rfl) rfl rfl ⟨(blk_cell BK218.out 0).trans rfl,(blk_cell BK218.out 1).trans rfl,(blk_cell BK219.out 0).trans rfl,(blk_cell BK219.out 1).trans rfl⟩ (fun hHeld=>?_);refine with_tabW spec_AreSameForm.tab3 spec_AreSameForm.bits3 (fun HT_ HW_=>?_)
  generalize wc.drew = w22 at BK218 BK219 HB hHeld ⊢
  refine pu 0 (N:=some 14) (v:=?_) (a':=?_) (lb 16 1) HT_ (by kernel_rfl) rfl rfl rfl (fun _ _ _ h=>h) ?_ ?_ ?_
  rotate_left
  ·intro w'
   go_simp
   with_reducible rfl
  rotate_left
  ·simp only [ap]
   rfl
  refine pu 2 (N:=some 16) (v:=?_) (a':=?_) (lb 16 5) HT_ (by kernel_rfl) rfl rfl rfl (fun _ _ _ h=>h) ?_ ?_ ?_
  rotate_left
  ·intro w'
   go_simp
   with_reducible rfl
  rotate_left
  ·simp only [ap]
   rfl
  refine take_ (i:=1) (N:=some 15) (v:=?_) (a':=?_) (lb 16 7) rfl rfl (take_ofW HT_.out HW_.out (by kernel_rfl)) (fun _ _ _ h=>h) (Or.inl ⟨by rfl,?_⟩) hHeld ?_ ?_
  rotate_left
  ·rintro w' ⟨s0,s1,s2,s3⟩
   go_simp
   with_reducible rfl
  rotate_left
  ·simp only [ap]
   rfl
  refine take_ (i:=3) (N:=some 17) (v:=?_) (a':=?_) (lb 16 15) rfl rfl (take_ofW HT_.out HW_.out (by kernel_rfl)) (fun _ _ _ h=>h) (Or.inl ⟨by rfl,?_⟩) hHeld ?_ ?_
  rotate_left
  ·rintro w' ⟨s0,s1,s2,s3⟩
   go_simp
   with_reducible rfl
  rotate_left
  ·simp only [ap]
   rfl
  refine pu 4 (N:=some 18) (v:=?_) (a':=?_) (lb 16 31) HT_ (by kernel_rfl) rfl rfl rfl (fun _ _ _ h=>h) ?_ ?_ ?_
  rotate_left
  ·intro w'
   go_simp
   with_reducible rfl
  rotate_left
  ·simp only [ap]
   rfl
  refine pu 5 (N:=some 19) (v:=?_) (a':=?_) (lb 16 63) HT_ (by kernel_rfl) rfl rfl rfl (fun _ _ _ h=>h) ?_ ?_ ?_
  rotate_left
  ·intro w'
   go_simp
   with_reducible rfl
  rotate_left
  ·simp only [ap]
   rfl
  refine take_ (i:=6) (N:=some 20) (v:=?_) (a':=?_) (lb 16 127) rfl rfl (take_ofW HT_.out HW_.out (by kernel_rfl)) (fun _ _ _ h=>h) (Or.inl ⟨by rfl,?_⟩) hHeld ?_ ?_
  rotate_left
  ·rintro w' ⟨s0,s1,s2,s3⟩
   go_simp
   with_reducible rfl
  rotate_left
  ·simp only [ap]
   rfl
  refine take_ (i:=9) (N:=some 23) (v:=?_) (a':=?_) (lb 16 639) rfl rfl (take_ofW HT_.out HW_.out (by kernel_rfl)) (fun _ _ _ h=>h) (Or.inl ⟨by rfl,?_⟩) hHeld ?_ ?_
  rotate_left
  ·rintro w' ⟨s0,s1,s2,s3⟩
   go_simp
   with_reducible rfl
  rotate_left
  ·simp only [ap]
   rfl
  refine one_ (i:=7) (N:=some 21) (lb 16 767) rfl rfl (one_of HT_.out (by kernel_rfl)) (by decide) (fun K hK=>?_)
  refine goes_ Try.func68 (by kernel_rfl) rfl #[.agg #[.int .i64 a0_0,.slice A0_1 l0_1.length c0_1]] (by rfl) rfl rfl (by (try simp only [List.map_toArray,List.map_cons,List.map_nil]);first|done|rfl|(simp only [List.length_drop,List.length_take];rfl)) ?_
  with_reducible refine (spec_l10Form.calls kj2 a0_0 (fun k_=>k_ < w.heap.size) _ _ l0_1 t222 t223 _ ?side1 A19.out).mono ?_
  (case side1=>exact Kd.V_mk HC0_1.out (Kd.F_below (C_F (Kd.heap_int .i64) HR0_1.out) (h2 HB.out GE218.out GE219.out)))
  rintro e w23 ⟨v224,rfl,ho0,hb⟩
  refine ⟨_,rfl,?_⟩
  have n0_:=Aside0.mk (R_lower (R_mono (ok':=fun k_=>True) ho0 (fun _ hk_=>trivial)) (below_size (h2 HB.out GE218.out GE219.out)))
  have n1_:=Aside0.mk (blk_below (g:=gb218) (o:=.cells #[.int .i64 a0_0,.slice A0_1 l0_1.length c0_1] 30 (0,0)) (bm BK218.out) hb)
  have n2_:=Aside0.mk (blk_below (g:=gb219) (o:=.cells #[.int .i64 a1_0,.slice A1_1 l1_1.length c1_1] 30 (0,0)) (bm BK219.out) hb)
  have n3_:=Aside0.mk (below_step (h2 HB.out GE218.out GE219.out) hb)
  clear BK218
  clear BK219
  clear HB
  have HO225:=n0_
  have BK218:=n1_
  have BK219:=n2_
  have HB:=n3_
  clear n0_ n1_ n2_ n3_
  (try clear hb)
  (try clear hb2)
  (try clear hk)
  (try clear hi)
  (try clear ho0)
  refine hK.out _ _ ⟨(blk_cell BK218.out 0).trans rfl,(blk_cell BK218.out 1).trans rfl,(blk_cell BK219.out 0).trans rfl,(blk_cell BK219.out 1).trans rfl⟩ (fun hHeld=>?_)
  clear hK K
  refine norm_ (a':=?_) ?_ ?_
  rotate_left
  ·show Act.put _ (some 21) _ = _
   simp only [ap]
   rfl
  refine pu 8 (N:=some 22) (v:=?_) (a':=?_) (lb 16 1023) HT_ (by kernel_rfl) rfl rfl rfl (fun _ _ _ h=>h) ?_ ?_ ?_
  rotate_left
  ·intro w'
   go_simp
   with_reducible rfl
  rotate_left
  ·simp only [ap]
   rfl
  refine one_ (i:=10) (N:=some 24) (lb 16 2047) rfl rfl (one_of HT_.out (by kernel_rfl)) (by decide) (fun K hK=>?_)
  refine goes_ Try.func68 (by kernel_rfl) rfl #[.agg #[.int .i64 a1_0,.slice A1_1 l1_1.length c1_1]] (by rfl) rfl rfl (by (try simp only [List.map_toArray,List.map_cons,List.map_nil]);first|done|rfl|(simp only [List.length_drop,List.length_take];rfl)) ?_
  with_reducible refine (spec_l10Form.calls kj2 a1_0 (fun k_=>k_ < w.heap.size) _ _ l1_1 t226 t227 _ ?side1 A20.out).mono ?_
  (case side1=>exact Kd.V_mk HC1_1.out (Kd.F_below (C_F (Kd.heap_int .i64) HR1_1.out) (h2 HB.out GE218.out GE219.out)))
  rintro e w24 ⟨v228,rfl,ho0,hb⟩
  refine ⟨_,rfl,?_⟩
  have n0_:=Aside0.mk (R_elder' (rm HO225.out) (R_base ho0) hb)
  have n1_:=Aside0.mk (R_lower (R_new' (R_mono (ok':=fun k_=>True) ho0 (fun _ hk_=>trivial)) (R_lt (rm HO225.out))) (below_size (h2 HB.out GE218.out GE219.out)))
  have n2_:=Aside0.mk (blk_below (g:=gb218) (o:=.cells #[.int .i64 a0_0,.slice A0_1 l0_1.length c0_1] 30 (0,0)) (bm BK218.out) hb)
  have n3_:=Aside0.mk (blk_below (g:=gb219) (o:=.cells #[.int .i64 a1_0,.slice A1_1 l1_1.length c1_1] 30 (0,0)) (bm BK219.out) hb)
  have n4_:=Aside0.mk (below_step (h2 HB.out GE218.out GE219.out) hb)
  clear HO225
  clear BK218
  clear BK219
  clear HB
  have HO225:=n0_
  have HO229:=n1_
  have BK218:=n2_
  have BK219:=n3_
  have HB:=n4_
  clear n0_ n1_ n2_ n3_ n4_
  (try clear hb)
  (try clear hb2)
  (try clear hk)
  (try clear hi)
  (try clear ho0)
  obtain ⟨Ao25,co25,eo25⟩:=R_slice HO225.out
  (first|subst eo25|(injection eo25 with f1_ f2_ f3_;have f4_:=f1_.symm;have f5_:=f3_.symm;clear f1_ f2_ f3_;subst f4_;subst f5_))
  obtain ⟨Ao26,co26,eo26⟩:=R_slice HO229.out
  (first|subst eo26|(injection eo26 with f1_ f2_ f3_;have f4_:=f1_.symm;have f5_:=f3_.symm;clear f1_ f2_ f3_;subst f4_;subst f5_))
  refine hK.out _ _ ⟨(blk_cell BK218.out 0).trans rfl,(blk_cell BK218.out 1).trans rfl,(blk_cell BK219.out 0).trans rfl,(blk_cell BK219.out 1).trans rfl⟩ (fun hHeld=>?_)
  clear hK K
  refine norm_ (a':=?_) ?_ ?_
  rotate_left
  ·show Act.put _ (some 24) _ = _
   simp only [ap]
   rfl
  refine pu 11 (N:=some 25) (v:=?_) (a':=?_) (lb 16 4095) HT_ (by kernel_rfl) rfl rfl rfl (fun _ _ _ h=>h) ?_ ?_ ?_
  rotate_left
  ·intro w'
   go_simp
   with_reducible rfl
  rotate_left
  ·simp only [ap]
   rfl
  refine one_ (i:=12) (N:=some 26) (lb 16 8191) rfl rfl (one_of HT_.out (by kernel_rfl)) (by decide) (fun K hK=>?_)
  refine goes_ Try.func67 (by kernel_rfl) rfl #[.slice Ao25 t223.length co25,.slice Ao26 t227.length co26] (by rfl) rfl rfl (by (try simp only [List.map_toArray,List.map_cons,List.map_nil]);first|done|rfl|(simp only [List.length_drop,List.length_take];rfl)) ?_
  with_reducible refine (spec_l1Same.calls kj2 _ _ t223 _ _ t227 t230 _ ?side1 ?side2 ?side3 ?side4 A21.out).mono ?_
  (case side1=>exact cm (R_reads' HO225.out).2.2)
  (case side2=>exact (R_reads' HO225.out).2.1)
  (case side3=>exact cm (R_reads' HO229.out).2.2)
  (case side4=>exact (R_reads' HO229.out).2.1)
  rintro e w' ⟨rfl,⟨nd,rfl⟩⟩
  refine ⟨_,rfl,?_⟩
  refine hK.out _ _ ⟨(blk_cell BK218.out 0).trans rfl,(blk_cell BK218.out 1).trans rfl,(blk_cell BK219.out 0).trans rfl,(blk_cell BK219.out 1).trans rfl⟩ (fun hHeld=>?_)
  clear hK K
  refine norm_ (a':=?_) ?_ ?_
  rotate_left
  ·show Act.put _ (some 26) _ = _
   simp only [ap]
   rfl
  refine pu 13 (N:=some 27) (v:=?_) (a':=?_) (lb 16 16383) HT_ (by kernel_rfl) rfl rfl rfl (fun _ _ _ h=>h) ?_ ?_ ?_
  rotate_left
  ·intro w'
   go_simp
   with_reducible rfl
  rotate_left
  ·simp only [ap]
   rfl
  refine pu 14 (N:=some 4) (v:=?_) (a':=?_) (lb 16 32767) HT_ (by kernel_rfl) rfl rfl rfl (fun _ _ _ h=>h) ?_ ?_ ?_
  rotate_left
  ·intro w'
   go_simp
   with_reducible rfl
  rotate_left
  ·simp only [ap]
   rfl
  refine pu 15 (N:=some 5) (v:=?_) (a':=?_) (lb 16 65535) HT_ (by kernel_rfl) rfl rfl rfl (fun _ _ _ h=>h) ?_ ?_ ?_
  rotate_left
  ·intro w'
   go_simp
   with_reducible rfl
  rotate_left
  ·simp only [ap]
   rfl
  refine done_ (done_of HT_.out (by kernel_rfl)) ?_
  try go_wp2
  go_ret2
  exact ⟨by first|rfl|(simp [errW_none,errW_some] <;> rfl)|(simp [*,errW_none,errW_some] <;> rfl),h2 HB.out GE218.out GE219.out⟩

/-! ### impl_within: function 49 -/
def impl_within.f (a0 : Int) (a1 : Int) (a2 : Int) : Option (Bool):=if a0 ≥ a1 then (some (decide (a0 ≤ a2))) else (some false)
set_option maxHeartbeats 8000000 in
set_option maxRecDepth 100000 in
theorem impl_within.calls (a0 : Int) (a1 : Int) (a2 : Int) (r : Bool) (w : World) (h : impl_within.f a0 a1 a2 = some r) :
  Calls Try.prog 49 #[.int .i64 a0,.int .i64 a1,.int .i64 a2] w fun e w'=>e = .returned (.bool r) ∧ Drawn0 w w':=by
 have H : (if a0 ≥ a1 then (some (decide (a0 ≤ a2))) else (some false)) = some r:=h
 clear h
 by_cases c4 : a0 ≥ a1
 ·rw [if_pos c4] at H
  have c4b0 : decide (a1 ≤ a0) = true:=decide_eq_true c4
  clear c4
  obtain rfl:=Option.some.inj H
  go_enter Try.func49,Try.ntmps49
  go_wp2
  go_ret
  exact ⟨by first|rfl|(simp;done)|(simp [*];done),by repeat (first|exact Drawn0.refl _|apply Drawn0.step)⟩
 rw [if_neg c4] at H
 have c4b0 : decide (a1 ≤ a0) = false:=decide_eq_false c4
 clear c4
 obtain rfl:=Option.some.inj H
 go_enter Try.func49,Try.ntmps49
 go_wp2
 go_ret
 exact ⟨by first|rfl|(simp;done)|(simp [*];done),by repeat (first|exact Drawn0.refl _|apply Drawn0.step)⟩

/-! ### impl_IsCrowd: function 21 -/
def impl_IsCrowd.l0 : Nat → List Int → Int → Int → Int → List Int → Option (Bool)
 | 0,_,_,_,_,_=>none
 | k + 1,x6,x7,x8,x232000,x232001=>if x8 < x7 then (if 0 ≤ x8 then (if x8 < (x6.length : Int) then ((impl_within.f (rd x6 x8) 0 (wrap64 (x232000 - 1))).bind fun t233=>(if t233 = true then (if x8 > 0 then (if 0 ≤ (wrap64 (x8 - 1)) then (if (wrap64 (x8 - 1)) < (x232001.length : Int) then (if (rd x232001 (wrap64 (x8 - 1))) ≥ (rd x6 x8) then (some false) else (impl_IsCrowd.l0 k x6 x7 (wrap64 (x8 + 1)) x232000 x232001)) else (none)) else (none)) else (impl_IsCrowd.l0 k x6 x7 (wrap64 (x8 + 1)) x232000 x232001)) else (some false))) else (none)) else (none)) else ((impl_within.f x232000 3 12).bind fun t235=>(if t235 = true then ((impl_within.f (x232001.length : Int) 1 6).bind fun t236=>(some t236)) else (some false)))
def impl_IsCrowd.f (k : Nat) (a0_0 : Int) (l0_1 : List Int) : Option (Bool):=impl_IsCrowd.l0 k l0_1 (l0_1.length : Int) 0 a0_0 l0_1
theorem impl_IsCrowd.mono_l : ∀ k,(∀ y0 y1 y2 y3 y4,LeO (impl_IsCrowd.l0 k y0 y1 y2 y3 y4) (impl_IsCrowd.l0 (k + 1) y0 y1 y2 y3 y4))
 | 0=>fun _ _ _ _ _ r h=>by simp [impl_IsCrowd.l0] at h
 | k + 1=>by
  have ih0:=impl_IsCrowd.mono_l k
  ·intro y0 y1 y2 y3 y4
   unfold impl_IsCrowd.l0
   repeat' first
   | (with_reducible exact ih0 _ _ _ _ _)
   | (with_reducible exact LeO.refl _)
   | (with_reducible exact LeO.none _)
   | (with_reducible refine LeO.ite ?_ ?_)
   | (with_reducible refine LeO.bind ?_ (fun _=>?_))
   | exact ih0 _ _ _ _ _
   | exact LeO.none _
   | refine LeO.ite ?_ ?_
   | refine LeO.bind ?_ (fun _=>?_)
theorem impl_IsCrowd.mono : ∀ a0 a1 k,LeO (impl_IsCrowd.f k a0 a1) (impl_IsCrowd.f (k + 1) a0 a1):=by
 intro a0 a1 k
 have ih0:=impl_IsCrowd.mono_l k
 unfold impl_IsCrowd.f
 repeat' first
   | (with_reducible exact ih0 _ _ _ _ _)
   | (with_reducible exact LeO.refl _)
   | (with_reducible exact LeO.none _)
   | (with_reducible refine LeO.ite ?_ ?_)
   | (with_reducible refine LeO.bind ?_ (fun _=>?_))
   | exact ih0 _ _ _ _ _
   | exact LeO.none _
   | refine LeO.ite ?_ ?_
   | refine LeO.bind ?_ (fun _=>?_)
set_option maxHeartbeats 8000000 in
set_option maxRecDepth 100000 in
theorem impl_IsCrowd.calls (k : Nat) (a0_0 : Int) (A0_1 : Option Addr) (c0_1 : Nat) (l0_1 : List Int) (r : Bool) (w : World) (hr0_1 : Kd.C (Kd.int .i64) w A0_1 l0_1.length l0_1) (hc0_1 : l0_1.length ≤ c0_1) (h : impl_IsCrowd.f k a0_0 l0_1 = some r) :
  Calls Try.prog 21 #[.agg #[.int .i64 a0_0,.slice A0_1 l0_1.length c0_1]] w fun e w'=>e = .returned (.bool r) ∧ Below w.heap.size w w':=by
 have hu30:=Try.underlying30
 have HR0_1:=Aside0.mk hr0_1
 have HC0_1:=Aside0.mk hc0_1
 clear hr0_1 hc0_1
 have HB:=Aside0.mk (Below.refl w.heap.size w)
 have H : (impl_IsCrowd.l0 k l0_1 (l0_1.length : Int) 0 a0_0 l0_1) = some r:=h
 clear h
 have H':=Aside0.mk H
 clear H
 go_enter Try.func21,Try.ntmps21
 go_wp2_with (first|((with_reducible refine gate_dst (N:=1) rfl ?_);refine box_event ?hg (N:=1) ?hd (cs:=#[.int .i64 a0_0,.slice A0_1 l0_1.length c0_1]) (t:=30) ?hr ?_;(case hd=>rfl);(case hg=>rfl);(case hr=>first|(go_simp;done)|(go_simp;rfl));intro gb231 hg w2 hbox hb;have n0_:=Aside0.mk (below_step (hm HB.out) hb);have n1_:=Aside0.mk (hbox);have n2_:=Aside0.mk ((by rw [hg];exact (below_size (hm HB.out)) : w.heap.size ≤ gb231));have n3_:=Aside0.mk ((by rw [hg];exact (below_size (hm HB.out)) : w.heap.size ≤ gb231));clear HB;have HB:=n0_;have BK231:=n1_;have GW231:=n2_;have GE231:=n3_;clear n0_ n1_ n2_ n3_;clear hb hbox hg;have hcz3_0 : w2.cell? ⟨gb231,0,none⟩ = some (.int .i64 a0_0):=(blk_cell BK231.out 0).trans rfl;have hcz3_1 : w2.cell? ⟨gb231,1,none⟩ = some (.slice A0_1 l0_1.length c0_1):=(blk_cell BK231.out 1).trans rfl;have hfz3_0:=blk_frozen BK231.out 0;have hfz3_1:=blk_frozen BK231.out 1))
 go_loopg [8] k (fun kq v8 w'=>∃ (x8_1 : Int),v8 = .int .i64 x8_1 ∧ Aside0 (impl_IsCrowd.l0 kq l0_1 (l0_1.length : Int) x8_1 a0_0 l0_1 = some r) ∧ Aside0 (kq ≤ k) ∧ Aside0 (w'.heap[gb231]? = some (.cells #[.int .i64 a0_0,(.slice A0_1 l0_1.length c0_1)] 30 (0,0))) ∧ Aside0 (Below w.heap.size w w'))
 case atStart=>exact ⟨(0),(by first|rfl|(simp;done)|(simp [*];done)),H',⟨Nat.le_refl _⟩,⟨bm BK231.out⟩,⟨h1 HB.out GE231.out⟩⟩
 clear H'
 try clear c2
 try clear p2
 try clear hcz3_0
 try clear hcz3_1
 try clear hfz3_0
 try clear hfz3_1
 obtain ⟨x8_1,rfl,HA,HK1,BK231,HB⟩:=hrel
 cases gk with
 | zero=>exact absurd HA.out (by simp [impl_IsCrowd.l0])
 | succ k1 =>
  have H:=HA.out
  clear HA
  simp only [impl_IsCrowd.l0] at H
  by_cases c4 : x8_1 < (l0_1.length : Int)
  rotate_left
  ·rw [if_neg c4] at H
   have c4b0 : decide (x8_1 < (l0_1.length : Int)) = false:=decide_eq_false c4
   clear c4
   replace H:=Option.bind_eq_some_iff.mp H
   obtain ⟨t235,A180,H⟩:=H
   replace H : (if t235 = true then ((impl_within.f (l0_1.length : Int) 1 6).bind fun t236=>(some t236)) else (some false)) = some r:=H
   have A18:=Aside0.mk A180
   clear A180
   by_cases c19 : t235 = true
   rotate_left
   ·replace c19:=Bool.eq_false_iff.mpr c19
    subst c19
    have H1 : (some false) = some r:=by rw [if_neg (show ¬ (false = true) by decide)] at H;exact H
    clear H
    have H:=H1
    clear H1
    obtain rfl:=Option.some.inj H
    have hcz22_0 : wr.cell? ⟨gb231,0,none⟩ = some (.int .i64 a0_0):=(blk_cell BK231.out 0).trans rfl
    have hcz22_1 : wr.cell? ⟨gb231,1,none⟩ = some (.slice A0_1 l0_1.length c0_1):=(blk_cell BK231.out 1).trans rfl
    have hfz22_0:=blk_frozen BK231.out 0
    have hfz22_1:=blk_frozen BK231.out 1
    go_wp2_with (first|((with_reducible refine gate_callee (f:=49) rfl ?_);refine goesL_ (some 36) rfl rfl Try.func49 (by kernel_rfl) rfl #[.int .i64 a0_0,.int .i64 3,.int .i64 12] rfl (by (try simp only [List.map_toArray,List.map_cons,List.map_nil]);first|done|rfl|(simp only [List.length_drop,List.length_take];rfl)) ?_;(with_reducible refine (impl_within.calls a0_0 3 12 false _ A18.out).mono ?_);rintro e w' ⟨rfl,⟨nd,rfl⟩⟩;refine ⟨_,rfl,?_⟩))
    go_ret
    exact ⟨by first|rfl|(simp [errW_none,errW_some] <;> rfl)|(simp [*,errW_none,errW_some] <;> rfl),h1 HB.out GE231.out⟩
   subst c19
   have H1 : ((impl_within.f (l0_1.length : Int) 1 6).bind fun t236=>(some t236)) = some r:=by rw [if_pos rfl] at H;exact H
   clear H
   have H:=H1
   clear H1
   replace H:=Option.bind_eq_some_iff.mp H
   obtain ⟨t236,A200,H⟩:=H
   replace H : (some t236) = some r:=H
   have A20:=Aside0.mk A200
   clear A200
   obtain rfl:=Option.some.inj H
   have hcz21_0 : wr.cell? ⟨gb231,0,none⟩ = some (.int .i64 a0_0):=(blk_cell BK231.out 0).trans rfl
   have hcz21_1 : wr.cell? ⟨gb231,1,none⟩ = some (.slice A0_1 l0_1.length c0_1):=(blk_cell BK231.out 1).trans rfl
   have hfz21_0:=blk_frozen BK231.out 0
   have hfz21_1:=blk_frozen BK231.out 1
   go_wp2_with (first|((with_reducible refine gate_callee (f:=49) rfl ?_);refine goesL_ (some 36) rfl rfl Try.func49 (by kernel_rfl) rfl #[.int .i64 a0_0,.int .i64 3,.int .i64 12] rfl (by (try simp only [List.map_toArray,List.map_cons,List.map_nil]);first|done|rfl|(simp only [List.length_drop,List.length_take];rfl)) ?_;(with_reducible refine (impl_within.calls a0_0 3 12 true _ A18.out).mono ?_);rintro e w' ⟨rfl,⟨nd,rfl⟩⟩;refine ⟨_,rfl,?_⟩)|(go_at_call 49;(with_reducible refine (impl_within.calls (l0_1.length : Int) 1 6 t236 _ A20.out).mono ?_);rintro e w' ⟨rfl,⟨nd,rfl⟩⟩))
   go_ret
   exact ⟨by first|rfl|(simp [errW_none,errW_some] <;> rfl)|(simp [*,errW_none,errW_some] <;> rfl),h1 HB.out GE231.out⟩
  rw [if_pos c4] at H
  have c4b0 : decide (x8_1 < (l0_1.length : Int)) = true:=decide_eq_true c4
  clear c4
  by_cases c5 : 0 ≤ x8_1
  rotate_left
  ·rw [if_neg c5] at H
   exact absurd H (by simp)
  rw [if_pos c5] at H
  have c5b0 : decide (0 ≤ x8_1) = true:=decide_eq_true c5
  clear c5
  by_cases c6 : x8_1 < (l0_1.length : Int)
  rotate_left
  ·rw [if_neg c6] at H
   exact absurd H (by simp)
  rw [if_pos c6] at H
  have c6b0 : decide (x8_1 < (l0_1.length : Int)) = true:=decide_eq_true c6
  clear c6
  replace H:=Option.bind_eq_some_iff.mp H
  obtain ⟨t233,A70,H⟩:=H
  replace H : (if t233 = true then (if x8_1 > 0 then (if 0 ≤ (wrap64 (x8_1 - 1)) then (if (wrap64 (x8_1 - 1)) < (l0_1.length : Int) then (if (rd l0_1 (wrap64 (x8_1 - 1))) ≥ (rd l0_1 x8_1) then (some false) else (impl_IsCrowd.l0 k1 l0_1 (l0_1.length : Int) (wrap64 (x8_1 + 1)) a0_0 l0_1)) else (none)) else (none)) else (impl_IsCrowd.l0 k1 l0_1 (l0_1.length : Int) (wrap64 (x8_1 + 1)) a0_0 l0_1)) else (some false)) = some r:=H
  have A7:=Aside0.mk A70
  clear A70
  by_cases c8 : t233 = true
  rotate_left
  ·replace c8:=Bool.eq_false_iff.mpr c8
   subst c8
   have H1 : (some false) = some r:=by rw [if_neg (show ¬ (false = true) by decide)] at H;exact H
   clear H
   have H:=H1
   clear H1
   obtain rfl:=Option.some.inj H
   have p232 : 0 ≤ (x8_1 : Int):=od
   have q232 : x8_1 < (l0_1.length : Int):=od
   obtain ⟨ad232,e232,hx232_0⟩:=Kd.at_int HR0_1.out x8_1 p232 q232
   cases e232
   replace hx232_0:=(HB.out.cell (World.block_lt_of_cell? w _ hx232_0)).trans hx232_0
   replace p232:=eq_true p232
   replace q232:=eq_true q232
   have hcz17_0 : wr.cell? ⟨gb231,0,none⟩ = some (.int .i64 a0_0):=(blk_cell BK231.out 0).trans rfl
   have hcz17_1 : wr.cell? ⟨gb231,1,none⟩ = some (.slice (some ad232) l0_1.length c0_1):=(blk_cell BK231.out 1).trans rfl
   have hfz17_0:=blk_frozen BK231.out 0
   have hfz17_1:=blk_frozen BK231.out 1
   go_wp2_with (first|((with_reducible refine gate_callee (f:=49) rfl ?_);refine goesL_ (some 17) rfl rfl Try.func49 (by kernel_rfl) rfl #[.int .i64 (rd l0_1 x8_1),.int .i64 0,.int .i64 (wrap64 (a0_0 - 1))] rfl (by (try simp only [List.map_toArray,List.map_cons,List.map_nil]);first|done|rfl|(simp only [List.length_drop,List.length_take];rfl)) ?_;(with_reducible refine (impl_within.calls (rd l0_1 x8_1) 0 (wrap64 (a0_0 - 1)) false _ A7.out).mono ?_);rintro e w' ⟨rfl,⟨nd,rfl⟩⟩;refine ⟨_,rfl,?_⟩))
   go_ret
   exact ⟨by first|rfl|(simp [errW_none,errW_some] <;> rfl)|(simp [*,errW_none,errW_some] <;> rfl),h1 HB.out GE231.out⟩
  subst c8
  have H1 : (if x8_1 > 0 then (if 0 ≤ (wrap64 (x8_1 - 1)) then (if (wrap64 (x8_1 - 1)) < (l0_1.length : Int) then (if (rd l0_1 (wrap64 (x8_1 - 1))) ≥ (rd l0_1 x8_1) then (some false) else (impl_IsCrowd.l0 k1 l0_1 (l0_1.length : Int) (wrap64 (x8_1 + 1)) a0_0 l0_1)) else (none)) else (none)) else (impl_IsCrowd.l0 k1 l0_1 (l0_1.length : Int) (wrap64 (x8_1 + 1)) a0_0 l0_1)) = some r:=by rw [if_pos rfl] at H;exact H
  clear H
  have H:=H1
  clear H1
  by_cases c9 : x8_1 > 0
  rotate_left
  ·rw [if_neg c9] at H
   have c9b0 : decide (0 < x8_1) = false:=decide_eq_false c9
   clear c9
   have H':=Aside0.mk H
   clear H
   have p232 : 0 ≤ (x8_1 : Int):=od
   have q232 : x8_1 < (l0_1.length : Int):=od
   obtain ⟨ad232,e232,hx232_0⟩:=Kd.at_int HR0_1.out x8_1 p232 q232
   cases e232
   replace hx232_0:=(HB.out.cell (World.block_lt_of_cell? w _ hx232_0)).trans hx232_0
   replace p232:=eq_true p232
   replace q232:=eq_true q232
   have hcz16_0 : wr.cell? ⟨gb231,0,none⟩ = some (.int .i64 a0_0):=(blk_cell BK231.out 0).trans rfl
   have hcz16_1 : wr.cell? ⟨gb231,1,none⟩ = some (.slice (some ad232) l0_1.length c0_1):=(blk_cell BK231.out 1).trans rfl
   have hfz16_0:=blk_frozen BK231.out 0
   have hfz16_1:=blk_frozen BK231.out 1
   go_wp2_with (first|((with_reducible refine gate_callee (f:=49) rfl ?_);refine goesL_ (some 17) rfl rfl Try.func49 (by kernel_rfl) rfl #[.int .i64 (rd l0_1 x8_1),.int .i64 0,.int .i64 (wrap64 (a0_0 - 1))] rfl (by (try simp only [List.map_toArray,List.map_cons,List.map_nil]);first|done|rfl|(simp only [List.length_drop,List.length_take];rfl)) ?_;(with_reducible refine (impl_within.calls (rd l0_1 x8_1) 0 (wrap64 (a0_0 - 1)) true _ A7.out).mono ?_);rintro e w' ⟨rfl,⟨nd,rfl⟩⟩;refine ⟨_,rfl,?_⟩))
   go_roundg k1
   case measure=>have:=HK1.out;omega
   case rel=>exact ⟨(wrap64 (x8_1 + 1)),(by first|rfl|(simp;done)|(simp [*];done)),H',⟨by have:=HK1.out;omega⟩,⟨bm BK231.out⟩,⟨h1 HB.out GE231.out⟩⟩
  rw [if_pos c9] at H
  have c9b0 : decide (0 < x8_1) = true:=decide_eq_true c9
  clear c9
  obtain ⟨ji10,hji10⟩ : ∃ j_ : Int,(wrap64 (x8_1 - 1)) = j_:=⟨_,rfl⟩
  replace H : (if 0 ≤ (ji10) then (if (ji10) < (l0_1.length : Int) then (if (rd l0_1 (ji10)) ≥ (rd l0_1 x8_1) then (some false) else (impl_IsCrowd.l0 k1 l0_1 (l0_1.length : Int) (wrap64 (x8_1 + 1)) a0_0 l0_1)) else (none)) else (none)) = some r:=by first|(rw [hji10] at H;exact H)|(simp only [hji10] at H ⊢;exact H)
  (try rw [hji10] at A7)
  have hji10w : (IntKind.i64.wrap (x8_1 - 1)) = ji10:=(i64_w _).trans hji10
  by_cases c11 : 0 ≤ (ji10)
  rotate_left
  ·rw [if_neg c11] at H
   exact absurd H (by simp)
  rw [if_pos c11] at H
  have c11b0 : decide (0 ≤ (ji10)) = true:=decide_eq_true c11
  clear c11
  by_cases c12 : (ji10) < (l0_1.length : Int)
  rotate_left
  ·rw [if_neg c12] at H
   exact absurd H (by simp)
  rw [if_pos c12] at H
  have c12b0 : decide ((ji10) < (l0_1.length : Int)) = true:=decide_eq_true c12
  clear c12
  by_cases c13 : (rd l0_1 (ji10)) ≥ (rd l0_1 x8_1)
  ·rw [if_pos c13] at H
   have c13b0 : decide ((rd l0_1 x8_1) ≤ (rd l0_1 (ji10))) = true:=decide_eq_true c13
   clear c13
   obtain rfl:=Option.some.inj H
   have p232 : 0 ≤ (x8_1 : Int):=od
   have q232 : x8_1 < (l0_1.length : Int):=od
   obtain ⟨ad232,e232,hx232_0⟩:=Kd.at_int HR0_1.out x8_1 p232 q232
   cases e232
   replace hx232_0:=(HB.out.cell (World.block_lt_of_cell? w _ hx232_0)).trans hx232_0
   replace p232:=eq_true p232
   replace q232:=eq_true q232
   have hcz14_0 : wr.cell? ⟨gb231,0,none⟩ = some (.int .i64 a0_0):=(blk_cell BK231.out 0).trans rfl
   have hcz14_1 : wr.cell? ⟨gb231,1,none⟩ = some (.slice (some ad232) l0_1.length c0_1):=(blk_cell BK231.out 1).trans rfl
   have hfz14_0:=blk_frozen BK231.out 0
   have hfz14_1:=blk_frozen BK231.out 1
   go_wp2_with (first|((with_reducible refine gate_callee (f:=49) rfl ?_);refine goesL_ (some 17) rfl rfl Try.func49 (by kernel_rfl) rfl #[.int .i64 (rd l0_1 x8_1),.int .i64 0,.int .i64 (wrap64 (a0_0 - 1))] rfl (by (try simp only [List.map_toArray,List.map_cons,List.map_nil]);first|done|rfl|(simp only [List.length_drop,List.length_take];rfl)) ?_;(with_reducible refine (impl_within.calls (rd l0_1 x8_1) 0 (wrap64 (a0_0 - 1)) true _ A7.out).mono ?_);rintro e w' ⟨rfl,⟨nd,rfl⟩⟩;refine ⟨_,rfl,?_⟩;have p234 : 0 ≤ ((ji10) : Int):=od;have q234 : (ji10) < (l0_1.length : Int):=od;obtain ⟨ad234,e234,hx234_0⟩:=Kd.at_int HR0_1.out (ji10) p234 q234;obtain rfl : ad232 = ad234:=(by injection e234);replace hx234_0:=(HB.out.cell (World.block_lt_of_cell? w _ hx234_0)).trans hx234_0;replace p234:=eq_true p234;replace q234:=eq_true q234))
   go_ret
   exact ⟨by first|rfl|(simp [errW_none,errW_some] <;> rfl)|(simp only [← hji10];first|rfl|(simp [errW_none,errW_some] <;> rfl))|(simp [*,errW_none,errW_some] <;> rfl),h1 HB.out GE231.out⟩
  rw [if_neg c13] at H
  have c13b0 : decide ((rd l0_1 x8_1) ≤ (rd l0_1 (ji10))) = false:=decide_eq_false c13
  clear c13
  have H':=Aside0.mk H
  clear H
  have p232 : 0 ≤ (x8_1 : Int):=od
  have q232 : x8_1 < (l0_1.length : Int):=od
  obtain ⟨ad232,e232,hx232_0⟩:=Kd.at_int HR0_1.out x8_1 p232 q232
  cases e232
  replace hx232_0:=(HB.out.cell (World.block_lt_of_cell? w _ hx232_0)).trans hx232_0
  replace p232:=eq_true p232
  replace q232:=eq_true q232
  have hcz15_0 : wr.cell? ⟨gb231,0,none⟩ = some (.int .i64 a0_0):=(blk_cell BK231.out 0).trans rfl
  have hcz15_1 : wr.cell? ⟨gb231,1,none⟩ = some (.slice (some ad232) l0_1.length c0_1):=(blk_cell BK231.out 1).trans rfl
  have hfz15_0:=blk_frozen BK231.out 0
  have hfz15_1:=blk_frozen BK231.out 1
  go_wp2_with (first|((with_reducible refine gate_callee (f:=49) rfl ?_);refine goesL_ (some 17) rfl rfl Try.func49 (by kernel_rfl) rfl #[.int .i64 (rd l0_1 x8_1),.int .i64 0,.int .i64 (wrap64 (a0_0 - 1))] rfl (by (try simp only [List.map_toArray,List.map_cons,List.map_nil]);first|done|rfl|(simp only [List.length_drop,List.length_take];rfl)) ?_;(with_reducible refine (impl_within.calls (rd l0_1 x8_1) 0 (wrap64 (a0_0 - 1)) true _ A7.out).mono ?_);rintro e w' ⟨rfl,⟨nd,rfl⟩⟩;refine ⟨_,rfl,?_⟩;have p234 : 0 ≤ ((ji10) : Int):=od;have q234 : (ji10) < (l0_1.length : Int):=od;obtain ⟨ad234,e234,hx234_0⟩:=Kd.at_int HR0_1.out (ji10) p234 q234;obtain rfl : ad232 = ad234:=(by injection e234);replace hx234_0:=(HB.out.cell (World.block_lt_of_cell? w _ hx234_0)).trans hx234_0;replace p234:=eq_true p234;replace q234:=eq_true q234))
  go_roundg k1
  case measure=>have:=HK1.out;omega
  case rel=>exact ⟨(wrap64 (x8_1 + 1)),(by first|rfl|(simp;done)|(simp [*];done)),H',⟨by have:=HK1.out;omega⟩,⟨bm BK231.out⟩,⟨h1 HB.out GE231.out⟩⟩


end
end Go.Proofs.Ytjmpanikfomgeaa.QFnExactAreSameForm
