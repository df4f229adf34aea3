/- Functions that the law FnExactAreSameForm comes to, as Lean functions, with the proof that the Go code does what they say: written by a program of this session over the kit's print. No condition but those named. -/
import Derived.Test.YtjmpanikfomgeaaQFnExactAreSameFormx0
import Derived.Test.YtjmpanikfomgeaaQFnExactAreSameFormx1
import Derived.Test.YtjmpanikfomgeaaQFnExactAreSameFormx5
import Derived.Test.YtjmpanikfomgeaaQFnExactAreSameFormx9
namespace Go.Proofs.Ytjmpanikfomgeaa.QFnExactAreSameForm
open Go.RowKit Go.Proofs.YtjmpanikfomgeaaW.PrintWords Go.Proofs.YtjmpanikfomgeaaW.PrintLast Go.Proofs.YtjmpanikfomgeaaW.PrintMore Go.Proofs.Ytjmpanikfomgeaa.Short
attribute [local go_sem] max2_int min2_int max_two min_two max_three min_three max_four min_four   -- for this text's walks alone
set_option linter.unusedVariables false
set_option linter.unusedSimpArgs false

/-! ### laws_FnExactAreSameForm: function 13 -/
section
open Kd
def laws_FnExactAreSameForm.j0 : Nat → Bool → Int → List Int → Int → List Int → Int → List Int → Int → List Int → Option (Bool)
 | 0,_,_,_,_,_,_,_,_,_=>none
 | k + 1,x47,x317000,x317001,x318000,x318001,x335000,x335001,x340000,x340001=>if x47 = true then (some false) else ((laws_toCrowd.f k x317000 x317001).bind fun bt342=>((laws_eqCrowd.f k x335000 x335001 bt342.1 bt342.2).bind fun t346=>(if t346 = true then ((laws_toCrowd.f k x318000 x318001).bind fun bt347=>((laws_eqCrowd.f k x340000 x340001 bt347.1 bt347.2).bind fun t351=>(if t351 = true then (some true) else (some false)))) else (some false))))
def laws_FnExactAreSameForm.f (k : Nat) (a0_0 : Int) (l0_1 : List Int) (a1_0 : Int) (l1_1 : List Int) : Option (Bool):=(laws_szCrowd.f a0_0 l0_1 1048576).bind fun t318=>(if t318 < 0 then (some true) else ((laws_szCrowd.f a1_0 l1_1 t318).bind fun t319=>(if t319 < 0 then (some true) else ((laws_toCrowd.f k a0_0 l0_1).bind fun bt320=>((laws_toCrowd.f k a1_0 l1_1).bind fun bt324=>((spec_AreSameForm.f k bt320.1 bt320.2 bt324.1 bt324.2).bind fun bt328=>((laws_toCrowd.f k a0_0 l0_1).bind fun bt330=>((laws_toCrowd.f k a1_0 l1_1).bind fun bt335=>((impl_AreSameForm.f k bt330.1 bt330.2 bt335.1 bt335.2).bind fun bt340=>(if (bt340.1 != bt328.1) = true then (laws_FnExactAreSameForm.j0 k true a0_0 l0_1 a1_0 l1_1 bt330.1 bt330.2 bt335.1 bt335.2) else (laws_FnExactAreSameForm.j0 k (bt340.2 != bt328.2) a0_0 l0_1 a1_0 l1_1 bt330.1 bt330.2 bt335.1 bt335.2)))))))))))
theorem laws_FnExactAreSameForm.mono_l : ∀ k,(∀ y0 y1 y2 y3 y4 y5 y6 y7 y8,LeO (laws_FnExactAreSameForm.j0 k y0 y1 y2 y3 y4 y5 y6 y7 y8) (laws_FnExactAreSameForm.j0 (k + 1) y0 y1 y2 y3 y4 y5 y6 y7 y8))
 | 0=>fun _ _ _ _ _ _ _ _ _ r h=>by simp [laws_FnExactAreSameForm.j0] at h
 | k + 1=>by
  have ih0:=laws_FnExactAreSameForm.mono_l k
  ·intro y0 y1 y2 y3 y4 y5 y6 y7 y8
   unfold laws_FnExactAreSameForm.j0
   repeat' first
   | (with_reducible exact ih0 _ _ _ _ _ _ _ _ _)
   | (with_reducible exact impl_AreSameForm.mono _ _ _ _ _)
   | (with_reducible exact laws_eqCrowd.mono _ _ _ _ _)
   | (with_reducible exact laws_toCrowd.mono _ _ _)
   | (with_reducible exact spec_AreSameForm.mono _ _ _ _ _)
   | (with_reducible exact LeO.refl _)
   | (with_reducible exact LeO.none _)
   | (with_reducible refine LeO.ite ?_ ?_)
   | (with_reducible refine LeO.bind ?_ (fun _=>?_))
   | exact ih0 _ _ _ _ _ _ _ _ _
   | exact impl_AreSameForm.mono _ _ _ _ _
   | exact laws_eqCrowd.mono _ _ _ _ _
   | exact laws_toCrowd.mono _ _ _
   | exact spec_AreSameForm.mono _ _ _ _ _
   | exact LeO.none _
   | refine LeO.ite ?_ ?_
   | refine LeO.bind ?_ (fun _=>?_)
theorem laws_FnExactAreSameForm.mono : ∀ a0 a1 a2 a3 k,LeO (laws_FnExactAreSameForm.f k a0 a1 a2 a3) (laws_FnExactAreSameForm.f (k + 1) a0 a1 a2 a3):=by
 intro a0 a1 a2 a3 k
 have ih0:=laws_FnExactAreSameForm.mono_l k
 unfold laws_FnExactAreSameForm.f
 repeat' first
   | (with_reducible exact ih0 _ _ _ _ _ _ _ _ _)
   | (with_reducible exact impl_AreSameForm.mono _ _ _ _ _)
   | (with_reducible exact laws_eqCrowd.mono _ _ _ _ _)
   | (with_reducible exact laws_toCrowd.mono _ _ _)
   | (with_reducible exact spec_AreSameForm.mono _ _ _ _ _)
   | (with_reducible exact LeO.refl _)
   | (with_reducible exact LeO.none _)
   | (with_reducible refine LeO.ite ?_ ?_)
   | (with_reducible refine LeO.bind ?_ (fun _=>?_))
   | exact ih0 _ _ _ _ _ _ _ _ _
   | exact impl_AreSameForm.mono _ _ _ _ _
   | exact laws_eqCrowd.mono _ _ _ _ _
   | exact laws_toCrowd.mono _ _ _
   | exact spec_AreSameForm.mono _ _ _ _ _
   | exact LeO.none _
   | refine LeO.ite ?_ ?_
   | refine LeO.bind ?_ (fun _=>?_)
def laws_FnExactAreSameForm.T8 : Bool × List (List Nat × List Nat):=(true,[([],[]),([0],[0]),([],[]),([2,1],[2]),([1,3,3],[1,3]),([4],[4]),([5],[5]),([5],[5]),([6,4,0,1,2,3,4,5,6],[6]),([7,8,0,1,2,3,4,5,6,7,8],[7])])
def laws_FnExactAreSameForm.B8 : List Nat:=[0,1,0,7,15,31,63,63,127,511]
theorem laws_FnExactAreSameForm.tab8 : rtab .any (opsOf Try.f13 8) = laws_FnExactAreSameForm.T8:=by kernel_rfl
theorem laws_FnExactAreSameForm.bits8 : waitsOk laws_FnExactAreSameForm.T8.2 laws_FnExactAreSameForm.B8 = true:=by kernel_rfl
set_option maxHeartbeats 8000000 in
set_option maxRecDepth 100000 in
theorem laws_FnExactAreSameForm.calls (k : Nat) (a0_0 : Int) (A0_1 : Option Addr) (c0_1 : Nat) (l0_1 : List Int) (a1_0 : Int) (A1_1 : Option Addr) (c1_1 : Nat) (l1_1 : List Int) (r : Bool) (w : World) (hr0_1 : Kd.C (Kd.int .i64) w A0_1 l0_1.length l0_1) (hc0_1 : l0_1.length ≤ c0_1) (hr1_1 : Kd.C (Kd.int .i64) w A1_1 l1_1.length l1_1) (hc1_1 : l1_1.length ≤ c1_1) (h : laws_FnExactAreSameForm.f k a0_0 l0_1 a1_0 l1_1 = some r) :
  Calls Try.prog 13 #[.agg #[.int .i64 a0_0,.slice A0_1 l0_1.length c0_1],.agg #[.int .i64 a1_0,.slice A1_1 l1_1.length c1_1]] w fun e w'=>e = .returned (.bool r) ∧ Below w.heap.size w w':=by
 have hu27:=Try.underlying27
 have hu30:=Try.underlying30
 have HR0_1:=Aside0.mk hr0_1
 have HC0_1:=Aside0.mk hc0_1
 clear hr0_1 hc0_1
 have HR1_1:=Aside0.mk hr1_1
 have HC1_1:=Aside0.mk hc1_1
 clear hr1_1 hc1_1
 have HB:=Aside0.mk (Below.refl w.heap.size w)
 have H : ((laws_szCrowd.f a0_0 l0_1 1048576).bind fun t318=>(if t318 < 0 then (some true) else ((laws_szCrowd.f a1_0 l1_1 t318).bind fun t319=>(if t319 < 0 then (some true) else ((laws_toCrowd.f k a0_0 l0_1).bind fun bt320=>((laws_toCrowd.f k a1_0 l1_1).bind fun bt324=>((spec_AreSameForm.f k bt320.1 bt320.2 bt324.1 bt324.2).bind fun bt328=>((laws_toCrowd.f k a0_0 l0_1).bind fun bt330=>((laws_toCrowd.f k a1_0 l1_1).bind fun bt335=>((impl_AreSameForm.f k bt330.1 bt330.2 bt335.1 bt335.2).bind fun bt340=>(if (bt340.1 != bt328.1) = true then (laws_FnExactAreSameForm.j0 k true a0_0 l0_1 a1_0 l1_1 bt330.1 bt330.2 bt335.1 bt335.2) else (laws_FnExactAreSameForm.j0 k (bt340.2 != bt328.2) a0_0 l0_1 a1_0 l1_1 bt330.1 bt330.2 bt335.1 bt335.2)))))))))))) = some r:=h
 clear h
 replace H:=Option.bind_eq_some_iff.mp H
 obtain ⟨t318,A30,H⟩:=H
 replace H : (if t318 < 0 then (some true) else ((laws_szCrowd.f a1_0 l1_1 t318).bind fun t319=>(if t319 < 0 then (some true) else ((laws_toCrowd.f k a0_0 l0_1).bind fun bt320=>((laws_toCrowd.f k a1_0 l1_1).bind fun bt324=>((spec_AreSameForm.f k bt320.1 bt320.2 bt324.1 bt324.2).bind fun bt328=>((laws_toCrowd.f k a0_0 l0_1).bind fun bt330=>((laws_toCrowd.f k a1_0 l1_1).bind fun bt335=>((impl_AreSameForm.f k bt330.1 bt330.2 bt335.1 bt335.2).bind fun bt340=>(if (bt340.1 != bt328.1) = true then (laws_FnExactAreSameForm.j0 k true a0_0 l0_1 a1_0 l1_1 bt330.1 bt330.2 bt335.1 bt335.2) else (laws_FnExactAreSameForm.j0 k (bt340.2 != bt328.2) a0_0 l0_1 a1_0 l1_1 bt330.1 bt330.2 bt335.1 bt335.2))))))))))) = some r:=H
 have A3:=Aside0.mk A30
 clear A30
 by_cases c4 : t318 < 0
 ·rw [if_pos c4] at H
  have c4b0 : decide (t318 < 0) = true:=decide_eq_true c4
  clear c4
  obtain rfl:=Option.some.inj H
  go_enter Try.func13,Try.ntmps13
  go_wp2_with (first|((with_reducible refine gate_dst (N:=2) rfl ?_);refine box_event ?hg (N:=2) ?hd (cs:=#[.int .i64 a0_0,.slice A0_1 l0_1.length c0_1]) (t:=27) ?hr ?_;(case hd=>rfl);(case hg=>rfl);(case hr=>first|(go_simp;done)|(go_simp;rfl));intro gb316 hg w5 hbox hb;have n0_:=Aside0.mk (below_step (hm HB.out) hb);have n1_:=Aside0.mk (hbox);have n2_:=Aside0.mk ((by rw [hg];exact (below_size (hm HB.out)) : w.heap.size ≤ gb316));have n3_:=Aside0.mk ((by rw [hg];exact (below_size (hm HB.out)) : w.heap.size ≤ gb316));clear HB;have HB:=n0_;have BK316:=n1_;have GW316:=n2_;have GE316:=n3_;clear n0_ n1_ n2_ n3_;clear hb hbox hg)|((with_reducible refine gate_dst (N:=3) rfl ?_);refine box_event ?hg (N:=3) ?hd (cs:=#[.int .i64 a1_0,.slice A1_1 l1_1.length c1_1]) (t:=27) ?hr ?_;(case hd=>rfl);(case hg=>rfl);(case hr=>first|(go_simp;done)|(go_simp;rfl));intro gb317 hg w6 hbox hb;have n0_:=Aside0.mk (blk_below (g:=gb316) (o:=.cells #[.int .i64 a0_0,.slice A0_1 l0_1.length c0_1] 27 (0,0)) (bm BK316.out) hb);have n1_:=Aside0.mk (below_step (h1 HB.out GE316.out) hb);have n2_:=Aside0.mk (hbox);have n3_:=Aside0.mk ((by rw [hg];exact (below_size (h1 HB.out GE316.out)) : w.heap.size ≤ gb317));have n4_:=Aside0.mk ((by rw [hg];exact (below_size (h1 HB.out GE316.out)) : w.heap.size ≤ gb317));have n5_:=Aside0.mk ((by rw [hg];exact Nat.ne_of_lt (blk_lt (g:=gb316) (bm BK316.out)) : gb316 ≠ gb317));have n6_:=Aside0.mk ((by rw [hg];exact Nat.ne_of_gt (blk_lt (g:=gb316) (bm BK316.out)) : gb317 ≠ gb316));clear BK316;clear HB;have BK316:=n0_;have HB:=n1_;have BK317:=n2_;have GW317:=n3_;have GE317:=n4_;have NB316_317:=n5_;have NB317_316:=n6_;clear n0_ n1_ n2_ n3_ n4_ n5_ n6_;clear hb hbox hg;have hnb7:=NB316_317.out;have hnc7:=NB317_316.out;have hcz8_0 : w6.cell? ⟨gb316,0,none⟩ = some (.int .i64 a0_0):=(blk_cell BK316.out 0).trans rfl;have hcz8_1 : w6.cell? ⟨gb316,1,none⟩ = some (.slice A0_1 l0_1.length c0_1):=(blk_cell BK316.out 1).trans rfl;have hfz8_0:=blk_frozen BK316.out 0;have hfz8_1:=blk_frozen BK316.out 1)|((with_reducible refine gate_callee (f:=18) rfl ?_);refine goesL_ (some 14) rfl rfl Try.func18 (by kernel_rfl) rfl #[.agg #[.int .i64 a0_0,.slice A0_1 l0_1.length c0_1],.int .i64 1048576] rfl (by (try simp only [List.map_toArray,List.map_cons,List.map_nil]);first|done|rfl|(simp only [List.length_drop,List.length_take];rfl)) ?_;(with_reducible refine (laws_szCrowd.calls a0_0 _ _ l0_1 1048576 t318 _ ?side1 ?side2 A3.out).mono ?_);(case side1=>exact cm (C_below HR0_1.out HB.out));(case side2=>exact HC0_1.out);rintro e w9 ⟨rfl,hb⟩;refine ⟨_,rfl,?_⟩;have n0_:=Aside0.mk (blk_below (g:=gb316) (o:=.cells #[.int .i64 a0_0,.slice A0_1 l0_1.length c0_1] 27 (0,0)) (bm BK316.out) hb);have n1_:=Aside0.mk (blk_below (g:=gb317) (o:=.cells #[.int .i64 a1_0,.slice A1_1 l1_1.length c1_1] 27 (0,0)) (bm BK317.out) hb);have n2_:=Aside0.mk (below_step (h2 HB.out GE316.out GE317.out) hb);clear BK316;clear BK317;clear HB;have BK316:=n0_;have BK317:=n1_;have HB:=n2_;clear n0_ n1_ n2_;(try clear hb);(try clear hb2);(try clear hk);(try clear hi)))
  go_ret
  exact ⟨by first|rfl|(simp [errW_none,errW_some] <;> rfl)|(simp [*,errW_none,errW_some] <;> rfl),h2 HB.out GE316.out GE317.out⟩
 rw [if_neg c4] at H
 have c4b0 : decide (t318 < 0) = false:=decide_eq_false c4
 clear c4
 replace H:=Option.bind_eq_some_iff.mp H
 obtain ⟨t319,A100,H⟩:=H
 replace H : (if t319 < 0 then (some true) else ((laws_toCrowd.f k a0_0 l0_1).bind fun bt320=>((laws_toCrowd.f k a1_0 l1_1).bind fun bt324=>((spec_AreSameForm.f k bt320.1 bt320.2 bt324.1 bt324.2).bind fun bt328=>((laws_toCrowd.f k a0_0 l0_1).bind fun bt330=>((laws_toCrowd.f k a1_0 l1_1).bind fun bt335=>((impl_AreSameForm.f k bt330.1 bt330.2 bt335.1 bt335.2).bind fun bt340=>(if (bt340.1 != bt328.1) = true then (laws_FnExactAreSameForm.j0 k true a0_0 l0_1 a1_0 l1_1 bt330.1 bt330.2 bt335.1 bt335.2) else (laws_FnExactAreSameForm.j0 k (bt340.2 != bt328.2) a0_0 l0_1 a1_0 l1_1 bt330.1 bt330.2 bt335.1 bt335.2))))))))) = some r:=H
 have A10:=Aside0.mk A100
 clear A100
 by_cases c11 : t319 < 0
 ·rw [if_pos c11] at H
  have c11b0 : decide (t319 < 0) = true:=decide_eq_true c11
  clear c11
  obtain rfl:=Option.some.inj H
  go_enter Try.func13,Try.ntmps13
  go_wp2_with (first|((with_reducible refine gate_dst (N:=2) rfl ?_);refine box_event ?hg (N:=2) ?hd (cs:=#[.int .i64 a0_0,.slice A0_1 l0_1.length c0_1]) (t:=27) ?hr ?_;(case hd=>rfl);(case hg=>rfl);(case hr=>first|(go_simp;done)|(go_simp;rfl));intro gb316 hg w12 hbox hb;have n0_:=Aside0.mk (below_step (hm HB.out) hb);have n1_:=Aside0.mk (hbox);have n2_:=Aside0.mk ((by rw [hg];exact (below_size (hm HB.out)) : w.heap.size ≤ gb316));have n3_:=Aside0.mk ((by rw [hg];exact (below_size (hm HB.out)) : w.heap.size ≤ gb316));clear HB;have HB:=n0_;have BK316:=n1_;have GW316:=n2_;have GE316:=n3_;clear n0_ n1_ n2_ n3_;clear hb hbox hg)|((with_reducible refine gate_dst (N:=3) rfl ?_);refine box_event ?hg (N:=3) ?hd (cs:=#[.int .i64 a1_0,.slice A1_1 l1_1.length c1_1]) (t:=27) ?hr ?_;(case hd=>rfl);(case hg=>rfl);(case hr=>first|(go_simp;done)|(go_simp;rfl));intro gb317 hg w13 hbox hb;have n0_:=Aside0.mk (blk_below (g:=gb316) (o:=.cells #[.int .i64 a0_0,.slice A0_1 l0_1.length c0_1] 27 (0,0)) (bm BK316.out) hb);have n1_:=Aside0.mk (below_step (h1 HB.out GE316.out) hb);have n2_:=Aside0.mk (hbox);have n3_:=Aside0.mk ((by rw [hg];exact (below_size (h1 HB.out GE316.out)) : w.heap.size ≤ gb317));have n4_:=Aside0.mk ((by rw [hg];exact (below_size (h1 HB.out GE316.out)) : w.heap.size ≤ gb317));have n5_:=Aside0.mk ((by rw [hg];exact Nat.ne_of_lt (blk_lt (g:=gb316) (bm BK316.out)) : gb316 ≠ gb317));have n6_:=Aside0.mk ((by rw [hg];exact Nat.ne_of_gt (blk_lt (g:=gb316) (bm BK316.out)) : gb317 ≠ gb316));clear BK316;clear HB;have BK316:=n0_;have HB:=n1_;have BK317:=n2_;have GW317:=n3_;have GE317:=n4_;have NB316_317:=n5_;have NB317_316:=n6_;clear n0_ n1_ n2_ n3_ n4_ n5_ n6_;clear hb hbox hg;have hnb14:=NB316_317.out;have hnc14:=NB317_316.out;have hcz15_0 : w13.cell? ⟨gb316,0,none⟩ = some (.int .i64 a0_0):=(blk_cell BK316.out 0).trans rfl;have hcz15_1 : w13.cell? ⟨gb316,1,none⟩ = some (.slice A0_1 l0_1.length c0_1):=(blk_cell BK316.out 1).trans rfl;have hfz15_0:=blk_frozen BK316.out 0;have hfz15_1:=blk_frozen BK316.out 1)|((with_reducible refine gate_callee (f:=18) rfl ?_);refine goesL_ (some 14) rfl rfl Try.func18 (by kernel_rfl) rfl #[.agg #[.int .i64 a0_0,.slice A0_1 l0_1.length c0_1],.int .i64 1048576] rfl (by (try simp only [List.map_toArray,List.map_cons,List.map_nil]);first|done|rfl|(simp only [List.length_drop,List.length_take];rfl)) ?_;(with_reducible refine (laws_szCrowd.calls a0_0 _ _ l0_1 1048576 t318 _ ?side1 ?side2 A3.out).mono ?_);(case side1=>exact cm (C_below HR0_1.out HB.out));(case side2=>exact HC0_1.out);rintro e w16 ⟨rfl,hb⟩;refine ⟨_,rfl,?_⟩;have n0_:=Aside0.mk (blk_below (g:=gb316) (o:=.cells #[.int .i64 a0_0,.slice A0_1 l0_1.length c0_1] 27 (0,0)) (bm BK316.out) hb);have n1_:=Aside0.mk (blk_below (g:=gb317) (o:=.cells #[.int .i64 a1_0,.slice A1_1 l1_1.length c1_1] 27 (0,0)) (bm BK317.out) hb);have n2_:=Aside0.mk (below_step (h2 HB.out GE316.out GE317.out) hb);clear BK316;clear BK317;clear HB;have BK316:=n0_;have BK317:=n1_;have HB:=n2_;clear n0_ n1_ n2_;(try clear hb);(try clear hb2);(try clear hk);(try clear hi);have hcz17_0 : w16.cell? ⟨gb317,0,none⟩ = some (.int .i64 a1_0):=(blk_cell BK317.out 0).trans rfl;have hcz17_1 : w16.cell? ⟨gb317,1,none⟩ = some (.slice A1_1 l1_1.length c1_1):=(blk_cell BK317.out 1).trans rfl;have hfz17_0:=blk_frozen BK317.out 0;have hfz17_1:=blk_frozen BK317.out 1)|((with_reducible refine gate_callee (f:=18) rfl ?_);refine goesL_ (some 19) rfl rfl Try.func18 (by kernel_rfl) rfl #[.agg #[.int .i64 a1_0,.slice A1_1 l1_1.length c1_1],.int .i64 t318] rfl (by (try simp only [List.map_toArray,List.map_cons,List.map_nil]);first|done|rfl|(simp only [List.length_drop,List.length_take];rfl)) ?_;(with_reducible refine (laws_szCrowd.calls a1_0 _ _ l1_1 t318 t319 _ ?side1 ?side2 A10.out).mono ?_);(case side1=>exact cm (C_below HR1_1.out HB.out));(case side2=>exact HC1_1.out);rintro e w18 ⟨rfl,hb⟩;refine ⟨_,rfl,?_⟩;have n0_:=Aside0.mk (blk_below (g:=gb316) (o:=.cells #[.int .i64 a0_0,.slice A0_1 l0_1.length c0_1] 27 (0,0)) (bm BK316.out) hb);have n1_:=Aside0.mk (blk_below (g:=gb317) (o:=.cells #[.int .i64 a1_0,.slice A1_1 l1_1.length c1_1] 27 (0,0)) (bm BK317.out) hb);have n2_:=Aside0.mk (below_step (h2 HB.out GE316.out GE317.out) hb);clear BK316;clear BK317;clear HB;have BK316:=n0_;have BK317:=n1_;have HB:=n2_;clear n0_ n1_ n2_;(try clear hb);(try clear hb2);(try clear hk);(try clear hi)))
  go_ret
  exact ⟨by first|rfl|(simp [errW_none,errW_some] <;> rfl)|(simp [*,errW_none,errW_some] <;> rfl),h2 HB.out GE316.out GE317.out⟩
 rw [if_neg c11] at H
 have c11b0 : decide (t319 < 0) = false:=decide_eq_false c11
 clear c11
 replace H:=Option.bind_eq_some_iff.mp H
 obtain ⟨⟨t320,t321⟩,A190,H⟩:=H
 replace H : ((laws_toCrowd.f k a1_0 l1_1).bind fun bt324=>((spec_AreSameForm.f k t320 t321 bt324.1 bt324.2).bind fun bt328=>((laws_toCrowd.f k a0_0 l0_1).bind fun bt330=>((laws_toCrowd.f k a1_0 l1_1).bind fun bt335=>((impl_AreSameForm.f k bt330.1 bt330.2 bt335.1 bt335.2).bind fun bt340=>(if (bt340.1 != bt328.1) = true then (laws_FnExactAreSameForm.j0 k true a0_0 l0_1 a1_0 l1_1 bt330.1 bt330.2 bt335.1 bt335.2) else (laws_FnExactAreSameForm.j0 k (bt340.2 != bt328.2) a0_0 l0_1 a1_0 l1_1 bt330.1 bt330.2 bt335.1 bt335.2))))))) = some r:=H
 have A19:=Aside0.mk A190
 clear A190
 replace H:=Option.bind_eq_some_iff.mp H
 obtain ⟨⟨t324,t325⟩,A200,H⟩:=H
 replace H : ((spec_AreSameForm.f k t320 t321 t324 t325).bind fun bt328=>((laws_toCrowd.f k a0_0 l0_1).bind fun bt330=>((laws_toCrowd.f k a1_0 l1_1).bind fun bt335=>((impl_AreSameForm.f k bt330.1 bt330.2 bt335.1 bt335.2).bind fun bt340=>(if (bt340.1 != bt328.1) = true then (laws_FnExactAreSameForm.j0 k true a0_0 l0_1 a1_0 l1_1 bt330.1 bt330.2 bt335.1 bt335.2) else (laws_FnExactAreSameForm.j0 k (bt340.2 != bt328.2) a0_0 l0_1 a1_0 l1_1 bt330.1 bt330.2 bt335.1 bt335.2)))))) = some r:=H
 have A20:=Aside0.mk A200
 clear A200
 replace H:=Option.bind_eq_some_iff.mp H
 obtain ⟨⟨t328,t329⟩,A210,H⟩:=H
 replace H : ((laws_toCrowd.f k a0_0 l0_1).bind fun bt330=>((laws_toCrowd.f k a1_0 l1_1).bind fun bt335=>((impl_AreSameForm.f k bt330.1 bt330.2 bt335.1 bt335.2).bind fun bt340=>(if (bt340.1 != t328) = true then (laws_FnExactAreSameForm.j0 k true a0_0 l0_1 a1_0 l1_1 bt330.1 bt330.2 bt335.1 bt335.2) else (laws_FnExactAreSameForm.j0 k (bt340.2 != t329) a0_0 l0_1 a1_0 l1_1 bt330.1 bt330.2 bt335.1 bt335.2))))) = some r:=H
 have A21:=Aside0.mk A210
 clear A210
 replace H:=Option.bind_eq_some_iff.mp H
 obtain ⟨⟨t330,t331⟩,A220,H⟩:=H
 replace H : ((laws_toCrowd.f k a1_0 l1_1).bind fun bt335=>((impl_AreSameForm.f k t330 t331 bt335.1 bt335.2).bind fun bt340=>(if (bt340.1 != t328) = true then (laws_FnExactAreSameForm.j0 k true a0_0 l0_1 a1_0 l1_1 t330 t331 bt335.1 bt335.2) else (laws_FnExactAreSameForm.j0 k (bt340.2 != t329) a0_0 l0_1 a1_0 l1_1 t330 t331 bt335.1 bt335.2)))) = some r:=H
 have A22:=Aside0.mk A220
 clear A220
 replace H:=Option.bind_eq_some_iff.mp H
 obtain ⟨⟨t335,t336⟩,A230,H⟩:=H
 replace H : ((impl_AreSameForm.f k t330 t331 t335 t336).bind fun bt340=>(if (bt340.1 != t328) = true then (laws_FnExactAreSameForm.j0 k true a0_0 l0_1 a1_0 l1_1 t330 t331 t335 t336) else (laws_FnExactAreSameForm.j0 k (bt340.2 != t329) a0_0 l0_1 a1_0 l1_1 t330 t331 t335 t336))) = some r:=H
 have A23:=Aside0.mk A230
 clear A230
 replace H:=Option.bind_eq_some_iff.mp H
 obtain ⟨⟨t340,t341⟩,A240,H⟩:=H
 replace H : (if (t340 != t328) = true then (laws_FnExactAreSameForm.j0 k true a0_0 l0_1 a1_0 l1_1 t330 t331 t335 t336) else (laws_FnExactAreSameForm.j0 k (t341 != t329) a0_0 l0_1 a1_0 l1_1 t330 t331 t335 t336)) = some r:=H
 have A24:=Aside0.mk A240
 clear A240
 have HC25:=Aside0.mk H
 clear H
 go_enter Try.func13,Try.ntmps13
 try go_wp2_with (first|((with_reducible refine gate_dst (N:=2) rfl ?_);refine box_event ?hg (N:=2) ?hd (cs:=#[.int .i64 a0_0,.slice A0_1 l0_1.length c0_1]) (t:=27) ?hr ?_;(case hd=>rfl);(case hg=>rfl);(case hr=>first|(go_simp;done)|(go_simp;rfl));intro gb316 hg w26 hbox hb;have n0_:=Aside0.mk (below_step (hm HB.out) hb);have n1_:=Aside0.mk (hbox);have n2_:=Aside0.mk ((by rw [hg];exact (below_size (hm HB.out)) : w.heap.size ≤ gb316));have n3_:=Aside0.mk ((by rw [hg];exact (below_size (hm HB.out)) : w.heap.size ≤ gb316));clear HB;have HB:=n0_;have BK316:=n1_;have GW316:=n2_;have GE316:=n3_;clear n0_ n1_ n2_ n3_;clear hb hbox hg)|((with_reducible refine gate_dst (N:=3) rfl ?_);refine box_event ?hg (N:=3) ?hd (cs:=#[.int .i64 a1_0,.slice A1_1 l1_1.length c1_1]) (t:=27) ?hr ?_;(case hd=>rfl);(case hg=>rfl);(case hr=>first|(go_simp;done)|(go_simp;rfl));intro gb317 hg w27 hbox hb;have n0_:=Aside0.mk (blk_below (g:=gb316) (o:=.cells #[.int .i64 a0_0,.slice A0_1 l0_1.length c0_1] 27 (0,0)) (bm BK316.out) hb);have n1_:=Aside0.mk (below_step (h1 HB.out GE316.out) hb);have n2_:=Aside0.mk (hbox);have n3_:=Aside0.mk ((by rw [hg];exact (below_size (h1 HB.out GE316.out)) : w.heap.size ≤ gb317));have n4_:=Aside0.mk ((by rw [hg];exact (below_size (h1 HB.out GE316.out)) : w.heap.size ≤ gb317));have n5_:=Aside0.mk ((by rw [hg];exact Nat.ne_of_lt (blk_lt (g:=gb316) (bm BK316.out)) : gb316 ≠ gb317));have n6_:=Aside0.mk ((by rw [hg];exact Nat.ne_of_gt (blk_lt (g:=gb316) (bm BK316.out)) : gb317 ≠ gb316));clear BK316;clear HB;have BK316:=n0_;have HB:=n1_;have BK317:=n2_;have GW317:=n3_;have GE317:=n4_;have NB316_317:=n5_;have NB317_316:=n6_;clear n0_ n1_ n2_ n3_ n4_ n5_ n6_;clear hb hbox hg;have hnb28:=NB316_317.out;have hnc28:=NB317_316.out;have hcz29_0 : w27.cell? ⟨gb316,0,none⟩ = some (.int .i64 a0_0):=(blk_cell BK316.out 0).trans rfl;have hcz29_1 : w27.cell? ⟨gb316,1,none⟩ = some (.slice A0_1 l0_1.length c0_1):=(blk_cell BK316.out 1).trans rfl;have hfz29_0:=blk_frozen BK316.out 0;have hfz29_1:=blk_frozen BK316.out 1)|((with_reducible refine gate_callee (f:=18) rfl ?_);refine goesL_ (some 14) rfl rfl Try.func18 (by kernel_rfl) rfl #[.agg #[.int .i64 a0_0,.slice A0_1 l0_1.length c0_1],.int .i64 1048576] rfl (by (try simp only [List.map_toArray,List.map_cons,List.map_nil]);first|done|rfl|(simp only [List.length_drop,List.length_take];rfl)) ?_;(with_reducible refine (laws_szCrowd.calls a0_0 _ _ l0_1 1048576 t318 _ ?side1 ?side2 A3.out).mono ?_);(case side1=>exact cm (C_below HR0_1.out HB.out));(case side2=>exact HC0_1.out);rintro e w30 ⟨rfl,hb⟩;refine ⟨_,rfl,?_⟩;have n0_:=Aside0.mk (blk_below (g:=gb316) (o:=.cells #[.int .i64 a0_0,.slice A0_1 l0_1.length c0_1] 27 (0,0)) (bm BK316.out) hb);have n1_:=Aside0.mk (blk_below (g:=gb317) (o:=.cells #[.int .i64 a1_0,.slice A1_1 l1_1.length c1_1] 27 (0,0)) (bm BK317.out) hb);have n2_:=Aside0.mk (below_step (h2 HB.out GE316.out GE317.out) hb);clear BK316;clear BK317;clear HB;have BK316:=n0_;have BK317:=n1_;have HB:=n2_;clear n0_ n1_ n2_;(try clear hb);(try clear hb2);(try clear hk);(try clear hi);have hcz31_0 : w30.cell? ⟨gb317,0,none⟩ = some (.int .i64 a1_0):=(blk_cell BK317.out 0).trans rfl;have hcz31_1 : w30.cell? ⟨gb317,1,none⟩ = some (.slice A1_1 l1_1.length c1_1):=(blk_cell BK317.out 1).trans rfl;have hfz31_0:=blk_frozen BK317.out 0;have hfz31_1:=blk_frozen BK317.out 1)|((with_reducible refine gate_callee (f:=18) rfl ?_);refine goesL_ (some 19) rfl rfl Try.func18 (by kernel_rfl) rfl #[.agg #[.int .i64 a1_0,.slice A1_1 l1_1.length c1_1],.int .i64 t318] rfl (by (try simp only [List.map_toArray,List.map_cons,List.map_nil]);first|done|rfl|(simp only [List.length_drop,List.length_take];rfl)) ?_;(with_reducible refine (laws_szCrowd.calls a1_0 _ _ l1_1 t318 t319 _ ?side1 ?side2 A10.out).mono ?_);(case side1=>exact cm (C_below HR1_1.out HB.out));(case side2=>exact HC1_1.out);rintro e w32 ⟨rfl,hb⟩;refine ⟨_,rfl,?_⟩;have n0_:=Aside0.mk (blk_below (g:=gb316) (o:=.cells #[.int .i64 a0_0,.slice A0_1 l0_1.length c0_1] 27 (0,0)) (bm BK316.out) hb);have n1_:=Aside0.mk (blk_below (g:=gb317) (o:=.cells #[.int .i64 a1_0,.slice A1_1 l1_1.length c1_1] 27 (0,0)) (bm BK317.out) hb);have n2_:=Aside0.mk (below_step (h2 HB.out GE316.out GE317.out) hb);clear BK316;clear BK317;clear HB;have BK316:=n0_;have BK317:=n1_;have HB:=n2_;clear n0_ n1_ n2_;(try clear hb);(try clear hb2);(try clear hk);(try clear hi)))
 have n0_:=Aside0.mk (blk_drew BK316.out)
 have n1_:=Aside0.mk (blk_drew BK317.out)
 have n2_:=Aside0.mk (below_drew1 HB.out)
 clear BK316
 clear BK317
 clear HB
 have BK316:=n0_
 have BK317:=n1_
 have HB:=n2_
 clear n0_ n1_ n2_
 refine start_ (n:=10) (S:=fun w'=>w'.cell? ⟨gb316,0,none⟩ = some (.int .i64 a0_0) ∧ w'.cell? ⟨gb316,1,none⟩ = some (.slice A0_1 l0_1.length c0_1) ∧ w'.cell? ⟨gb317,0,none⟩ = some (.int .i64 a1_0) ∧ w'.cell? ⟨gb317,1,none⟩ = some (.slice A1_1 l1_1.length c1_1)) (ds:=[]) (lb 10 0) (by kernel_rfl) rfl rfl ⟨(blk_cell BK316.out 0).trans rfl,(blk_cell BK316.out 1).trans rfl,(blk_cell BK317.out 0).trans rfl,(blk_cell BK317.out 1).trans rfl⟩ (fun hHeld=>?_);refine with_tabW laws_FnExactAreSameForm.tab8 laws_FnExactAreSameForm.bits8 (fun HT_ HW_=>?_)
 generalize w32.drew = w33 at BK316 BK317 HB hHeld ⊢
 refine take_ (i:=0) (N:=some 23) (v:=?_) (a':=?_) (lb 10 1) rfl rfl (take_ofW HT_.out HW_.out (by kernel_rfl)) (fun _ _ _ h=>h) (Or.inl ⟨by rfl,?_⟩) hHeld ?_ ?_
 rotate_left
 ·rintro w' ⟨s0,s1,s2,s3⟩
  go_simp
  with_reducible rfl
 rotate_left
 ·simp only [ap]
  rfl
 refine take_ (i:=2) (N:=some 25) (v:=?_) (a':=?_) (lb 10 5) rfl rfl (take_ofW HT_.out HW_.out (by kernel_rfl)) (fun _ _ _ h=>h) (Or.inl ⟨by rfl,?_⟩) hHeld ?_ ?_
 rotate_left
 ·rintro w' ⟨s0,s1,s2,s3⟩
  go_simp
  with_reducible rfl
 rotate_left
 ·simp only [ap]
  rfl
 refine one_ (i:=1) (N:=some 24) (lb 10 7) rfl rfl (one_of HT_.out (by kernel_rfl)) (by decide) (fun K hK=>?_)
 refine goes_ Try.func20 (by kernel_rfl) rfl #[.agg #[.int .i64 a0_0,.slice A0_1 l0_1.length c0_1]] (by rfl) rfl rfl (by (try simp only [List.map_toArray,List.map_cons,List.map_nil]);first|done|rfl|(simp only [List.length_drop,List.length_take];rfl)) ?_
 with_reducible refine (laws_toCrowd.calls k a0_0 _ _ l0_1 t320 t321 _ ?side1 ?side2 A19.out).mono ?_
 (case side1=>exact cm (C_below HR0_1.out HB.out))
 (case side2=>exact HC0_1.out)
 rintro e w34 ⟨v322,rfl,ho0,hb⟩
 refine ⟨_,rfl,?_⟩
 have n0_:=Aside0.mk (R_lower ho0 (below_size (h2 HB.out GE316.out GE317.out)))
 have n1_:=Aside0.mk (blk_below (g:=gb316) (o:=.cells #[.int .i64 a0_0,.slice A0_1 l0_1.length c0_1] 27 (0,0)) (bm BK316.out) hb)
 have n2_:=Aside0.mk (blk_below (g:=gb317) (o:=.cells #[.int .i64 a1_0,.slice A1_1 l1_1.length c1_1] 27 (0,0)) (bm BK317.out) hb)
 have n3_:=Aside0.mk (below_step (h2 HB.out GE316.out GE317.out) hb)
 clear BK316
 clear BK317
 clear HB
 have HO323:=n0_
 have BK316:=n1_
 have BK317:=n2_
 have HB:=n3_
 clear n0_ n1_ n2_ n3_
 (try clear hb)
 (try clear hb2)
 (try clear hk)
 (try clear hi)
 (try clear ho0)
 refine hK.out _ _ ⟨(blk_cell BK316.out 0).trans rfl,(blk_cell BK316.out 1).trans rfl,(blk_cell BK317.out 0).trans rfl,(blk_cell BK317.out 1).trans rfl⟩ (fun hHeld=>?_)
 clear hK K
 refine norm_ (a':=?_) ?_ ?_
 rotate_left
 ·show Act.put _ (some 24) _ = _
  simp only [ap]
  rfl
 refine one_ (i:=3) (N:=some 26) (lb 10 15) rfl rfl (one_of HT_.out (by kernel_rfl)) (by decide) (fun K hK=>?_)
 refine goes_ Try.func20 (by kernel_rfl) rfl #[.agg #[.int .i64 a1_0,.slice A1_1 l1_1.length c1_1]] (by rfl) rfl rfl (by (try simp only [List.map_toArray,List.map_cons,List.map_nil]);first|done|rfl|(simp only [List.length_drop,List.length_take];rfl)) ?_
 with_reducible refine (laws_toCrowd.calls k a1_0 _ _ l1_1 t324 t325 _ ?side1 ?side2 A20.out).mono ?_
 (case side1=>exact cm (C_below HR1_1.out HB.out))
 (case side2=>exact HC1_1.out)
 rintro e w35 ⟨v326,rfl,ho0,hb⟩
 refine ⟨_,rfl,?_⟩
 have n0_:=Aside0.mk (R_elder' (rm HO323.out) (R_base ho0) hb)
 have n1_:=Aside0.mk (R_lower (R_new' ho0 (R_lt (rm HO323.out))) (below_size (h2 HB.out GE316.out GE317.out)))
 have n2_:=Aside0.mk (blk_below (g:=gb316) (o:=.cells #[.int .i64 a0_0,.slice A0_1 l0_1.length c0_1] 27 (0,0)) (bm BK316.out) hb)
 have n3_:=Aside0.mk (blk_below (g:=gb317) (o:=.cells #[.int .i64 a1_0,.slice A1_1 l1_1.length c1_1] 27 (0,0)) (bm BK317.out) hb)
 have n4_:=Aside0.mk (below_step (h2 HB.out GE316.out GE317.out) hb)
 clear HO323
 clear BK316
 clear BK317
 clear HB
 have HO323:=n0_
 have HO327:=n1_
 have BK316:=n2_
 have BK317:=n3_
 have HB:=n4_
 clear n0_ n1_ n2_ n3_ n4_
 (try clear hb)
 (try clear hb2)
 (try clear hk)
 (try clear hi)
 (try clear ho0)
 obtain ⟨Ao36,co36,eo36⟩:=R_slice HO323.out
 (first|subst eo36|(injection eo36 with f1_ f2_ f3_;have f4_:=f1_.symm;have f5_:=f3_.symm;clear f1_ f2_ f3_;subst f4_;subst f5_))
 obtain ⟨Ao37,co37,eo37⟩:=R_slice HO327.out
 (first|subst eo37|(injection eo37 with f1_ f2_ f3_;have f4_:=f1_.symm;have f5_:=f3_.symm;clear f1_ f2_ f3_;subst f4_;subst f5_))
 refine hK.out _ _ ⟨(blk_cell BK316.out 0).trans rfl,(blk_cell BK316.out 1).trans rfl,(blk_cell BK317.out 0).trans rfl,(blk_cell BK317.out 1).trans rfl⟩ (fun hHeld=>?_)
 clear hK K
 refine norm_ (a':=?_) ?_ ?_
 rotate_left
 ·show Act.put _ (some 26) _ = _
  simp only [ap]
  rfl
 refine one_ (i:=4) (N:=some 27) (lb 10 31) rfl rfl (one_of HT_.out (by kernel_rfl)) (by decide) (fun K hK=>?_)
 refine goes_ Try.func43 (by kernel_rfl) rfl #[.agg #[.int .i64 t320,.slice Ao36 t321.length co36],.agg #[.int .i64 t324,.slice Ao37 t325.length co37]] (by rfl) rfl rfl (by (try simp only [List.map_toArray,List.map_cons,List.map_nil]);first|done|rfl|(simp only [List.length_drop,List.length_take];rfl)) ?_
 with_reducible refine (spec_AreSameForm.calls k t320 _ _ t321 t324 _ _ t325 t328 t329 _ ?side1 ?side2 ?side3 ?side4 A21.out).mono ?_
 (case side1=>exact cm (R_reads' HO323.out).2.2)
 (case side2=>exact (R_reads' HO323.out).2.1)
 (case side3=>exact cm (R_reads' HO327.out).2.2)
 (case side4=>exact (R_reads' HO327.out).2.1)
 rintro e w38 ⟨rfl,hb⟩
 refine ⟨_,rfl,?_⟩
 have n0_:=Aside0.mk (R_below (rm HO323.out) hb)
 have n1_:=Aside0.mk (R_below (rm HO327.out) hb)
 have n2_:=Aside0.mk (blk_below (g:=gb316) (o:=.cells #[.int .i64 a0_0,.slice A0_1 l0_1.length c0_1] 27 (0,0)) (bm BK316.out) hb)
 have n3_:=Aside0.mk (blk_below (g:=gb317) (o:=.cells #[.int .i64 a1_0,.slice A1_1 l1_1.length c1_1] 27 (0,0)) (bm BK317.out) hb)
 have n4_:=Aside0.mk (below_step (h2 HB.out GE316.out GE317.out) hb)
 clear HO323
 clear HO327
 clear BK316
 clear BK317
 clear HB
 have HO323:=n0_
 have HO327:=n1_
 have BK316:=n2_
 have BK317:=n3_
 have HB:=n4_
 clear n0_ n1_ n2_ n3_ n4_
 (try clear hb)
 (try clear hb2)
 (try clear hk)
 (try clear hi)
 refine hK.out _ _ ⟨(blk_cell BK316.out 0).trans rfl,(blk_cell BK316.out 1).trans rfl,(blk_cell BK317.out 0).trans rfl,(blk_cell BK317.out 1).trans rfl⟩ (fun hHeld=>?_)
 clear hK K
 refine norm_ (a':=?_) ?_ ?_
 rotate_left
 ·show Act.put _ (some 27) _ = _
  simp only [ap]
  rfl
 refine pu 5 (N:=some 22) (v:=?_) (a':=?_) (lb 10 63) HT_ (by kernel_rfl) rfl rfl rfl (fun _ _ _ h=>h) ?_ ?_ ?_
 rotate_left
 ·intro w'
  go_simp
  with_reducible rfl
 rotate_left
 ·simp only [ap]
  rfl
 refine pu 6 (N:=some 28) (v:=?_) (a':=?_) (lb 10 127) HT_ (by kernel_rfl) rfl rfl rfl (fun _ _ _ h=>h) ?_ ?_ ?_
 rotate_left
 ·intro w'
  go_simp
  with_reducible rfl
 rotate_left
 ·simp only [ap]
  rfl
 refine pu 7 (N:=some 29) (v:=?_) (a':=?_) (lb 10 255) HT_ (by kernel_rfl) rfl rfl rfl (fun _ _ _ h=>h) ?_ ?_ ?_
 rotate_left
 ·intro w'
  go_simp
  with_reducible rfl
 rotate_left
 ·simp only [ap]
  rfl
 refine pu 8 (N:=some 6) (v:=?_) (a':=?_) (lb 10 511) HT_ (by kernel_rfl) rfl rfl rfl (fun _ _ _ h=>h) ?_ ?_ ?_
 rotate_left
 ·intro w'
  go_simp
  with_reducible rfl
 rotate_left
 ·simp only [ap]
  rfl
 refine pu 9 (N:=some 7) (v:=?_) (a':=?_) (lb 10 1023) HT_ (by kernel_rfl) rfl rfl rfl (fun _ _ _ h=>h) ?_ ?_ ?_
 rotate_left
 ·intro w'
  go_simp
  with_reducible rfl
 rotate_left
 ·simp only [ap]
  rfl
 refine done_ (done_of HT_.out (by kernel_rfl)) ?_
 have hcz39_0 : w38.cell? ⟨gb316,0,none⟩ = some (.int .i64 a0_0):=(blk_cell BK316.out 0).trans rfl
 have hcz39_1 : w38.cell? ⟨gb316,1,none⟩ = some (.slice A0_1 l0_1.length c0_1):=(blk_cell BK316.out 1).trans rfl
 have hfz39_0:=blk_frozen BK316.out 0
 have hfz39_1:=blk_frozen BK316.out 1
 go_upto_region 12 with (first|((with_reducible refine gate_callee (f:=20) rfl ?_);refine goesL_ (some 31) rfl rfl Try.func20 (by kernel_rfl) rfl #[.agg #[.int .i64 a0_0,.slice A0_1 l0_1.length c0_1]] rfl (by (try simp only [List.map_toArray,List.map_cons,List.map_nil]);first|done|rfl|(simp only [List.length_drop,List.length_take];rfl)) ?_;(with_reducible refine (laws_toCrowd.calls k a0_0 _ _ l0_1 t330 t331 _ ?side1 ?side2 A22.out).mono ?_);(case side1=>exact cm (C_below HR0_1.out HB.out));(case side2=>exact HC0_1.out);rintro e w40 ⟨v332,rfl,ho0,hb⟩;refine ⟨_,rfl,?_⟩;have n0_:=Aside0.mk (R_elder' (rm HO323.out) (R_base ho0) hb);have n1_:=Aside0.mk (R_elder' (rm HO327.out) (R_base ho0) hb);have n2_:=Aside0.mk (R_lower (R_new' (R_new' ho0 (R_lt (rm HO323.out))) (R_lt (rm HO327.out))) (below_size (h2 HB.out GE316.out GE317.out)));have n3_:=Aside0.mk (blk_below (g:=gb316) (o:=.cells #[.int .i64 a0_0,.slice A0_1 l0_1.length c0_1] 27 (0,0)) (bm BK316.out) hb);have n4_:=Aside0.mk (blk_below (g:=gb317) (o:=.cells #[.int .i64 a1_0,.slice A1_1 l1_1.length c1_1] 27 (0,0)) (bm BK317.out) hb);have n5_:=Aside0.mk (below_step (h2 HB.out GE316.out GE317.out) hb);clear HO323;clear HO327;clear BK316;clear BK317;clear HB;have HO323:=n0_;have HO327:=n1_;have HO333:=n2_;have BK316:=n3_;have BK317:=n4_;have HB:=n5_;clear n0_ n1_ n2_ n3_ n4_ n5_;(try clear hb);(try clear hb2);(try clear hk);(try clear hi);(try clear ho0))|((with_reducible refine gate_dst (N:=8) rfl ?_);refine box_event ?hg (N:=8) ?hd (cs:=#[.int .i64 0,.slice none 0 0]) (t:=30) ?hr ?_;(case hd=>rfl);(case hg=>rfl);(case hr=>first|(go_simp;done)|(go_simp;rfl));intro gb334 hg w41 hbox hb;have n0_:=Aside0.mk (R_below (rm HO323.out) hb);have n1_:=Aside0.mk (R_below (rm HO327.out) hb);have n2_:=Aside0.mk (R_below (rm HO333.out) hb);have n3_:=Aside0.mk (blk_below (g:=gb316) (o:=.cells #[.int .i64 a0_0,.slice A0_1 l0_1.length c0_1] 27 (0,0)) (bm BK316.out) hb);have n4_:=Aside0.mk (blk_below (g:=gb317) (o:=.cells #[.int .i64 a1_0,.slice A1_1 l1_1.length c1_1] 27 (0,0)) (bm BK317.out) hb);have n5_:=Aside0.mk (below_step (h2 HB.out GE316.out GE317.out) hb);have n6_:=Aside0.mk (hbox);have n7_:=Aside0.mk ((by rw [hg];exact (below_size (h2 HB.out GE316.out GE317.out)) : w.heap.size ≤ gb334));have n8_:=Aside0.mk ((by rw [hg];exact (below_size (h2 HB.out GE316.out GE317.out)) : w.heap.size ≤ gb334));have n9_:=Aside0.mk ((by rw [hg];exact Nat.ne_of_lt (blk_lt (g:=gb316) (bm BK316.out)) : gb316 ≠ gb334));have n10_:=Aside0.mk ((by rw [hg];exact Nat.ne_of_gt (blk_lt (g:=gb316) (bm BK316.out)) : gb334 ≠ gb316));have n11_:=Aside0.mk ((by rw [hg];exact Nat.ne_of_lt (blk_lt (g:=gb317) (bm BK317.out)) : gb317 ≠ gb334));have n12_:=Aside0.mk ((by rw [hg];exact Nat.ne_of_gt (blk_lt (g:=gb317) (bm BK317.out)) : gb334 ≠ gb317));clear HO323;clear HO327;clear HO333;clear BK316;clear BK317;clear HB;have HO323:=n0_;have HO327:=n1_;have HO333:=n2_;have BK316:=n3_;have BK317:=n4_;have HB:=n5_;have BK334:=n6_;have GW334:=n7_;have GE334:=n8_;have NB316_334:=n9_;have NB334_316:=n10_;have NB317_334:=n11_;have NB334_317:=n12_;clear n0_ n1_ n2_ n3_ n4_ n5_ n6_ n7_ n8_ n9_ n10_ n11_ n12_;clear hb hbox hg;have hnb42:=NB334_316.out;have hnc42:=NB316_334.out;have hnb43:=NB334_317.out;have hnc43:=NB317_334.out;have hcz44_0 : w41.cell? ⟨gb334,0,none⟩ = some (.int .i64 0):=(blk_cell BK334.out 0).trans rfl;have hcz44_1 : w41.cell? ⟨gb334,1,none⟩ = some (.slice none 0 0):=(blk_cell BK334.out 1).trans rfl;have hfz44_0:=blk_frozen BK334.out 0;have hfz44_1:=blk_frozen BK334.out 1;obtain ⟨Ao45,co45,eo45⟩:=R_slice HO333.out;subst eo45;have hcz46_0 : w41.cell? ⟨gb317,0,none⟩ = some (.int .i64 a1_0):=(blk_cell BK317.out 0).trans rfl;have hcz46_1 : w41.cell? ⟨gb317,1,none⟩ = some (.slice A1_1 l1_1.length c1_1):=(blk_cell BK317.out 1).trans rfl;have hfz46_0:=blk_frozen BK317.out 0;have hfz46_1:=blk_frozen BK317.out 1)|((with_reducible refine gate_callee (f:=20) rfl ?_);refine goesL_ (some 33) rfl rfl Try.func20 (by kernel_rfl) rfl #[.agg #[.int .i64 a1_0,.slice A1_1 l1_1.length c1_1]] rfl (by (try simp only [List.map_toArray,List.map_cons,List.map_nil]);first|done|rfl|(simp only [List.length_drop,List.length_take];rfl)) ?_;(with_reducible refine (laws_toCrowd.calls k a1_0 _ _ l1_1 t335 t336 _ ?side1 ?side2 A23.out).mono ?_);(case side1=>exact C_below HR1_1.out (h3 HB.out GE316.out GE317.out GE334.out));(case side2=>exact HC1_1.out);rintro e w47 ⟨v337,rfl,ho0,hb⟩;refine ⟨_,rfl,?_⟩;have n0_:=Aside0.mk (R_elder' (by (with_reducible repeat (first|apply R_alloc|apply R_drewN|apply R_drew));exact (R_mono (R_far (p:=⟨gb334,1,none⟩) (R_far (p:=⟨gb334,0,none⟩) (R_types HO323.out BK334.out (by decide)) (fun _ hk=>hk.2) (.int .i64 t330)) (fun _ hk=>hk.2) (.slice Ao45 t331.length co45)) (fun _ h_=>h_.1))) (R_base ho0) hb);have n1_:=Aside0.mk (R_elder' (by (with_reducible repeat (first|apply R_alloc|apply R_drewN|apply R_drew));exact (R_mono (R_far (p:=⟨gb334,1,none⟩) (R_far (p:=⟨gb334,0,none⟩) (R_types HO327.out BK334.out (by decide)) (fun _ hk=>hk.2) (.int .i64 t330)) (fun _ hk=>hk.2) (.slice Ao45 t331.length co45)) (fun _ h_=>h_.1))) (R_base ho0) hb);have n2_:=Aside0.mk (R_elder' (by (with_reducible repeat (first|apply R_alloc|apply R_drewN|apply R_drew));exact (R_mono (R_far (p:=⟨gb334,1,none⟩) (R_far (p:=⟨gb334,0,none⟩) (R_types HO333.out BK334.out (by decide)) (fun _ hk=>hk.2) (.int .i64 t330)) (fun _ hk=>hk.2) (.slice Ao45 t331.length co45)) (fun _ h_=>h_.1))) (R_base ho0) hb);have n3_:=Aside0.mk (R_lower (R_new' (R_new' (R_new' ho0 (R_lt (by (with_reducible repeat (first|apply R_alloc|apply R_drewN|apply R_drew));exact (R_mono (R_far (p:=⟨gb334,1,none⟩) (R_far (p:=⟨gb334,0,none⟩) (R_types HO323.out BK334.out (by decide)) (fun _ hk=>hk.2) (.int .i64 t330)) (fun _ hk=>hk.2) (.slice Ao45 t331.length co45)) (fun _ h_=>h_.1))))) (R_lt (by (with_reducible repeat (first|apply R_alloc|apply R_drewN|apply R_drew));exact (R_mono (R_far (p:=⟨gb334,1,none⟩) (R_far (p:=⟨gb334,0,none⟩) (R_types HO327.out BK334.out (by decide)) (fun _ hk=>hk.2) (.int .i64 t330)) (fun _ hk=>hk.2) (.slice Ao45 t331.length co45)) (fun _ h_=>h_.1))))) (R_lt (by (with_reducible repeat (first|apply R_alloc|apply R_drewN|apply R_drew));exact (R_mono (R_far (p:=⟨gb334,1,none⟩) (R_far (p:=⟨gb334,0,none⟩) (R_types HO333.out BK334.out (by decide)) (fun _ hk=>hk.2) (.int .i64 t330)) (fun _ hk=>hk.2) (.slice Ao45 t331.length co45)) (fun _ h_=>h_.1))))) (below_size (h3 HB.out GE316.out GE317.out GE334.out)));have n4_:=Aside0.mk (blk_below (g:=gb316) (o:=.cells #[.int .i64 a0_0,.slice A0_1 l0_1.length c0_1] 27 (0,0)) (by (with_reducible repeat (first|apply blk_drewN|apply blk_drew|apply blk_alloc));refine blk_far ?_ NB316_334.out _;(with_reducible repeat (first|apply blk_drewN|apply blk_drew|apply blk_alloc));refine blk_far ?_ NB316_334.out _;(with_reducible repeat (first|apply blk_drewN|apply blk_drew|apply blk_alloc));exact BK316.out) hb);have n5_:=Aside0.mk (blk_below (g:=gb317) (o:=.cells #[.int .i64 a1_0,.slice A1_1 l1_1.length c1_1] 27 (0,0)) (by (with_reducible repeat (first|apply blk_drewN|apply blk_drew|apply blk_alloc));refine blk_far ?_ NB317_334.out _;(with_reducible repeat (first|apply blk_drewN|apply blk_drew|apply blk_alloc));refine blk_far ?_ NB317_334.out _;(with_reducible repeat (first|apply blk_drewN|apply blk_drew|apply blk_alloc));exact BK317.out) hb);have n6_:=Aside0.mk (blk_below (g:=gb334) (o:=.cells #[.int .i64 t330,.slice Ao45 t331.length co45] 30 (0,0)) (by (with_reducible repeat (first|apply blk_drewN|apply blk_drew|apply blk_alloc));refine blk_put (cs:=#[.int .i64 t330,.slice none 0 0]) ?_ 1 _ rfl;(with_reducible repeat (first|apply blk_drewN|apply blk_drew|apply blk_alloc));refine blk_put (cs:=#[.int .i64 0,.slice none 0 0]) ?_ 0 _ rfl;(with_reducible repeat (first|apply blk_drewN|apply blk_drew|apply blk_alloc));exact BK334.out) hb);have n7_:=Aside0.mk (below_step (h3 HB.out GE316.out GE317.out GE334.out) hb);clear HO323;clear HO327;clear HO333;clear BK316;clear BK317;clear BK334;clear HB;have HO323:=n0_;have HO327:=n1_;have HO333:=n2_;have HO338:=n3_;have BK316:=n4_;have BK317:=n5_;have BK334:=n6_;have HB:=n7_;clear n0_ n1_ n2_ n3_ n4_ n5_ n6_ n7_;(try clear hb);(try clear hb2);(try clear hk);(try clear hi);(try clear ho0))|((with_reducible refine gate_dst (N:=9) rfl ?_);refine box_event ?hg (N:=9) ?hd (cs:=#[.int .i64 0,.slice none 0 0]) (t:=30) ?hr ?_;(case hd=>rfl);(case hg=>rfl);(case hr=>first|(go_simp;done)|(go_simp;rfl));intro gb339 hg w48 hbox hb;have n0_:=Aside0.mk (R_below (rm HO323.out) hb);have n1_:=Aside0.mk (R_below (rm HO327.out) hb);have n2_:=Aside0.mk (R_below (rm HO333.out) hb);have n3_:=Aside0.mk (R_below (rm HO338.out) hb);have n4_:=Aside0.mk (blk_below (g:=gb316) (o:=.cells #[.int .i64 a0_0,.slice A0_1 l0_1.length c0_1] 27 (0,0)) (bm BK316.out) hb);have n5_:=Aside0.mk (blk_below (g:=gb317) (o:=.cells #[.int .i64 a1_0,.slice A1_1 l1_1.length c1_1] 27 (0,0)) (bm BK317.out) hb);have n6_:=Aside0.mk (blk_below (g:=gb334) (o:=.cells #[.int .i64 t330,.slice Ao45 t331.length co45] 30 (0,0)) (bm BK334.out) hb);have n7_:=Aside0.mk (below_step (h3 HB.out GE316.out GE317.out GE334.out) hb);have n8_:=Aside0.mk (hbox);have n9_:=Aside0.mk ((by rw [hg];exact (below_size (h3 HB.out GE316.out GE317.out GE334.out)) : w.heap.size ≤ gb339));have n10_:=Aside0.mk ((by rw [hg];exact (below_size (h3 HB.out GE316.out GE317.out GE334.out)) : w.heap.size ≤ gb339));have n11_:=Aside0.mk ((by rw [hg];exact Nat.ne_of_lt (blk_lt (g:=gb316) (bm BK316.out)) : gb316 ≠ gb339));have n12_:=Aside0.mk ((by rw [hg];exact Nat.ne_of_gt (blk_lt (g:=gb316) (bm BK316.out)) : gb339 ≠ gb316));have n13_:=Aside0.mk ((by rw [hg];exact Nat.ne_of_lt (blk_lt (g:=gb317) (bm BK317.out)) : gb317 ≠ gb339));have n14_:=Aside0.mk ((by rw [hg];exact Nat.ne_of_gt (blk_lt (g:=gb317) (bm BK317.out)) : gb339 ≠ gb317));have n15_:=Aside0.mk ((by rw [hg];exact Nat.ne_of_lt (blk_lt (g:=gb334) (bm BK334.out)) : gb334 ≠ gb339));have n16_:=Aside0.mk ((by rw [hg];exact Nat.ne_of_gt (blk_lt (g:=gb334) (bm BK334.out)) : gb339 ≠ gb334));clear HO323;clear HO327;clear HO333;clear HO338;clear BK316;clear BK317;clear BK334;clear HB;have HO323:=n0_;have HO327:=n1_;have HO333:=n2_;have HO338:=n3_;have BK316:=n4_;have BK317:=n5_;have BK334:=n6_;have HB:=n7_;have BK339:=n8_;have GW339:=n9_;have GE339:=n10_;have NB316_339:=n11_;have NB339_316:=n12_;have NB317_339:=n13_;have NB339_317:=n14_;have NB334_339:=n15_;have NB339_334:=n16_;clear n0_ n1_ n2_ n3_ n4_ n5_ n6_ n7_ n8_ n9_ n10_ n11_ n12_ n13_ n14_ n15_ n16_;clear hb hbox hg;have hnb49:=NB339_316.out;have hnc49:=NB316_339.out;have hnb50:=NB339_317.out;have hnc50:=NB317_339.out;have hnb51:=NB339_334.out;have hnc51:=NB334_339.out;have hcz52_0 : w48.cell? ⟨gb339,0,none⟩ = some (.int .i64 0):=(blk_cell BK339.out 0).trans rfl;have hcz52_1 : w48.cell? ⟨gb339,1,none⟩ = some (.slice none 0 0):=(blk_cell BK339.out 1).trans rfl;have hfz52_0:=blk_frozen BK339.out 0;have hfz52_1:=blk_frozen BK339.out 1;obtain ⟨Ao53,co53,eo53⟩:=R_slice HO338.out;subst eo53;have hcz54_0 : w48.cell? ⟨gb334,0,none⟩ = some (.int .i64 t330):=(blk_cell BK334.out 0).trans rfl;have hcz54_1 : w48.cell? ⟨gb334,1,none⟩ = some (.slice Ao45 t331.length co45):=(blk_cell BK334.out 1).trans rfl;have hfz54_0:=blk_frozen BK334.out 0;have hfz54_1:=blk_frozen BK334.out 1)|((with_reducible refine gate_callee (f:=44) rfl ?_);refine goesL_ (some 37) rfl rfl Try.func44 (by kernel_rfl) rfl #[.agg #[.int .i64 t330,.slice Ao45 t331.length co45],.agg #[.int .i64 t335,.slice Ao53 t336.length co53]] rfl (by (try simp only [List.map_toArray,List.map_cons,List.map_nil]);first|done|rfl|(simp only [List.length_drop,List.length_take];rfl)) ?_;(with_reducible refine (impl_AreSameForm.calls k t330 _ _ t331 t335 _ _ t336 t340 t341 _ ?side1 ?side2 ?side3 ?side4 A24.out).mono ?_);(case side1=>refine (R_reads' (e:=3) (base:=w.heap.size) (ok:=fun k_=>(((True ∧ some k_ ≠ (.slice Ao36 t321.length co36 : Value).ownBlock) ∧ some k_ ≠ (.slice Ao37 t325.length co37 : Value).ownBlock) ∧ some k_ ≠ (.slice Ao53 t336.length co53 : Value).ownBlock)) (n:=t331.length) (c:=co45) ?_).2.2;exact (by (with_reducible repeat (first|apply R_alloc|apply R_drewN|apply R_drew));exact (R_mono (R_far (p:=⟨gb339,1,none⟩) (R_far (p:=⟨gb339,0,none⟩) (R_types HO333.out BK339.out (by decide)) (fun _ hk=>hk.2) (.int .i64 t335)) (fun _ hk=>hk.2) (.slice Ao53 t336.length co53)) (fun _ h_=>h_.1))));(case side2=>exact (R_reads' HO333.out).2.1);(case side3=>refine (R_reads' (e:=3) (base:=w.heap.size) (ok:=fun k_=>(((True ∧ some k_ ≠ (.slice Ao36 t321.length co36 : Value).ownBlock) ∧ some k_ ≠ (.slice Ao37 t325.length co37 : Value).ownBlock) ∧ some k_ ≠ (.slice Ao45 t331.length co45 : Value).ownBlock)) (n:=t336.length) (c:=co53) ?_).2.2;exact (by (with_reducible repeat (first|apply R_alloc|apply R_drewN|apply R_drew));exact (R_mono (R_far (p:=⟨gb339,1,none⟩) (R_far (p:=⟨gb339,0,none⟩) (R_types HO338.out BK339.out (by decide)) (fun _ hk=>hk.2) (.int .i64 t335)) (fun _ hk=>hk.2) (.slice Ao53 t336.length co53)) (fun _ h_=>h_.1))));(case side4=>exact (R_reads' HO338.out).2.1);rintro e w55 ⟨rfl,hb⟩;refine ⟨_,rfl,?_⟩;have n0_:=Aside0.mk (R_below (by (with_reducible repeat (first|apply R_alloc|apply R_drewN|apply R_drew));exact (R_mono (R_far (p:=⟨gb339,1,none⟩) (R_far (p:=⟨gb339,0,none⟩) (R_types HO323.out BK339.out (by decide)) (fun _ hk=>hk.2) (.int .i64 t335)) (fun _ hk=>hk.2) (.slice Ao53 t336.length co53)) (fun _ h_=>h_.1))) hb);have n1_:=Aside0.mk (R_below (by (with_reducible repeat (first|apply R_alloc|apply R_drewN|apply R_drew));exact (R_mono (R_far (p:=⟨gb339,1,none⟩) (R_far (p:=⟨gb339,0,none⟩) (R_types HO327.out BK339.out (by decide)) (fun _ hk=>hk.2) (.int .i64 t335)) (fun _ hk=>hk.2) (.slice Ao53 t336.length co53)) (fun _ h_=>h_.1))) hb);have n2_:=Aside0.mk (R_below (by (with_reducible repeat (first|apply R_alloc|apply R_drewN|apply R_drew));exact (R_mono (R_far (p:=⟨gb339,1,none⟩) (R_far (p:=⟨gb339,0,none⟩) (R_types HO333.out BK339.out (by decide)) (fun _ hk=>hk.2) (.int .i64 t335)) (fun _ hk=>hk.2) (.slice Ao53 t336.length co53)) (fun _ h_=>h_.1))) hb);have n3_:=Aside0.mk (R_below (by (with_reducible repeat (first|apply R_alloc|apply R_drewN|apply R_drew));exact (R_mono (R_far (p:=⟨gb339,1,none⟩) (R_far (p:=⟨gb339,0,none⟩) (R_types HO338.out BK339.out (by decide)) (fun _ hk=>hk.2) (.int .i64 t335)) (fun _ hk=>hk.2) (.slice Ao53 t336.length co53)) (fun _ h_=>h_.1))) hb);have n4_:=Aside0.mk (blk_below (g:=gb316) (o:=.cells #[.int .i64 a0_0,.slice A0_1 l0_1.length c0_1] 27 (0,0)) (by (with_reducible repeat (first|apply blk_drewN|apply blk_drew|apply blk_alloc));refine blk_far ?_ NB316_339.out _;(with_reducible repeat (first|apply blk_drewN|apply blk_drew|apply blk_alloc));refine blk_far ?_ NB316_339.out _;(with_reducible repeat (first|apply blk_drewN|apply blk_drew|apply blk_alloc));exact BK316.out) hb);have n5_:=Aside0.mk (blk_below (g:=gb317) (o:=.cells #[.int .i64 a1_0,.slice A1_1 l1_1.length c1_1] 27 (0,0)) (by (with_reducible repeat (first|apply blk_drewN|apply blk_drew|apply blk_alloc));refine blk_far ?_ NB317_339.out _;(with_reducible repeat (first|apply blk_drewN|apply blk_drew|apply blk_alloc));refine blk_far ?_ NB317_339.out _;(with_reducible repeat (first|apply blk_drewN|apply blk_drew|apply blk_alloc));exact BK317.out) hb);have n6_:=Aside0.mk (blk_below (g:=gb334) (o:=.cells #[.int .i64 t330,.slice Ao45 t331.length co45] 30 (0,0)) (by (with_reducible repeat (first|apply blk_drewN|apply blk_drew|apply blk_alloc));refine blk_far ?_ NB334_339.out _;(with_reducible repeat (first|apply blk_drewN|apply blk_drew|apply blk_alloc));refine blk_far ?_ NB334_339.out _;(with_reducible repeat (first|apply blk_drewN|apply blk_drew|apply blk_alloc));exact BK334.out) hb);have n7_:=Aside0.mk (blk_below (g:=gb339) (o:=.cells #[.int .i64 t335,.slice Ao53 t336.length co53] 30 (0,0)) (by (with_reducible repeat (first|apply blk_drewN|apply blk_drew|apply blk_alloc));refine blk_put (cs:=#[.int .i64 t335,.slice none 0 0]) ?_ 1 _ rfl;(with_reducible repeat (first|apply blk_drewN|apply blk_drew|apply blk_alloc));refine blk_put (cs:=#[.int .i64 0,.slice none 0 0]) ?_ 0 _ rfl;(with_reducible repeat (first|apply blk_drewN|apply blk_drew|apply blk_alloc));exact BK339.out) hb);have n8_:=Aside0.mk (below_step (by repeat (first|(with_reducible first|exact HB.out|apply below_alloc|apply pw_below_drewN|apply below_drew1|refine below_set ?_ GE316.out|refine below_set ?_ GE317.out|refine below_set ?_ GE334.out|refine below_set ?_ GE339.out)|exact HB.out)) hb);clear HO323;clear HO327;clear HO333;clear HO338;clear BK316;clear BK317;clear BK334;clear BK339;clear HB;have HO323:=n0_;have HO327:=n1_;have HO333:=n2_;have HO338:=n3_;have BK316:=n4_;have BK317:=n5_;have BK334:=n6_;have BK339:=n7_;have HB:=n8_;clear n0_ n1_ n2_ n3_ n4_ n5_ n6_ n7_ n8_;(try clear hb);(try clear hb2);(try clear hk);(try clear hi)))
 (try simp only [ap])
 go_cut [47] (fun v47 wc=>∃ (kq : Nat) (x47_24 : Bool),v47 = .bool x47_24 ∧ Aside0 (laws_FnExactAreSameForm.j0 kq x47_24 a0_0 l0_1 a1_0 l1_1 t330 t331 t335 t336 = some r) ∧ Aside0 (kq ≤ k) ∧ Aside0 (Kd.R (Kd.int .i64) 3 wc w.heap.size (fun k_=>some k_ ≠ ((.slice Ao53 t336.length co53) : Value).ownBlock) (.slice Ao45 t331.length co45) t331) ∧ Aside0 (Kd.R (Kd.int .i64) 3 wc w.heap.size (fun k_=>some k_ ≠ ((.slice Ao45 t331.length co45) : Value).ownBlock) (.slice Ao53 t336.length co53) t336) ∧ Aside0 (wc.heap[gb316]? = some (.cells #[.int .i64 a0_0,(.slice A0_1 l0_1.length c0_1)] 27 (0,0))) ∧ Aside0 (wc.heap[gb317]? = some (.cells #[.int .i64 a1_0,(.slice A1_1 l1_1.length c1_1)] 27 (0,0))) ∧ Aside0 (wc.heap[gb334]? = some (.cells #[.int .i64 t330,(.slice Ao45 t331.length co45)] 30 (0,0))) ∧ Aside0 (wc.heap[gb339]? = some (.cells #[.int .i64 t335,(.slice Ao53 t336.length co53)] 30 (0,0))) ∧ Aside0 (Below w.heap.size w wc))
 case first =>
  have H:=HC25.out
  clear HC25
  by_cases c56 : (t340 != t328) = true
  rotate_left
  ·rw [if_neg c56] at H
   have c56b0 : (t340 != t328) = false:=by simpa using c56
   (try (have c56b1 : decide (t340 = t328) = true:=by simpa using c56))
   (try (have c56b2 : (t340 == t328) = true:=by simpa using c56))
   clear c56
   (first|rw [c56b0]|(simp only [i64_w,i32_w];rw [c56b0])|skip)
   have H':=Aside0.mk H
   clear H
   go_wp2
   go_meet
   case rel=>exact ⟨_,((t341 != t329)),(by first|rfl|(simp;done)|(simp [*];done)),H',⟨by first|omega|exact Nat.le_refl _⟩,⟨rm (R_mono HO333.out (fun _ hk=>hk.2))⟩,⟨rm (R_mono HO338.out (fun _ hk=>hk.2))⟩,⟨bm BK316.out⟩,⟨bm BK317.out⟩,⟨bm BK334.out⟩,⟨bm BK339.out⟩,⟨by repeat (first|(with_reducible first|exact HB.out|apply below_alloc|apply pw_below_drewN|apply below_drew1|refine below_set ?_ GE316.out|refine below_set ?_ GE317.out|refine below_set ?_ GE334.out|refine below_set ?_ GE339.out)|exact HB.out)⟩⟩
  rw [if_pos c56] at H
  have c56b0 : (t340 != t328) = true:=c56
  (try (have c56b1 : decide (t340 = t328) = false:=by simpa using c56))
  (try (have c56b2 : (t340 == t328) = false:=by simpa using c56))
  (try (have c56b3 : ¬ (t340 = t328):=by simpa using c56))
  clear c56
  (first|rw [c56b0]|(simp only [i64_w,i32_w];rw [c56b0])|skip)
  have H':=Aside0.mk H
  clear H
  go_wp2
  go_meet
  case rel=>exact ⟨_,(true),(by first|rfl|(simp;done)|(simp [*];done)),H',⟨by first|omega|exact Nat.le_refl _⟩,⟨rm (R_mono HO333.out (fun _ hk=>hk.2))⟩,⟨rm (R_mono HO338.out (fun _ hk=>hk.2))⟩,⟨bm BK316.out⟩,⟨bm BK317.out⟩,⟨bm BK334.out⟩,⟨bm BK339.out⟩,⟨by repeat (first|(with_reducible first|exact HB.out|apply below_alloc|apply pw_below_drewN|apply below_drew1|refine below_set ?_ GE316.out|refine below_set ?_ GE317.out|refine below_set ?_ GE334.out|refine below_set ?_ GE339.out)|exact HB.out)⟩⟩
 clear HC25
 try clear c1
 try clear c2
 try clear p2
 try clear c4
 try clear c4b0
 try clear c5
 try clear c7
 try clear c11
 try clear c11b0
 try clear c13
 try clear c14
 try clear c18
 try clear c20
 try clear c28
 try clear c42
 try clear c43
 try clear c44
 try clear c49
 try clear c50
 try clear c51
 try clear c56
 try clear c56b0
 try clear c56b1
 try clear c56b2
 try clear hcz15_0
 try clear hcz15_1
 try clear hcz17_0
 try clear hcz17_1
 try clear hcz29_0
 try clear hcz29_1
 try clear hcz31_0
 try clear hcz31_1
 try clear hcz39_0
 try clear hcz39_1
 try clear hcz44_0
 try clear hcz44_1
 try clear hcz46_0
 try clear hcz46_1
 try clear hcz52_0
 try clear hcz52_1
 try clear hcz54_0
 try clear hcz54_1
 try clear hcz8_0
 try clear hcz8_1
 try clear hfz15_0
 try clear hfz15_1
 try clear hfz17_0
 try clear hfz17_1
 try clear hfz29_0
 try clear hfz29_1
 try clear hfz31_0
 try clear hfz31_1
 try clear hfz39_0
 try clear hfz39_1
 try clear hfz44_0
 try clear hfz44_1
 try clear hfz46_0
 try clear hfz46_1
 try clear hfz52_0
 try clear hfz52_1
 try clear hfz54_0
 try clear hfz54_1
 try clear hfz8_0
 try clear hfz8_1
 obtain ⟨kq,x47_24,rfl,HA,HJ24,HO_335001,HO_340001,BK316,BK317,BK334,BK339,HB⟩:=hcut
 cases kq with
 | zero=>exact absurd HA.out (by simp [laws_FnExactAreSameForm.j0])
 | succ kj24 =>
  have H:=HA.out
  clear HA
  simp only [laws_FnExactAreSameForm.j0] at H
  by_cases c57 : x47_24 = true
  ·subst c57
   have H1 : (some false) = some r:=by rw [if_pos rfl] at H;exact H
   clear H
   have H:=H1
   clear H1
   obtain rfl:=Option.some.inj H
   go_wp2
   go_ret
   exact ⟨by first|rfl|(simp [errW_none,errW_some] <;> rfl)|(simp [*,errW_none,errW_some] <;> rfl),by repeat (first|(with_reducible first|exact HB.out|apply below_alloc|apply pw_below_drewN|apply below_drew1|refine below_set ?_ GE316.out|refine below_set ?_ GE317.out|refine below_set ?_ GE334.out|refine below_set ?_ GE339.out)|exact HB.out)⟩
  replace c57:=Bool.eq_false_iff.mpr c57
  subst c57
  have H1 : ((laws_toCrowd.f kj24 a0_0 l0_1).bind fun bt342=>((laws_eqCrowd.f kj24 t330 t331 bt342.1 bt342.2).bind fun t346=>(if t346 = true then ((laws_toCrowd.f kj24 a1_0 l1_1).bind fun bt347=>((laws_eqCrowd.f kj24 t335 t336 bt347.1 bt347.2).bind fun t351=>(if t351 = true then (some true) else (some false)))) else (some false)))) = some r:=by rw [if_neg (show ¬ (false = true) by decide)] at H;exact H
  clear H
  have H:=H1
  clear H1
  replace H:=Option.bind_eq_some_iff.mp H
  obtain ⟨⟨t342,t343⟩,A580,H⟩:=H
  replace H : ((laws_eqCrowd.f kj24 t330 t331 t342 t343).bind fun t346=>(if t346 = true then ((laws_toCrowd.f kj24 a1_0 l1_1).bind fun bt347=>((laws_eqCrowd.f kj24 t335 t336 bt347.1 bt347.2).bind fun t351=>(if t351 = true then (some true) else (some false)))) else (some false))) = some r:=H
  have A58:=Aside0.mk A580
  clear A580
  replace H:=Option.bind_eq_some_iff.mp H
  obtain ⟨t346,A590,H⟩:=H
  replace H : (if t346 = true then ((laws_toCrowd.f kj24 a1_0 l1_1).bind fun bt347=>((laws_eqCrowd.f kj24 t335 t336 bt347.1 bt347.2).bind fun t351=>(if t351 = true then (some true) else (some false)))) else (some false)) = some r:=H
  have A59:=Aside0.mk A590
  clear A590
  by_cases c60 : t346 = true
  rotate_left
  ·replace c60:=Bool.eq_false_iff.mpr c60
   subst c60
   have H1 : (some false) = some r:=by rw [if_neg (show ¬ (false = true) by decide)] at H;exact H
   clear H
   have H:=H1
   clear H1
   obtain rfl:=Option.some.inj H
   try go_wp2
   have n0_:=Aside0.mk (R_drew HO_335001.out)
   have n1_:=Aside0.mk (R_drew HO_340001.out)
   have n2_:=Aside0.mk (blk_drew BK316.out)
   have n3_:=Aside0.mk (blk_drew BK317.out)
   have n4_:=Aside0.mk (blk_drew BK334.out)
   have n5_:=Aside0.mk (blk_drew BK339.out)
   have n6_:=Aside0.mk (below_drew1 HB.out)
   clear HO_335001
   clear HO_340001
   clear BK316
   clear BK317
   clear BK334
   clear BK339
   clear HB
   have HO_335001:=n0_
   have HO_340001:=n1_
   have BK316:=n2_
   have BK317:=n3_
   have BK334:=n4_
   have BK339:=n5_
   have HB:=n6_
   clear n0_ n1_ n2_ n3_ n4_ n5_ n6_
   refine start_ (n:=5) (S:=fun w'=>w'.cell? ⟨gb334,0,none⟩ = some (.int .i64 t330) ∧ w'.cell? ⟨gb334,1,none⟩ = some (.slice Ao45 t331.length co45) ∧ w'.cell? ⟨gb316,0,none⟩ = some (.int .i64 a0_0) ∧ w'.cell? ⟨gb316,1,none⟩ = some (.slice A0_1 l0_1.length c0_1)) (ds:=[]) (lb 5 0) (by kernel_rfl) rfl rfl ⟨(blk_cell BK334.out 0).trans rfl,(blk_cell BK334.out 1).trans rfl,(blk_cell BK316.out 0).trans rfl,(blk_cell BK316.out 1).trans rfl⟩ (fun hHeld=>?_)
   generalize wc.drew = w80 at HO_335001 HO_340001 BK316 BK317 BK334 BK339 HB hHeld ⊢
   refine take_ (i:=0) (N:=some 48) (v:=?_) (a':=?_) (lb 5 1) rfl rfl (by kernel_rfl) (fun _ _ _ h=>h) (Or.inl ⟨by rfl,?_⟩) hHeld ?_ ?_
   rotate_left
   ·rintro w' ⟨s0,s1,s2,s3⟩
    go_simp
    with_reducible rfl
   rotate_left
   ·simp only [ap]
    rfl
   refine take_ (i:=1) (N:=some 49) (v:=?_) (a':=?_) (lb 5 3) rfl rfl (by kernel_rfl) (fun _ _ _ h=>h) (Or.inl ⟨by rfl,?_⟩) hHeld ?_ ?_
   rotate_left
   ·rintro w' ⟨s0,s1,s2,s3⟩
    go_simp
    with_reducible rfl
   rotate_left
   ·simp only [ap]
    rfl
   refine one_ (i:=2) (N:=some 50) (lb 5 7) rfl rfl (by kernel_rfl) (by decide) (fun K hK=>?_)
   refine goes_ Try.func20 (by kernel_rfl) rfl #[.agg #[.int .i64 a0_0,.slice A0_1 l0_1.length c0_1]] (by rfl) rfl rfl (by (try simp only [List.map_toArray,List.map_cons,List.map_nil]);first|done|rfl|(simp only [List.length_drop,List.length_take];rfl)) ?_
   with_reducible refine (laws_toCrowd.calls kj24 a0_0 _ _ l0_1 t342 t343 _ ?side1 ?side2 A58.out).mono ?_
   (case side1=>exact cm (C_below HR0_1.out HB.out))
   (case side2=>exact HC0_1.out)
   rintro e w81 ⟨v344,rfl,ho0,hb⟩
   refine ⟨_,rfl,?_⟩
   have n0_:=Aside0.mk (R_elder' (rm HO_335001.out) (R_base ho0) hb)
   have n1_:=Aside0.mk (R_elder' (rm HO_340001.out) (R_base ho0) hb)
   have n2_:=Aside0.mk (R_lower (R_new' (R_new' ho0 (R_lt (rm HO_335001.out))) (R_lt (rm HO_340001.out))) (below_size (by repeat (first|(with_reducible first|exact HB.out|apply below_alloc|apply pw_below_drewN|apply below_drew1|refine below_set ?_ GE316.out|refine below_set ?_ GE317.out|refine below_set ?_ GE334.out|refine below_set ?_ GE339.out)|exact HB.out))))
   have n3_:=Aside0.mk (blk_below (g:=gb316) (o:=.cells #[.int .i64 a0_0,.slice A0_1 l0_1.length c0_1] 27 (0,0)) (bm BK316.out) hb)
   have n4_:=Aside0.mk (blk_below (g:=gb317) (o:=.cells #[.int .i64 a1_0,.slice A1_1 l1_1.length c1_1] 27 (0,0)) (bm BK317.out) hb)
   have n5_:=Aside0.mk (blk_below (g:=gb334) (o:=.cells #[.int .i64 t330,.slice Ao45 t331.length co45] 30 (0,0)) (bm BK334.out) hb)
   have n6_:=Aside0.mk (blk_below (g:=gb339) (o:=.cells #[.int .i64 t335,.slice Ao53 t336.length co53] 30 (0,0)) (bm BK339.out) hb)
   have n7_:=Aside0.mk (below_step (by repeat (first|(with_reducible first|exact HB.out|apply below_alloc|apply pw_below_drewN|apply below_drew1|refine below_set ?_ GE316.out|refine below_set ?_ GE317.out|refine below_set ?_ GE334.out|refine below_set ?_ GE339.out)|exact HB.out)) hb)
   clear HO_335001
   clear HO_340001
   clear BK316
   clear BK317
   clear BK334
   clear BK339
   clear HB
   have HO_335001:=n0_
   have HO_340001:=n1_
   have HO345:=n2_
   have BK316:=n3_
   have BK317:=n4_
   have BK334:=n5_
   have BK339:=n6_
   have HB:=n7_
   clear n0_ n1_ n2_ n3_ n4_ n5_ n6_ n7_
   (try clear hb)
   (try clear hb2)
   (try clear hk)
   (try clear hi)
   (try clear ho0)
   obtain ⟨Ao82,co82,eo82⟩:=R_slice HO345.out
   (first|subst eo82|(injection eo82 with f1_ f2_ f3_;have f4_:=f1_.symm;have f5_:=f3_.symm;clear f1_ f2_ f3_;subst f4_;subst f5_))
   refine hK.out _ _ ⟨(blk_cell BK334.out 0).trans rfl,(blk_cell BK334.out 1).trans rfl,(blk_cell BK316.out 0).trans rfl,(blk_cell BK316.out 1).trans rfl⟩ (fun hHeld=>?_)
   clear hK K
   refine norm_ (a':=?_) ?_ ?_
   rotate_left
   ·show Act.put _ (some 50) _ = _
    simp only [ap]
    rfl
   refine one_ (i:=3) (N:=some 51) (lb 5 15) rfl rfl (by kernel_rfl) (by decide) (fun K hK=>?_)
   refine goes_ Try.func22 (by kernel_rfl) rfl #[.agg #[.int .i64 t330,.slice Ao45 t331.length co45],.agg #[.int .i64 t342,.slice Ao82 t343.length co82]] (by rfl) rfl rfl (by (try simp only [List.map_toArray,List.map_cons,List.map_nil]);first|done|rfl|(simp only [List.length_drop,List.length_take];rfl)) ?_
   with_reducible refine (laws_eqCrowd.calls kj24 t330 _ _ t331 t342 _ _ t343 false _ ?side1 ?side2 ?side3 ?side4 A59.out).mono ?_
   (case side1=>exact cm (R_reads' HO_335001.out).2.2)
   (case side2=>exact (R_reads' HO_335001.out).2.1)
   (case side3=>exact cm (R_reads' HO345.out).2.2)
   (case side4=>exact (R_reads' HO345.out).2.1)
   rintro e w83 ⟨rfl,hb⟩
   refine ⟨_,rfl,?_⟩
   have n0_:=Aside0.mk (R_below (rm HO_335001.out) hb)
   have n1_:=Aside0.mk (R_below (rm HO_340001.out) hb)
   have n2_:=Aside0.mk (R_below (rm HO345.out) hb)
   have n3_:=Aside0.mk (blk_below (g:=gb316) (o:=.cells #[.int .i64 a0_0,.slice A0_1 l0_1.length c0_1] 27 (0,0)) (bm BK316.out) hb)
   have n4_:=Aside0.mk (blk_below (g:=gb317) (o:=.cells #[.int .i64 a1_0,.slice A1_1 l1_1.length c1_1] 27 (0,0)) (bm BK317.out) hb)
   have n5_:=Aside0.mk (blk_below (g:=gb334) (o:=.cells #[.int .i64 t330,.slice Ao45 t331.length co45] 30 (0,0)) (bm BK334.out) hb)
   have n6_:=Aside0.mk (blk_below (g:=gb339) (o:=.cells #[.int .i64 t335,.slice Ao53 t336.length co53] 30 (0,0)) (bm BK339.out) hb)
   have n7_:=Aside0.mk (below_step (by repeat (first|(with_reducible first|exact HB.out|apply below_alloc|apply pw_below_drewN|apply below_drew1|refine below_set ?_ GE316.out|refine below_set ?_ GE317.out|refine below_set ?_ GE334.out|refine below_set ?_ GE339.out)|exact HB.out)) hb)
   clear HO_335001
   clear HO_340001
   clear HO345
   clear BK316
   clear BK317
   clear BK334
   clear BK339
   clear HB
   have HO_335001:=n0_
   have HO_340001:=n1_
   have HO345:=n2_
   have BK316:=n3_
   have BK317:=n4_
   have BK334:=n5_
   have BK339:=n6_
   have HB:=n7_
   clear n0_ n1_ n2_ n3_ n4_ n5_ n6_ n7_
   (try clear hb)
   (try clear hb2)
   (try clear hk)
   (try clear hi)
   refine hK.out _ _ ⟨(blk_cell BK334.out 0).trans rfl,(blk_cell BK334.out 1).trans rfl,(blk_cell BK316.out 0).trans rfl,(blk_cell BK316.out 1).trans rfl⟩ (fun hHeld=>?_)
   clear hK K
   refine norm_ (a':=?_) ?_ ?_
   rotate_left
   ·show Act.put _ (some 51) _ = _
    simp only [ap]
    rfl
   refine pure_ (i:=4) (N:=some 52) (v:=?_) (a':=?_) (lb 5 31) rfl rfl (by kernel_rfl) (fun _ _ _ h=>h) (Or.inl ⟨by rfl,?_⟩) ?_ ?_
   rotate_left
   ·intro w'
    go_simp
    with_reducible rfl
   rotate_left
   ·simp only [ap]
    rfl
   refine done_ (by kernel_rfl) ?_
   try go_wp2
   go_ret
   exact ⟨by first|rfl|(simp [errW_none,errW_some] <;> rfl)|(simp [*,errW_none,errW_some] <;> rfl),by repeat (first|(with_reducible first|exact HB.out|apply below_alloc|apply pw_below_drewN|apply below_drew1|refine below_set ?_ GE316.out|refine below_set ?_ GE317.out|refine below_set ?_ GE334.out|refine below_set ?_ GE339.out)|exact HB.out)⟩
  subst c60
  have H1 : ((laws_toCrowd.f kj24 a1_0 l1_1).bind fun bt347=>((laws_eqCrowd.f kj24 t335 t336 bt347.1 bt347.2).bind fun t351=>(if t351 = true then (some true) else (some false)))) = some r:=by rw [if_pos rfl] at H;exact H
  clear H
  have H:=H1
  clear H1
  replace H:=Option.bind_eq_some_iff.mp H
  obtain ⟨⟨t347,t348⟩,A610,H⟩:=H
  replace H : ((laws_eqCrowd.f kj24 t335 t336 t347 t348).bind fun t351=>(if t351 = true then (some true) else (some false))) = some r:=H
  have A61:=Aside0.mk A610
  clear A610
  replace H:=Option.bind_eq_some_iff.mp H
  obtain ⟨t351,A620,H⟩:=H
  replace H : (if t351 = true then (some true) else (some false)) = some r:=H
  have A62:=Aside0.mk A620
  clear A620
  by_cases c63 : t351 = true
  ·subst c63
   have H1 : (some true) = some r:=by rw [if_pos rfl] at H;exact H
   clear H
   have H:=H1
   clear H1
   obtain rfl:=Option.some.inj H
   try go_wp2
   have n0_:=Aside0.mk (R_drew HO_335001.out)
   have n1_:=Aside0.mk (R_drew HO_340001.out)
   have n2_:=Aside0.mk (blk_drew BK316.out)
   have n3_:=Aside0.mk (blk_drew BK317.out)
   have n4_:=Aside0.mk (blk_drew BK334.out)
   have n5_:=Aside0.mk (blk_drew BK339.out)
   have n6_:=Aside0.mk (below_drew1 HB.out)
   clear HO_335001
   clear HO_340001
   clear BK316
   clear BK317
   clear BK334
   clear BK339
   clear HB
   have HO_335001:=n0_
   have HO_340001:=n1_
   have BK316:=n2_
   have BK317:=n3_
   have BK334:=n4_
   have BK339:=n5_
   have HB:=n6_
   clear n0_ n1_ n2_ n3_ n4_ n5_ n6_
   refine start_ (n:=5) (S:=fun w'=>w'.cell? ⟨gb334,0,none⟩ = some (.int .i64 t330) ∧ w'.cell? ⟨gb334,1,none⟩ = some (.slice Ao45 t331.length co45) ∧ w'.cell? ⟨gb316,0,none⟩ = some (.int .i64 a0_0) ∧ w'.cell? ⟨gb316,1,none⟩ = some (.slice A0_1 l0_1.length c0_1)) (ds:=[]) (lb 5 0) (by kernel_rfl) rfl rfl ⟨(blk_cell BK334.out 0).trans rfl,(blk_cell BK334.out 1).trans rfl,(blk_cell BK316.out 0).trans rfl,(blk_cell BK316.out 1).trans rfl⟩ (fun hHeld=>?_)
   generalize wc.drew = w64 at HO_335001 HO_340001 BK316 BK317 BK334 BK339 HB hHeld ⊢
   refine take_ (i:=0) (N:=some 48) (v:=?_) (a':=?_) (lb 5 1) rfl rfl (by kernel_rfl) (fun _ _ _ h=>h) (Or.inl ⟨by rfl,?_⟩) hHeld ?_ ?_
   rotate_left
   ·rintro w' ⟨s0,s1,s2,s3⟩
    go_simp
    with_reducible rfl
   rotate_left
   ·simp only [ap]
    rfl
   refine take_ (i:=1) (N:=some 49) (v:=?_) (a':=?_) (lb 5 3) rfl rfl (by kernel_rfl) (fun _ _ _ h=>h) (Or.inl ⟨by rfl,?_⟩) hHeld ?_ ?_
   rotate_left
   ·rintro w' ⟨s0,s1,s2,s3⟩
    go_simp
    with_reducible rfl
   rotate_left
   ·simp only [ap]
    rfl
   refine one_ (i:=2) (N:=some 50) (lb 5 7) rfl rfl (by kernel_rfl) (by decide) (fun K hK=>?_)
   refine goes_ Try.func20 (by kernel_rfl) rfl #[.agg #[.int .i64 a0_0,.slice A0_1 l0_1.length c0_1]] (by rfl) rfl rfl (by (try simp only [List.map_toArray,List.map_cons,List.map_nil]);first|done|rfl|(simp only [List.length_drop,List.length_take];rfl)) ?_
   with_reducible refine (laws_toCrowd.calls kj24 a0_0 _ _ l0_1 t342 t343 _ ?side1 ?side2 A58.out).mono ?_
   (case side1=>exact cm (C_below HR0_1.out HB.out))
   (case side2=>exact HC0_1.out)
   rintro e w65 ⟨v344,rfl,ho0,hb⟩
   refine ⟨_,rfl,?_⟩
   have n0_:=Aside0.mk (R_elder' (rm HO_335001.out) (R_base ho0) hb)
   have n1_:=Aside0.mk (R_elder' (rm HO_340001.out) (R_base ho0) hb)
   have n2_:=Aside0.mk (R_lower (R_new' (R_new' ho0 (R_lt (rm HO_335001.out))) (R_lt (rm HO_340001.out))) (below_size (by repeat (first|(with_reducible first|exact HB.out|apply below_alloc|apply pw_below_drewN|apply below_drew1|refine below_set ?_ GE316.out|refine below_set ?_ GE317.out|refine below_set ?_ GE334.out|refine below_set ?_ GE339.out)|exact HB.out))))
   have n3_:=Aside0.mk (blk_below (g:=gb316) (o:=.cells #[.int .i64 a0_0,.slice A0_1 l0_1.length c0_1] 27 (0,0)) (bm BK316.out) hb)
   have n4_:=Aside0.mk (blk_below (g:=gb317) (o:=.cells #[.int .i64 a1_0,.slice A1_1 l1_1.length c1_1] 27 (0,0)) (bm BK317.out) hb)
   have n5_:=Aside0.mk (blk_below (g:=gb334) (o:=.cells #[.int .i64 t330,.slice Ao45 t331.length co45] 30 (0,0)) (bm BK334.out) hb)
   have n6_:=Aside0.mk (blk_below (g:=gb339) (o:=.cells #[.int .i64 t335,.slice Ao53 t336.length co53] 30 (0,0)) (bm BK339.out) hb)
   have n7_:=Aside0.mk (below_step (by repeat (first|(with_reducible first|exact HB.out|apply below_alloc|apply pw_below_drewN|apply below_drew1|refine below_set ?_ GE316.out|refine below_set ?_ GE317.out|refine below_set ?_ GE334.out|refine below_set ?_ GE339.out)|exact HB.out)) hb)
   clear HO_335001
   clear HO_340001
   clear BK316
   clear BK317
   clear BK334
   clear BK339
   clear HB
   have HO_335001:=n0_
   have HO_340001:=n1_
   have HO345:=n2_
   have BK316:=n3_
   have BK317:=n4_
   have BK334:=n5_
   have BK339:=n6_
   have HB:=n7_
   clear n0_ n1_ n2_ n3_ n4_ n5_ n6_ n7_
   (try clear hb)
   (try clear hb2)
   (try clear hk)
   (try clear hi)
   (try clear ho0)
   obtain ⟨Ao66,co66,eo66⟩:=R_slice HO345.out
   (first|subst eo66|(injection eo66 with f1_ f2_ f3_;have f4_:=f1_.symm;have f5_:=f3_.symm;clear f1_ f2_ f3_;subst f4_;subst f5_))
   refine hK.out _ _ ⟨(blk_cell BK334.out 0).trans rfl,(blk_cell BK334.out 1).trans rfl,(blk_cell BK316.out 0).trans rfl,(blk_cell BK316.out 1).trans rfl⟩ (fun hHeld=>?_)
   clear hK K
   refine norm_ (a':=?_) ?_ ?_
   rotate_left
   ·show Act.put _ (some 50) _ = _
    simp only [ap]
    rfl
   refine one_ (i:=3) (N:=some 51) (lb 5 15) rfl rfl (by kernel_rfl) (by decide) (fun K hK=>?_)
   refine goes_ Try.func22 (by kernel_rfl) rfl #[.agg #[.int .i64 t330,.slice Ao45 t331.length co45],.agg #[.int .i64 t342,.slice Ao66 t343.length co66]] (by rfl) rfl rfl (by (try simp only [List.map_toArray,List.map_cons,List.map_nil]);first|done|rfl|(simp only [List.length_drop,List.length_take];rfl)) ?_
   with_reducible refine (laws_eqCrowd.calls kj24 t330 _ _ t331 t342 _ _ t343 true _ ?side1 ?side2 ?side3 ?side4 A59.out).mono ?_
   (case side1=>exact cm (R_reads' HO_335001.out).2.2)
   (case side2=>exact (R_reads' HO_335001.out).2.1)
   (case side3=>exact cm (R_reads' HO345.out).2.2)
   (case side4=>exact (R_reads' HO345.out).2.1)
   rintro e w67 ⟨rfl,hb⟩
   refine ⟨_,rfl,?_⟩
   have n0_:=Aside0.mk (R_below (rm HO_335001.out) hb)
   have n1_:=Aside0.mk (R_below (rm HO_340001.out) hb)
   have n2_:=Aside0.mk (R_below (rm HO345.out) hb)
   have n3_:=Aside0.mk (blk_below (g:=gb316) (o:=.cells #[.int .i64 a0_0,.slice A0_1 l0_1.length c0_1] 27 (0,0)) (bm BK316.out) hb)
   have n4_:=Aside0.mk (blk_below (g:=gb317) (o:=.cells #[.int .i64 a1_0,.slice A1_1 l1_1.length c1_1] 27 (0,0)) (bm BK317.out) hb)
   have n5_:=Aside0.mk (blk_below (g:=gb334) (o:=.cells #[.int .i64 t330,.slice Ao45 t331.length co45] 30 (0,0)) (bm BK334.out) hb)
   have n6_:=Aside0.mk (blk_below (g:=gb339) (o:=.cells #[.int .i64 t335,.slice Ao53 t336.length co53] 30 (0,0)) (bm BK339.out) hb)
   have n7_:=Aside0.mk (below_step (by repeat (first|(with_reducible first|exact HB.out|apply below_alloc|apply pw_below_drewN|apply below_drew1|refine below_set ?_ GE316.out|refine below_set ?_ GE317.out|refine below_set ?_ GE334.out|refine below_set ?_ GE339.out)|exact HB.out)) hb)
   clear HO_335001
   clear HO_340001
   clear HO345
   clear BK316
   clear BK317
   clear BK334
   clear BK339
   clear HB
   have HO_335001:=n0_
   have HO_340001:=n1_
   have HO345:=n2_
   have BK316:=n3_
   have BK317:=n4_
   have BK334:=n5_
   have BK339:=n6_
   have HB:=n7_
   clear n0_ n1_ n2_ n3_ n4_ n5_ n6_ n7_
   (try clear hb)
   (try clear hb2)
   (try clear hk)
   (try clear hi)
   refine hK.out _ _ ⟨(blk_cell BK334.out 0).trans rfl,(blk_cell BK334.out 1).trans rfl,(blk_cell BK316.out 0).trans rfl,(blk_cell BK316.out 1).trans rfl⟩ (fun hHeld=>?_)
   clear hK K
   refine norm_ (a':=?_) ?_ ?_
   rotate_left
   ·show Act.put _ (some 51) _ = _
    simp only [ap]
    rfl
   refine pure_ (i:=4) (N:=some 52) (v:=?_) (a':=?_) (lb 5 31) rfl rfl (by kernel_rfl) (fun _ _ _ h=>h) (Or.inl ⟨by rfl,?_⟩) ?_ ?_
   rotate_left
   ·intro w'
    go_simp
    with_reducible rfl
   rotate_left
   ·simp only [ap]
    rfl
   refine done_ (by kernel_rfl) ?_
   try go_wp2
   have n0_:=Aside0.mk (R_drew HO_335001.out)
   have n1_:=Aside0.mk (R_drew HO_340001.out)
   have n2_:=Aside0.mk (R_drew HO345.out)
   have n3_:=Aside0.mk (blk_drew BK316.out)
   have n4_:=Aside0.mk (blk_drew BK317.out)
   have n5_:=Aside0.mk (blk_drew BK334.out)
   have n6_:=Aside0.mk (blk_drew BK339.out)
   have n7_:=Aside0.mk (below_drew1 HB.out)
   clear HO_335001
   clear HO_340001
   clear HO345
   clear BK316
   clear BK317
   clear BK334
   clear BK339
   clear HB
   have HO_335001:=n0_
   have HO_340001:=n1_
   have HO345:=n2_
   have BK316:=n3_
   have BK317:=n4_
   have BK334:=n5_
   have BK339:=n6_
   have HB:=n7_
   clear n0_ n1_ n2_ n3_ n4_ n5_ n6_ n7_
   refine start_ (n:=5) (S:=fun w'=>w'.cell? ⟨gb339,0,none⟩ = some (.int .i64 t335) ∧ w'.cell? ⟨gb339,1,none⟩ = some (.slice Ao53 t336.length co53) ∧ w'.cell? ⟨gb317,0,none⟩ = some (.int .i64 a1_0) ∧ w'.cell? ⟨gb317,1,none⟩ = some (.slice A1_1 l1_1.length c1_1)) (ds:=[]) (lb 5 0) (by kernel_rfl) rfl rfl ⟨(blk_cell BK339.out 0).trans rfl,(blk_cell BK339.out 1).trans rfl,(blk_cell BK317.out 0).trans rfl,(blk_cell BK317.out 1).trans rfl⟩ (fun hHeld=>?_)
   generalize w67.drew = w68 at HO_335001 HO_340001 HO345 BK316 BK317 BK334 BK339 HB hHeld ⊢
   refine take_ (i:=0) (N:=some 53) (v:=?_) (a':=?_) (lb 5 1) rfl rfl (by kernel_rfl) (fun _ _ _ h=>h) (Or.inl ⟨by rfl,?_⟩) hHeld ?_ ?_
   rotate_left
   ·rintro w' ⟨s0,s1,s2,s3⟩
    go_simp
    with_reducible rfl
   rotate_left
   ·simp only [ap]
    rfl
   refine take_ (i:=1) (N:=some 54) (v:=?_) (a':=?_) (lb 5 3) rfl rfl (by kernel_rfl) (fun _ _ _ h=>h) (Or.inl ⟨by rfl,?_⟩) hHeld ?_ ?_
   rotate_left
   ·rintro w' ⟨s0,s1,s2,s3⟩
    go_simp
    with_reducible rfl
   rotate_left
   ·simp only [ap]
    rfl
   refine one_ (i:=2) (N:=some 55) (lb 5 7) rfl rfl (by kernel_rfl) (by decide) (fun K hK=>?_)
   refine goes_ Try.func20 (by kernel_rfl) rfl #[.agg #[.int .i64 a1_0,.slice A1_1 l1_1.length c1_1]] (by rfl) rfl rfl (by (try simp only [List.map_toArray,List.map_cons,List.map_nil]);first|done|rfl|(simp only [List.length_drop,List.length_take];rfl)) ?_
   with_reducible refine (laws_toCrowd.calls kj24 a1_0 _ _ l1_1 t347 t348 _ ?side1 ?side2 A61.out).mono ?_
   (case side1=>exact cm (C_below HR1_1.out HB.out))
   (case side2=>exact HC1_1.out)
   rintro e w69 ⟨v349,rfl,ho0,hb⟩
   refine ⟨_,rfl,?_⟩
   have n0_:=Aside0.mk (R_elder' (rm HO_335001.out) (R_base ho0) hb)
   have n1_:=Aside0.mk (R_elder' (rm HO_340001.out) (R_base ho0) hb)
   have n2_:=Aside0.mk (R_elder' (rm HO345.out) (R_base ho0) hb)
   have n3_:=Aside0.mk (R_lower (R_new' (R_new' (R_new' ho0 (R_lt (rm HO_335001.out))) (R_lt (rm HO_340001.out))) (R_lt (rm HO345.out))) (below_size (by repeat (first|(with_reducible first|exact HB.out|apply below_alloc|apply pw_below_drewN|apply below_drew1|refine below_set ?_ GE316.out|refine below_set ?_ GE317.out|refine below_set ?_ GE334.out|refine below_set ?_ GE339.out)|exact HB.out))))
   have n4_:=Aside0.mk (blk_below (g:=gb316) (o:=.cells #[.int .i64 a0_0,.slice A0_1 l0_1.length c0_1] 27 (0,0)) (bm BK316.out) hb)
   have n5_:=Aside0.mk (blk_below (g:=gb317) (o:=.cells #[.int .i64 a1_0,.slice A1_1 l1_1.length c1_1] 27 (0,0)) (bm BK317.out) hb)
   have n6_:=Aside0.mk (blk_below (g:=gb334) (o:=.cells #[.int .i64 t330,.slice Ao45 t331.length co45] 30 (0,0)) (bm BK334.out) hb)
   have n7_:=Aside0.mk (blk_below (g:=gb339) (o:=.cells #[.int .i64 t335,.slice Ao53 t336.length co53] 30 (0,0)) (bm BK339.out) hb)
   have n8_:=Aside0.mk (below_step (by repeat (first|(with_reducible first|exact HB.out|apply below_alloc|apply pw_below_drewN|apply below_drew1|refine below_set ?_ GE316.out|refine below_set ?_ GE317.out|refine below_set ?_ GE334.out|refine below_set ?_ GE339.out)|exact HB.out)) hb)
   clear HO_335001
   clear HO_340001
   clear HO345
   clear BK316
   clear BK317
   clear BK334
   clear BK339
   clear HB
   have HO_335001:=n0_
   have HO_340001:=n1_
   have HO345:=n2_
   have HO350:=n3_
   have BK316:=n4_
   have BK317:=n5_
   have BK334:=n6_
   have BK339:=n7_
   have HB:=n8_
   clear n0_ n1_ n2_ n3_ n4_ n5_ n6_ n7_ n8_
   (try clear hb)
   (try clear hb2)
   (try clear hk)
   (try clear hi)
   (try clear ho0)
   obtain ⟨Ao70,co70,eo70⟩:=R_slice HO350.out
   (first|subst eo70|(injection eo70 with f1_ f2_ f3_;have f4_:=f1_.symm;have f5_:=f3_.symm;clear f1_ f2_ f3_;subst f4_;subst f5_))
   refine hK.out _ _ ⟨(blk_cell BK339.out 0).trans rfl,(blk_cell BK339.out 1).trans rfl,(blk_cell BK317.out 0).trans rfl,(blk_cell BK317.out 1).trans rfl⟩ (fun hHeld=>?_)
   clear hK K
   refine norm_ (a':=?_) ?_ ?_
   rotate_left
   ·show Act.put _ (some 55) _ = _
    simp only [ap]
    rfl
   refine one_ (i:=3) (N:=some 56) (lb 5 15) rfl rfl (by kernel_rfl) (by decide) (fun K hK=>?_)
   refine goes_ Try.func22 (by kernel_rfl) rfl #[.agg #[.int .i64 t335,.slice Ao53 t336.length co53],.agg #[.int .i64 t347,.slice Ao70 t348.length co70]] (by rfl) rfl rfl (by (try simp only [List.map_toArray,List.map_cons,List.map_nil]);first|done|rfl|(simp only [List.length_drop,List.length_take];rfl)) ?_
   with_reducible refine (laws_eqCrowd.calls kj24 t335 _ _ t336 t347 _ _ t348 true _ ?side1 ?side2 ?side3 ?side4 A62.out).mono ?_
   (case side1=>exact cm (R_reads' HO_340001.out).2.2)
   (case side2=>exact (R_reads' HO_340001.out).2.1)
   (case side3=>exact cm (R_reads' HO350.out).2.2)
   (case side4=>exact (R_reads' HO350.out).2.1)
   rintro e w71 ⟨rfl,hb⟩
   refine ⟨_,rfl,?_⟩
   have n0_:=Aside0.mk (R_below (rm HO_335001.out) hb)
   have n1_:=Aside0.mk (R_below (rm HO_340001.out) hb)
   have n2_:=Aside0.mk (R_below (rm HO345.out) hb)
   have n3_:=Aside0.mk (R_below (rm HO350.out) hb)
   have n4_:=Aside0.mk (blk_below (g:=gb316) (o:=.cells #[.int .i64 a0_0,.slice A0_1 l0_1.length c0_1] 27 (0,0)) (bm BK316.out) hb)
   have n5_:=Aside0.mk (blk_below (g:=gb317) (o:=.cells #[.int .i64 a1_0,.slice A1_1 l1_1.length c1_1] 27 (0,0)) (bm BK317.out) hb)
   have n6_:=Aside0.mk (blk_below (g:=gb334) (o:=.cells #[.int .i64 t330,.slice Ao45 t331.length co45] 30 (0,0)) (bm BK334.out) hb)
   have n7_:=Aside0.mk (blk_below (g:=gb339) (o:=.cells #[.int .i64 t335,.slice Ao53 t336.length co53] 30 (0,0)) (bm BK339.out) hb)
   have n8_:=Aside0.mk (below_step (by repeat (first|(with_reducible first|exact HB.out|apply below_alloc|apply pw_below_drewN|apply below_drew1|refine below_set ?_ GE316.out|refine below_set ?_ GE317.out|refine below_set ?_ GE334.out|refine below_set ?_ GE339.out)|exact HB.out)) hb)
   clear HO_335001
   clear HO_340001
   clear HO345
   clear HO350
   clear BK316
   clear BK317
   clear BK334
   clear BK339
   clear HB
   have HO_335001:=n0_
   have HO_340001:=n1_
   have HO345:=n2_
   have HO350:=n3_
   have BK316:=n4_
   have BK317:=n5_
   have BK334:=n6_
   have BK339:=n7_
   have HB:=n8_
   clear n0_ n1_ n2_ n3_ n4_ n5_ n6_ n7_ n8_
   (try clear hb)
   (try clear hb2)
   (try clear hk)
   (try clear hi)
   refine hK.out _ _ ⟨(blk_cell BK339.out 0).trans rfl,(blk_cell BK339.out 1).trans rfl,(blk_cell BK317.out 0).trans rfl,(blk_cell BK317.out 1).trans rfl⟩ (fun hHeld=>?_)
   clear hK K
   refine norm_ (a':=?_) ?_ ?_
   rotate_left
   ·show Act.put _ (some 56) _ = _
    simp only [ap]
    rfl
   refine pure_ (i:=4) (N:=some 57) (v:=?_) (a':=?_) (lb 5 31) rfl rfl (by kernel_rfl) (fun _ _ _ h=>h) (Or.inl ⟨by rfl,?_⟩) ?_ ?_
   rotate_left
   ·intro w'
    go_simp
    with_reducible rfl
   rotate_left
   ·simp only [ap]
    rfl
   refine done_ (by kernel_rfl) ?_
   try go_wp2
   go_ret
   exact ⟨by first|rfl|(simp [errW_none,errW_some] <;> rfl)|(simp [*,errW_none,errW_some] <;> rfl),by repeat (first|(with_reducible first|exact HB.out|apply below_alloc|apply pw_below_drewN|apply below_drew1|refine below_set ?_ GE316.out|refine below_set ?_ GE317.out|refine below_set ?_ GE334.out|refine below_set ?_ GE339.out)|exact HB.out)⟩
  replace c63:=Bool.eq_false_iff.mpr c63
  subst c63
  have H1 : (some false) = some r:=by rw [if_neg (show ¬ (false = true) by decide)] at H;exact H
  clear H
  have H:=H1
  clear H1
  obtain rfl:=Option.some.inj H
  try go_wp2
  have n0_:=Aside0.mk (R_drew HO_335001.out)
  have n1_:=Aside0.mk (R_drew HO_340001.out)
  have n2_:=Aside0.mk (blk_drew BK316.out)
  have n3_:=Aside0.mk (blk_drew BK317.out)
  have n4_:=Aside0.mk (blk_drew BK334.out)
  have n5_:=Aside0.mk (blk_drew BK339.out)
  have n6_:=Aside0.mk (below_drew1 HB.out)
  clear HO_335001
  clear HO_340001
  clear BK316
  clear BK317
  clear BK334
  clear BK339
  clear HB
  have HO_335001:=n0_
  have HO_340001:=n1_
  have BK316:=n2_
  have BK317:=n3_
  have BK334:=n4_
  have BK339:=n5_
  have HB:=n6_
  clear n0_ n1_ n2_ n3_ n4_ n5_ n6_
  refine start_ (n:=5) (S:=fun w'=>w'.cell? ⟨gb334,0,none⟩ = some (.int .i64 t330) ∧ w'.cell? ⟨gb334,1,none⟩ = some (.slice Ao45 t331.length co45) ∧ w'.cell? ⟨gb316,0,none⟩ = some (.int .i64 a0_0) ∧ w'.cell? ⟨gb316,1,none⟩ = some (.slice A0_1 l0_1.length c0_1)) (ds:=[]) (lb 5 0) (by kernel_rfl) rfl rfl ⟨(blk_cell BK334.out 0).trans rfl,(blk_cell BK334.out 1).trans rfl,(blk_cell BK316.out 0).trans rfl,(blk_cell BK316.out 1).trans rfl⟩ (fun hHeld=>?_)
  generalize wc.drew = w72 at HO_335001 HO_340001 BK316 BK317 BK334 BK339 HB hHeld ⊢
  refine take_ (i:=0) (N:=some 48) (v:=?_) (a':=?_) (lb 5 1) rfl rfl (by kernel_rfl) (fun _ _ _ h=>h) (Or.inl ⟨by rfl,?_⟩) hHeld ?_ ?_
  rotate_left
  ·rintro w' ⟨s0,s1,s2,s3⟩
   go_simp
   with_reducible rfl
  rotate_left
  ·simp only [ap]
   rfl
  refine take_ (i:=1) (N:=some 49) (v:=?_) (a':=?_) (lb 5 3) rfl rfl (by kernel_rfl) (fun _ _ _ h=>h) (Or.inl ⟨by rfl,?_⟩) hHeld ?_ ?_
  rotate_left
  ·rintro w' ⟨s0,s1,s2,s3⟩
   go_simp
   with_reducible rfl
  rotate_left
  ·simp only [ap]
   rfl
  refine one_ (i:=2) (N:=some 50) (lb 5 7) rfl rfl (by kernel_rfl) (by decide) (fun K hK=>?_)
  refine goes_ Try.func20 (by kernel_rfl) rfl #[.agg #[.int .i64 a0_0,.slice A0_1 l0_1.length c0_1]] (by rfl) rfl rfl (by (try simp only [List.map_toArray,List.map_cons,List.map_nil]);first|done|rfl|(simp only [List.length_drop,List.length_take];rfl)) ?_
  with_reducible refine (laws_toCrowd.calls kj24 a0_0 _ _ l0_1 t342 t343 _ ?side1 ?side2 A58.out).mono ?_
  (case side1=>exact cm (C_below HR0_1.out HB.out))
  (case side2=>exact HC0_1.out)
  rintro e w73 ⟨v344,rfl,ho0,hb⟩
  refine ⟨_,rfl,?_⟩
  have n0_:=Aside0.mk (R_elder' (rm HO_335001.out) (R_base ho0) hb)
  have n1_:=Aside0.mk (R_elder' (rm HO_340001.out) (R_base ho0) hb)
  have n2_:=Aside0.mk (R_lower (R_new' (R_new' ho0 (R_lt (rm HO_335001.out))) (R_lt (rm HO_340001.out))) (below_size (by repeat (first|(with_reducible first|exact HB.out|apply below_alloc|apply pw_below_drewN|apply below_drew1|refine below_set ?_ GE316.out|refine below_set ?_ GE317.out|refine below_set ?_ GE334.out|refine below_set ?_ GE339.out)|exact HB.out))))
  have n3_:=Aside0.mk (blk_below (g:=gb316) (o:=.cells #[.int .i64 a0_0,.slice A0_1 l0_1.length c0_1] 27 (0,0)) (bm BK316.out) hb)
  have n4_:=Aside0.mk (blk_below (g:=gb317) (o:=.cells #[.int .i64 a1_0,.slice A1_1 l1_1.length c1_1] 27 (0,0)) (bm BK317.out) hb)
  have n5_:=Aside0.mk (blk_below (g:=gb334) (o:=.cells #[.int .i64 t330,.slice Ao45 t331.length co45] 30 (0,0)) (bm BK334.out) hb)
  have n6_:=Aside0.mk (blk_below (g:=gb339) (o:=.cells #[.int .i64 t335,.slice Ao53 t336.length co53] 30 (0,0)) (bm BK339.out) hb)
  have n7_:=Aside0.mk (below_step (by repeat (first|(with_reducible first|exact HB.out|apply below_alloc|apply pw_below_drewN|apply below_drew1|refine below_set ?_ GE316.out|refine below_set ?_ GE317.out|refine below_set ?_ GE334.out|refine below_set ?_ GE339.out)|exact HB.out)) hb)
  clear HO_335001
  clear HO_340001
  clear BK316
  clear BK317
  clear BK334
  clear BK339
  clear HB
  have HO_335001:=n0_
  have HO_340001:=n1_
  have HO345:=n2_
  have BK316:=n3_
  have BK317:=n4_
  have BK334:=n5_
  have BK339:=n6_
  have HB:=n7_
  clear n0_ n1_ n2_ n3_ n4_ n5_ n6_ n7_
  (try clear hb)
  (try clear hb2)
  (try clear hk)
  (try clear hi)
  (try clear ho0)
  obtain ⟨Ao74,co74,eo74⟩:=R_slice HO345.out
  (first|subst eo74|(injection eo74 with f1_ f2_ f3_;have f4_:=f1_.symm;have f5_:=f3_.symm;clear f1_ f2_ f3_;subst f4_;subst f5_))
  refine hK.out _ _ ⟨(blk_cell BK334.out 0).trans rfl,(blk_cell BK334.out 1).trans rfl,(blk_cell BK316.out 0).trans rfl,(blk_cell BK316.out 1).trans rfl⟩ (fun hHeld=>?_)
  clear hK K
  refine norm_ (a':=?_) ?_ ?_
  rotate_left
  ·show Act.put _ (some 50) _ = _
   simp only [ap]
   rfl
  refine one_ (i:=3) (N:=some 51) (lb 5 15) rfl rfl (by kernel_rfl) (by decide) (fun K hK=>?_)
  refine goes_ Try.func22 (by kernel_rfl) rfl #[.agg #[.int .i64 t330,.slice Ao45 t331.length co45],.agg #[.int .i64 t342,.slice Ao74 t343.length co74]] (by rfl) rfl rfl (by (try simp only [List.map_toArray,List.map_cons,List.map_nil]);first|done|rfl|(simp only [List.length_drop,List.length_take];rfl)) ?_
  with_reducible refine (laws_eqCrowd.calls kj24 t330 _ _ t331 t342 _ _ t343 true _ ?side1 ?side2 ?side3 ?side4 A59.out).mono ?_
  (case side1=>exact cm (R_reads' HO_335001.out).2.2)
  (case side2=>exact (R_reads' HO_335001.out).2.1)
  (case side3=>exact cm (R_reads' HO345.out).2.2)
  (case side4=>exact (R_reads' HO345.out).2.1)
  rintro e w75 ⟨rfl,hb⟩
  refine ⟨_,rfl,?_⟩
  have n0_:=Aside0.mk (R_below (rm HO_335001.out) hb)
  have n1_:=Aside0.mk (R_below (rm HO_340001.out) hb)
  have n2_:=Aside0.mk (R_below (rm HO345.out) hb)
  have n3_:=Aside0.mk (blk_below (g:=gb316) (o:=.cells #[.int .i64 a0_0,.slice A0_1 l0_1.length c0_1] 27 (0,0)) (bm BK316.out) hb)
  have n4_:=Aside0.mk (blk_below (g:=gb317) (o:=.cells #[.int .i64 a1_0,.slice A1_1 l1_1.length c1_1] 27 (0,0)) (bm BK317.out) hb)
  have n5_:=Aside0.mk (blk_below (g:=gb334) (o:=.cells #[.int .i64 t330,.slice Ao45 t331.length co45] 30 (0,0)) (bm BK334.out) hb)
  have n6_:=Aside0.mk (blk_below (g:=gb339) (o:=.cells #[.int .i64 t335,.slice Ao53 t336.length co53] 30 (0,0)) (bm BK339.out) hb)
  have n7_:=Aside0.mk (below_step (by repeat (first|(with_reducible first|exact HB.out|apply below_alloc|apply pw_below_drewN|apply below_drew1|refine below_set ?_ GE316.out|refine below_set ?_ GE317.out|refine below_set ?_ GE334.out|refine below_set ?_ GE339.out)|exact HB.out)) hb)
  clear HO_335001
  clear HO_340001
  clear HO345
  clear BK316
  clear BK317
  clear BK334
  clear BK339
  clear HB
  have HO_335001:=n0_
  have HO_340001:=n1_
  have HO345:=n2_
  have BK316:=n3_
  have BK317:=n4_
  have BK334:=n5_
  have BK339:=n6_
  have HB:=n7_
  clear n0_ n1_ n2_ n3_ n4_ n5_ n6_ n7_
  (try clear hb)
  (try clear hb2)
  (try clear hk)
  (try clear hi)
  refine hK.out _ _ ⟨(blk_cell BK334.out 0).trans rfl,(blk_cell BK334.out 1).trans rfl,(blk_cell BK316.out 0).trans rfl,(blk_cell BK316.out 1).trans rfl⟩ (fun hHeld=>?_)
  clear hK K
  refine norm_ (a':=?_) ?_ ?_
  rotate_left
  ·show Act.put _ (some 51) _ = _
   simp only [ap]
   rfl
  refine pure_ (i:=4) (N:=some 52) (v:=?_) (a':=?_) (lb 5 31) rfl rfl (by kernel_rfl) (fun _ _ _ h=>h) (Or.inl ⟨by rfl,?_⟩) ?_ ?_
  rotate_left
  ·intro w'
   go_simp
   with_reducible rfl
  rotate_left
  ·simp only [ap]
   rfl
  refine done_ (by kernel_rfl) ?_
  try go_wp2
  have n0_:=Aside0.mk (R_drew HO_335001.out)
  have n1_:=Aside0.mk (R_drew HO_340001.out)
  have n2_:=Aside0.mk (R_drew HO345.out)
  have n3_:=Aside0.mk (blk_drew BK316.out)
  have n4_:=Aside0.mk (blk_drew BK317.out)
  have n5_:=Aside0.mk (blk_drew BK334.out)
  have n6_:=Aside0.mk (blk_drew BK339.out)
  have n7_:=Aside0.mk (below_drew1 HB.out)
  clear HO_335001
  clear HO_340001
  clear HO345
  clear BK316
  clear BK317
  clear BK334
  clear BK339
  clear HB
  have HO_335001:=n0_
  have HO_340001:=n1_
  have HO345:=n2_
  have BK316:=n3_
  have BK317:=n4_
  have BK334:=n5_
  have BK339:=n6_
  have HB:=n7_
  clear n0_ n1_ n2_ n3_ n4_ n5_ n6_ n7_
  refine start_ (n:=5) (S:=fun w'=>w'.cell? ⟨gb339,0,none⟩ = some (.int .i64 t335) ∧ w'.cell? ⟨gb339,1,none⟩ = some (.slice Ao53 t336.length co53) ∧ w'.cell? ⟨gb317,0,none⟩ = some (.int .i64 a1_0) ∧ w'.cell? ⟨gb317,1,none⟩ = some (.slice A1_1 l1_1.length c1_1)) (ds:=[]) (lb 5 0) (by kernel_rfl) rfl rfl ⟨(blk_cell BK339.out 0).trans rfl,(blk_cell BK339.out 1).trans rfl,(blk_cell BK317.out 0).trans rfl,(blk_cell BK317.out 1).trans rfl⟩ (fun hHeld=>?_)
  generalize w75.drew = w76 at HO_335001 HO_340001 HO345 BK316 BK317 BK334 BK339 HB hHeld ⊢
  refine take_ (i:=0) (N:=some 53) (v:=?_) (a':=?_) (lb 5 1) rfl rfl (by kernel_rfl) (fun _ _ _ h=>h) (Or.inl ⟨by rfl,?_⟩) hHeld ?_ ?_
  rotate_left
  ·rintro w' ⟨s0,s1,s2,s3⟩
   go_simp
   with_reducible rfl
  rotate_left
  ·simp only [ap]
   rfl
  refine take_ (i:=1) (N:=some 54) (v:=?_) (a':=?_) (lb 5 3) rfl rfl (by kernel_rfl) (fun _ _ _ h=>h) (Or.inl ⟨by rfl,?_⟩) hHeld ?_ ?_
  rotate_left
  ·rintro w' ⟨s0,s1,s2,s3⟩
   go_simp
   with_reducible rfl
  rotate_left
  ·simp only [ap]
   rfl
  refine one_ (i:=2) (N:=some 55) (lb 5 7) rfl rfl (by kernel_rfl) (by decide) (fun K hK=>?_)
  refine goes_ Try.func20 (by kernel_rfl) rfl #[.agg #[.int .i64 a1_0,.slice A1_1 l1_1.length c1_1]] (by rfl) rfl rfl (by (try simp only [List.map_toArray,List.map_cons,List.map_nil]);first|done|rfl|(simp only [List.length_drop,List.length_take];rfl)) ?_
  with_reducible refine (laws_toCrowd.calls kj24 a1_0 _ _ l1_1 t347 t348 _ ?side1 ?side2 A61.out).mono ?_
  (case side1=>exact cm (C_below HR1_1.out HB.out))
  (case side2=>exact HC1_1.out)
  rintro e w77 ⟨v349,rfl,ho0,hb⟩
  refine ⟨_,rfl,?_⟩
  have n0_:=Aside0.mk (R_elder' (rm HO_335001.out) (R_base ho0) hb)
  have n1_:=Aside0.mk (R_elder' (rm HO_340001.out) (R_base ho0) hb)
  have n2_:=Aside0.mk (R_elder' (rm HO345.out) (R_base ho0) hb)
  have n3_:=Aside0.mk (R_lower (R_new' (R_new' (R_new' ho0 (R_lt (rm HO_335001.out))) (R_lt (rm HO_340001.out))) (R_lt (rm HO345.out))) (below_size (by repeat (first|(with_reducible first|exact HB.out|apply below_alloc|apply pw_below_drewN|apply below_drew1|refine below_set ?_ GE316.out|refine below_set ?_ GE317.out|refine below_set ?_ GE334.out|refine below_set ?_ GE339.out)|exact HB.out))))
  have n4_:=Aside0.mk (blk_below (g:=gb316) (o:=.cells #[.int .i64 a0_0,.slice A0_1 l0_1.length c0_1] 27 (0,0)) (bm BK316.out) hb)
  have n5_:=Aside0.mk (blk_below (g:=gb317) (o:=.cells #[.int .i64 a1_0,.slice A1_1 l1_1.length c1_1] 27 (0,0)) (bm BK317.out) hb)
  have n6_:=Aside0.mk (blk_below (g:=gb334) (o:=.cells #[.int .i64 t330,.slice Ao45 t331.length co45] 30 (0,0)) (bm BK334.out) hb)
  have n7_:=Aside0.mk (blk_below (g:=gb339) (o:=.cells #[.int .i64 t335,.slice Ao53 t336.length co53] 30 (0,0)) (bm BK339.out) hb)
  have n8_:=Aside0.mk (below_step (by repeat (first|(with_reducible first|exact HB.out|apply below_alloc|apply pw_below_drewN|apply below_drew1|refine below_set ?_ GE316.out|refine below_set ?_ GE317.out|refine below_set ?_ GE334.out|refine below_set ?_ GE339.out)|exact HB.out)) hb)
  clear HO_335001
  clear HO_340001
  clear HO345
  clear BK316
  clear BK317
  clear BK334
  clear BK339
  clear HB
  have HO_335001:=n0_
  have HO_340001:=n1_
  have HO345:=n2_
  have HO350:=n3_
  have BK316:=n4_
  have BK317:=n5_
  have BK334:=n6_
  have BK339:=n7_
  have HB:=n8_
  clear n0_ n1_ n2_ n3_ n4_ n5_ n6_ n7_ n8_
  (try clear hb)
  (try clear hb2)
  (try clear hk)
  (try clear hi)
  (try clear ho0)
  obtain ⟨Ao78,co78,eo78⟩:=R_slice HO350.out
  (first|subst eo78|(injection eo78 with f1_ f2_ f3_;have f4_:=f1_.symm;have f5_:=f3_.symm;clear f1_ f2_ f3_;subst f4_;subst f5_))
  refine hK.out _ _ ⟨(blk_cell BK339.out 0).trans rfl,(blk_cell BK339.out 1).trans rfl,(blk_cell BK317.out 0).trans rfl,(blk_cell BK317.out 1).trans rfl⟩ (fun hHeld=>?_)
  clear hK K
  refine norm_ (a':=?_) ?_ ?_
  rotate_left
  ·show Act.put _ (some 55) _ = _
   simp only [ap]
   rfl
  refine one_ (i:=3) (N:=some 56) (lb 5 15) rfl rfl (by kernel_rfl) (by decide) (fun K hK=>?_)
  refine goes_ Try.func22 (by kernel_rfl) rfl #[.agg #[.int .i64 t335,.slice Ao53 t336.length co53],.agg #[.int .i64 t347,.slice Ao78 t348.length co78]] (by rfl) rfl rfl (by (try simp only [List.map_toArray,List.map_cons,List.map_nil]);first|done|rfl|(simp only [List.length_drop,List.length_take];rfl)) ?_
  with_reducible refine (laws_eqCrowd.calls kj24 t335 _ _ t336 t347 _ _ t348 false _ ?side1 ?side2 ?side3 ?side4 A62.out).mono ?_
  (case side1=>exact cm (R_reads' HO_340001.out).2.2)
  (case side2=>exact (R_reads' HO_340001.out).2.1)
  (case side3=>exact cm (R_reads' HO350.out).2.2)
  (case side4=>exact (R_reads' HO350.out).2.1)
  rintro e w79 ⟨rfl,hb⟩
  refine ⟨_,rfl,?_⟩
  have n0_:=Aside0.mk (R_below (rm HO_335001.out) hb)
  have n1_:=Aside0.mk (R_below (rm HO_340001.out) hb)
  have n2_:=Aside0.mk (R_below (rm HO345.out) hb)
  have n3_:=Aside0.mk (R_below (rm HO350.out) hb)
  have n4_:=Aside0.mk (blk_below (g:=gb316) (o:=.cells #[.int .i64 a0_0,.slice A0_1 l0_1.length c0_1] 27 (0,0)) (bm BK316.out) hb)
  have n5_:=Aside0.mk (blk_below (g:=gb317) (o:=.cells #[.int .i64 a1_0,.slice A1_1 l1_1.length c1_1] 27 (0,0)) (bm BK317.out) hb)
  have n6_:=Aside0.mk (blk_below (g:=gb334) (o:=.cells #[.int .i64 t330,.slice Ao45 t331.length co45] 30 (0,0)) (bm BK334.out) hb)
  have n7_:=Aside0.mk (blk_below (g:=gb339) (o:=.cells #[.int .i64 t335,.slice Ao53 t336.length co53] 30 (0,0)) (bm BK339.out) hb)
  have n8_:=Aside0.mk (below_step (by repeat (first|(with_reducible first|exact HB.out|apply below_alloc|apply pw_below_drewN|apply below_drew1|refine below_set ?_ GE316.out|refine below_set ?_ GE317.out|refine below_set ?_ GE334.out|refine below_set ?_ GE339.out)|exact HB.out)) hb)
  clear HO_335001
  clear HO_340001
  clear HO345
  clear HO350
  clear BK316
  clear BK317
  clear BK334
  clear BK339
  clear HB
  have HO_335001:=n0_
  have HO_340001:=n1_
  have HO345:=n2_
  have HO350:=n3_
  have BK316:=n4_
  have BK317:=n5_
  have BK334:=n6_
  have BK339:=n7_
  have HB:=n8_
  clear n0_ n1_ n2_ n3_ n4_ n5_ n6_ n7_ n8_
  (try clear hb)
  (try clear hb2)
  (try clear hk)
  (try clear hi)
  refine hK.out _ _ ⟨(blk_cell BK339.out 0).trans rfl,(blk_cell BK339.out 1).trans rfl,(blk_cell BK317.out 0).trans rfl,(blk_cell BK317.out 1).trans rfl⟩ (fun hHeld=>?_)
  clear hK K
  refine norm_ (a':=?_) ?_ ?_
  rotate_left
  ·show Act.put _ (some 56) _ = _
   simp only [ap]
   rfl
  refine pure_ (i:=4) (N:=some 57) (v:=?_) (a':=?_) (lb 5 31) rfl rfl (by kernel_rfl) (fun _ _ _ h=>h) (Or.inl ⟨by rfl,?_⟩) ?_ ?_
  rotate_left
  ·intro w'
   go_simp
   with_reducible rfl
  rotate_left
  ·simp only [ap]
   rfl
  refine done_ (by kernel_rfl) ?_
  try go_wp2
  go_ret
  exact ⟨by first|rfl|(simp [errW_none,errW_some] <;> rfl)|(simp [*,errW_none,errW_some] <;> rfl),by repeat (first|(with_reducible first|exact HB.out|apply below_alloc|apply pw_below_drewN|apply below_drew1|refine below_set ?_ GE316.out|refine below_set ?_ GE317.out|refine below_set ?_ GE334.out|refine below_set ?_ GE339.out)|exact HB.out)⟩


end
end Go.Proofs.Ytjmpanikfomgeaa.QFnExactAreSameForm
