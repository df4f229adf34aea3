/- Functions that the law FnExactBeadsAt comes to, as Lean functions, with the proof that the Go code does what they say: written by a program of this session over the kit's print. No condition but those named. -/
import Derived.Test.YtciihopkgblpkaaQFnExactBeadsAtx0
import Derived.Test.YtciihopkgblpkaaQFnExactBeadsAtx1
import Derived.Test.YtciihopkgblpkaaQFnExactBeadsAtx5
import Derived.Test.YtciihopkgblpkaaQFnExactBeadsAtx10
namespace Go.Proofs.Ytciihopkgblpkaa.QFnExactBeadsAt
open Go.RowKit Go.Proofs.YtciihopkgblpkaaW.PrintWords Go.Proofs.YtciihopkgblpkaaW.PrintLast Go.Proofs.YtciihopkgblpkaaW.PrintMore Go.Proofs.Ytciihopkgblpkaa.Short
attribute [local go_sem] max2_int min2_int max_two min_two max_three min_three max_four min_four   -- for this text's walks alone
set_option linter.unusedVariables false
set_option linter.unusedSimpArgs false

/-! ### laws_FnExactBeadsAt: function 9 -/
section
open Kd
mutual
def laws_FnExactBeadsAt.j0 : Nat → Int → List Int → List Int → Bool → List Int → List Int → Bool → Bool → Int → List Int → List Int → Int → List Int → List Int → Option (Bool)
 | 0,_,_,_,_,_,_,_,_,_,_,_,_,_,_=>none
 | k + 1,x1,x6,x7,x8,x10,x11,x12,x55,x359000,x359001,x359002,x382000,x382001,x382002=>if x55 = true then (some false) else ((laws_toWire.f k x359000 x359001 x359002).bind fun bt391=>((laws_eqWire.f k x382000 x382001 x382002 bt391.1 bt391.2.1 bt391.2.2).bind fun t398=>(if t398 = true then ((laws_markWire.f k x382000 x382001 x382002 1).bind fun bt399=>(if bt399.1 < 0 then (laws_FnExactBeadsAt.j1 k x1 x6 x7 x8 x10 x11 true x359000 x359001 x359002) else ((laws_eqIntS.f k x10 x6).bind fun t402=>(if t402 = true then ((laws_eqIntS.f k x11 x7).bind fun t403=>(if t403 = true then (laws_FnExactBeadsAt.j1 k x1 x6 x7 x8 x10 x11 (x12 != x8) x359000 x359001 x359002) else (laws_FnExactBeadsAt.j1 k x1 x6 x7 x8 x10 x11 true x359000 x359001 x359002))) else (laws_FnExactBeadsAt.j1 k x1 x6 x7 x8 x10 x11 true x359000 x359001 x359002))))) else (some false))))
def laws_FnExactBeadsAt.j1 : Nat → Int → List Int → List Int → Bool → List Int → List Int → Bool → Int → List Int → List Int → Option (Bool)
 | 0,_,_,_,_,_,_,_,_,_,_=>none
 | k + 1,x1,x6,x7,x8,x10,x11,x82,x359000,x359001,x359002=>if x82 = true then (some false) else ((laws_markIntS.f k x10 1).bind fun bt404=>((laws_markIntS.f k x11 bt404.1).bind fun bt406=>((laws_heldIntS.f k bt404.2 1).bind fun t408=>(if t408 < 0 then (some false) else ((laws_heldIntS.f k bt406.2 t408).bind fun t409=>(if t409 < 0 then (some false) else (if t409 = bt406.1 then ((laws_toWire.f k x359000 x359001 x359002).bind fun bt410=>((impl_BeadsAt.f k bt410.1 bt410.2.1 bt410.2.2 x1).bind fun bt417=>((laws_eqIntS.f k bt417.1 x6).bind fun t424=>(if t424 = true then ((laws_eqIntS.f k bt417.2.1 x7).bind fun t425=>(if t425 = true then (laws_FnExactBeadsAt.j2 k bt404.2 bt406.2 bt406.1 (bt417.2.2 != x8)) else (laws_FnExactBeadsAt.j2 k bt404.2 bt406.2 bt406.1 true))) else (laws_FnExactBeadsAt.j2 k bt404.2 bt406.2 bt406.1 true))))) else (some false))))))))
def laws_FnExactBeadsAt.j2 : Nat → List Int → List Int → Int → Bool → Option (Bool)
 | 0,_,_,_,_=>none
 | k + 1,x10,x11,x14,x124=>if x124 = true then (some false) else ((laws_heldIntS.f k x10 1).bind fun t426=>(if t426 < 0 then (some false) else ((laws_heldIntS.f k x11 t426).bind fun t427=>(if t427 < 0 then (some false) else (if t427 = x14 then (some true) else (some false))))))
end
def laws_FnExactBeadsAt.f (k : Nat) (a0_0 : Int) (l0_1 : List Int) (l0_2 : List Int) (a1 : Int) : Option (Bool):=(laws_szWire.f a0_0 l0_1 l0_2 1048576).bind fun t359=>(if t359 < 0 then (some true) else ((laws_toWire.f k a0_0 l0_1 l0_2).bind fun bt360=>((spec_BeadsAt.f k bt360.1 bt360.2.1 bt360.2.2 a1).bind fun bt367=>((laws_toWire.f k a0_0 l0_1 l0_2).bind fun bt374=>((impl_BeadsAt.f k bt374.1 bt374.2.1 bt374.2.2 a1).bind fun bt382=>((laws_eqIntS.f k bt382.1 bt367.1).bind fun t389=>(if t389 = true then ((laws_eqIntS.f k bt382.2.1 bt367.2.1).bind fun t390=>(if t390 = true then (laws_FnExactBeadsAt.j0 k a1 bt367.1 bt367.2.1 bt367.2.2 bt382.1 bt382.2.1 bt382.2.2 (bt382.2.2 != bt367.2.2) a0_0 l0_1 l0_2 bt374.1 bt374.2.1 bt374.2.2) else (laws_FnExactBeadsAt.j0 k a1 bt367.1 bt367.2.1 bt367.2.2 bt382.1 bt382.2.1 bt382.2.2 true a0_0 l0_1 l0_2 bt374.1 bt374.2.1 bt374.2.2))) else (laws_FnExactBeadsAt.j0 k a1 bt367.1 bt367.2.1 bt367.2.2 bt382.1 bt382.2.1 bt382.2.2 true a0_0 l0_1 l0_2 bt374.1 bt374.2.1 bt374.2.2))))))))
theorem laws_FnExactBeadsAt.mono_l : ∀ k,(∀ y0 y1 y2 y3 y4 y5 y6 y7 y8 y9 y10 y11 y12 y13,LeO (laws_FnExactBeadsAt.j0 k y0 y1 y2 y3 y4 y5 y6 y7 y8 y9 y10 y11 y12 y13) (laws_FnExactBeadsAt.j0 (k + 1) y0 y1 y2 y3 y4 y5 y6 y7 y8 y9 y10 y11 y12 y13)) ∧ (∀ y0 y1 y2 y3 y4 y5 y6 y7 y8 y9,LeO (laws_FnExactBeadsAt.j1 k y0 y1 y2 y3 y4 y5 y6 y7 y8 y9) (laws_FnExactBeadsAt.j1 (k + 1) y0 y1 y2 y3 y4 y5 y6 y7 y8 y9)) ∧ (∀ y0 y1 y2 y3,LeO (laws_FnExactBeadsAt.j2 k y0 y1 y2 y3) (laws_FnExactBeadsAt.j2 (k + 1) y0 y1 y2 y3))
 | 0=>⟨fun _ _ _ _ _ _ _ _ _ _ _ _ _ _ r h=>by simp [laws_FnExactBeadsAt.j0] at h,fun _ _ _ _ _ _ _ _ _ _ r h=>by simp [laws_FnExactBeadsAt.j1] at h,fun _ _ _ _ r h=>by simp [laws_FnExactBeadsAt.j2] at h⟩
 | k + 1=>by
  obtain ⟨ih0,ih1,ih2⟩:=laws_FnExactBeadsAt.mono_l k
  refine ⟨?_,?_,?_⟩
  ·intro y0 y1 y2 y3 y4 y5 y6 y7 y8 y9 y10 y11 y12 y13
   unfold laws_FnExactBeadsAt.j0
   repeat' first
   | (with_reducible exact ih0 _ _ _ _ _ _ _ _ _ _ _ _ _ _)
   | (with_reducible exact ih1 _ _ _ _ _ _ _ _ _ _)
   | (with_reducible exact ih2 _ _ _ _)
   | (with_reducible exact impl_BeadsAt.mono _ _ _ _ _)
   | (with_reducible exact laws_eqIntS.mono _ _ _)
   | (with_reducible exact laws_eqWire.mono _ _ _ _ _ _ _)
   | (with_reducible exact laws_heldIntS.mono _ _ _)
   | (with_reducible exact laws_markIntS.mono _ _ _)
   | (with_reducible exact laws_markWire.mono _ _ _ _ _)
   | (with_reducible exact laws_toWire.mono _ _ _ _)
   | (with_reducible exact spec_BeadsAt.mono _ _ _ _ _)
   | (with_reducible exact LeO.refl _)
   | (with_reducible exact LeO.none _)
   | (with_reducible refine LeO.ite ?_ ?_)
   | (with_reducible refine LeO.bind ?_ (fun _=>?_))
   | exact ih0 _ _ _ _ _ _ _ _ _ _ _ _ _ _
   | exact ih1 _ _ _ _ _ _ _ _ _ _
   | exact ih2 _ _ _ _
   | exact impl_BeadsAt.mono _ _ _ _ _
   | exact laws_eqIntS.mono _ _ _
   | exact laws_eqWire.mono _ _ _ _ _ _ _
   | exact laws_heldIntS.mono _ _ _
   | exact laws_markIntS.mono _ _ _
   | exact laws_markWire.mono _ _ _ _ _
   | exact laws_toWire.mono _ _ _ _
   | exact spec_BeadsAt.mono _ _ _ _ _
   | exact LeO.none _
   | refine LeO.ite ?_ ?_
   | refine LeO.bind ?_ (fun _=>?_)
  ·intro y0 y1 y2 y3 y4 y5 y6 y7 y8 y9
   unfold laws_FnExactBeadsAt.j1
   repeat' first
   | (with_reducible exact ih0 _ _ _ _ _ _ _ _ _ _ _ _ _ _)
   | (with_reducible exact ih1 _ _ _ _ _ _ _ _ _ _)
   | (with_reducible exact ih2 _ _ _ _)
   | (with_reducible exact impl_BeadsAt.mono _ _ _ _ _)
   | (with_reducible exact laws_eqIntS.mono _ _ _)
   | (with_reducible exact laws_eqWire.mono _ _ _ _ _ _ _)
   | (with_reducible exact laws_heldIntS.mono _ _ _)
   | (with_reducible exact laws_markIntS.mono _ _ _)
   | (with_reducible exact laws_markWire.mono _ _ _ _ _)
   | (with_reducible exact laws_toWire.mono _ _ _ _)
   | (with_reducible exact spec_BeadsAt.mono _ _ _ _ _)
   | (with_reducible exact LeO.refl _)
   | (with_reducible exact LeO.none _)
   | (with_reducible refine LeO.ite ?_ ?_)
   | (with_reducible refine LeO.bind ?_ (fun _=>?_))
   | exact ih0 _ _ _ _ _ _ _ _ _ _ _ _ _ _
   | exact ih1 _ _ _ _ _ _ _ _ _ _
   | exact ih2 _ _ _ _
   | exact impl_BeadsAt.mono _ _ _ _ _
   | exact laws_eqIntS.mono _ _ _
   | exact laws_eqWire.mono _ _ _ _ _ _ _
   | exact laws_heldIntS.mono _ _ _
   | exact laws_markIntS.mono _ _ _
   | exact laws_markWire.mono _ _ _ _ _
   | exact laws_toWire.mono _ _ _ _
   | exact spec_BeadsAt.mono _ _ _ _ _
   | exact LeO.none _
   | refine LeO.ite ?_ ?_
   | refine LeO.bind ?_ (fun _=>?_)
  ·intro y0 y1 y2 y3
   unfold laws_FnExactBeadsAt.j2
   repeat' first
   | (with_reducible exact ih0 _ _ _ _ _ _ _ _ _ _ _ _ _ _)
   | (with_reducible exact ih1 _ _ _ _ _ _ _ _ _ _)
   | (with_reducible exact ih2 _ _ _ _)
   | (with_reducible exact impl_BeadsAt.mono _ _ _ _ _)
   | (with_reducible exact laws_eqIntS.mono _ _ _)
   | (with_reducible exact laws_eqWire.mono _ _ _ _ _ _ _)
   | (with_reducible exact laws_heldIntS.mono _ _ _)
   | (with_reducible exact laws_markIntS.mono _ _ _)
   | (with_reducible exact laws_markWire.mono _ _ _ _ _)
   | (with_reducible exact laws_toWire.mono _ _ _ _)
   | (with_reducible exact spec_BeadsAt.mono _ _ _ _ _)
   | (with_reducible exact LeO.refl _)
   | (with_reducible exact LeO.none _)
   | (with_reducible refine LeO.ite ?_ ?_)
   | (with_reducible refine LeO.bind ?_ (fun _=>?_))
   | exact ih0 _ _ _ _ _ _ _ _ _ _ _ _ _ _
   | exact ih1 _ _ _ _ _ _ _ _ _ _
   | exact ih2 _ _ _ _
   | exact impl_BeadsAt.mono _ _ _ _ _
   | exact laws_eqIntS.mono _ _ _
   | exact laws_eqWire.mono _ _ _ _ _ _ _
   | exact laws_heldIntS.mono _ _ _
   | exact laws_markIntS.mono _ _ _
   | exact laws_markWire.mono _ _ _ _ _
   | exact laws_toWire.mono _ _ _ _
   | exact spec_BeadsAt.mono _ _ _ _ _
   | exact LeO.none _
   | refine LeO.ite ?_ ?_
   | refine LeO.bind ?_ (fun _=>?_)
theorem laws_FnExactBeadsAt.mono : ∀ a0 a1 a2 a3 k,LeO (laws_FnExactBeadsAt.f k a0 a1 a2 a3) (laws_FnExactBeadsAt.f (k + 1) a0 a1 a2 a3):=by
 intro a0 a1 a2 a3 k
 obtain ⟨ih0,ih1,ih2⟩:=laws_FnExactBeadsAt.mono_l k
 unfold laws_FnExactBeadsAt.f
 repeat' first
   | (with_reducible exact ih0 _ _ _ _ _ _ _ _ _ _ _ _ _ _)
   | (with_reducible exact ih1 _ _ _ _ _ _ _ _ _ _)
   | (with_reducible exact ih2 _ _ _ _)
   | (with_reducible exact impl_BeadsAt.mono _ _ _ _ _)
   | (with_reducible exact laws_eqIntS.mono _ _ _)
   | (with_reducible exact laws_eqWire.mono _ _ _ _ _ _ _)
   | (with_reducible exact laws_heldIntS.mono _ _ _)
   | (with_reducible exact laws_markIntS.mono _ _ _)
   | (with_reducible exact laws_markWire.mono _ _ _ _ _)
   | (with_reducible exact laws_toWire.mono _ _ _ _)
   | (with_reducible exact spec_BeadsAt.mono _ _ _ _ _)
   | (with_reducible exact LeO.refl _)
   | (with_reducible exact LeO.none _)
   | (with_reducible refine LeO.ite ?_ ?_)
   | (with_reducible refine LeO.bind ?_ (fun _=>?_))
   | exact ih0 _ _ _ _ _ _ _ _ _ _ _ _ _ _
   | exact ih1 _ _ _ _ _ _ _ _ _ _
   | exact ih2 _ _ _ _
   | exact impl_BeadsAt.mono _ _ _ _ _
   | exact laws_eqIntS.mono _ _ _
   | exact laws_eqWire.mono _ _ _ _ _ _ _
   | exact laws_heldIntS.mono _ _ _
   | exact laws_markIntS.mono _ _ _
   | exact laws_markWire.mono _ _ _ _ _
   | exact laws_toWire.mono _ _ _ _
   | exact spec_BeadsAt.mono _ _ _ _ _
   | exact LeO.none _
   | refine LeO.ite ?_ ?_
   | refine LeO.bind ?_ (fun _=>?_)
set_option maxHeartbeats 8000000 in
set_option maxRecDepth 100000 in
theorem laws_FnExactBeadsAt.calls (k : Nat) (a0_0 : Int) (A0_1 : Option Addr) (c0_1 : Nat) (l0_1 : List Int) (A0_2 : Option Addr) (c0_2 : Nat) (l0_2 : List Int) (a1 : Int) (r : Bool) (w : World) (hr0_1 : Kd.C (Kd.int .i64) w A0_1 l0_1.length l0_1) (hc0_1 : l0_1.length ≤ c0_1) (hr0_2 : Kd.C (Kd.int .i64) w A0_2 l0_2.length l0_2) (hc0_2 : l0_2.length ≤ c0_2) (h : laws_FnExactBeadsAt.f k a0_0 l0_1 l0_2 a1 = some r) :
  Calls Try.prog 9 #[.agg #[.int .i64 a0_0,.slice A0_1 l0_1.length c0_1,.slice A0_2 l0_2.length c0_2],.int .i64 a1] w fun e w'=>e = .returned (.bool r) ∧ Below w.heap.size w w':=by
 have hu24:=Try.underlying24
 have hu27:=Try.underlying27
 have HR0_1:=Aside0.mk hr0_1
 have HC0_1:=Aside0.mk hc0_1
 clear hr0_1 hc0_1
 have HR0_2:=Aside0.mk hr0_2
 have HC0_2:=Aside0.mk hc0_2
 clear hr0_2 hc0_2
 have HB:=Aside0.mk (Below.refl w.heap.size w)
 have H : ((laws_szWire.f a0_0 l0_1 l0_2 1048576).bind fun t359=>(if t359 < 0 then (some true) else ((laws_toWire.f k a0_0 l0_1 l0_2).bind fun bt360=>((spec_BeadsAt.f k bt360.1 bt360.2.1 bt360.2.2 a1).bind fun bt367=>((laws_toWire.f k a0_0 l0_1 l0_2).bind fun bt374=>((impl_BeadsAt.f k bt374.1 bt374.2.1 bt374.2.2 a1).bind fun bt382=>((laws_eqIntS.f k bt382.1 bt367.1).bind fun t389=>(if t389 = true then ((laws_eqIntS.f k bt382.2.1 bt367.2.1).bind fun t390=>(if t390 = true then (laws_FnExactBeadsAt.j0 k a1 bt367.1 bt367.2.1 bt367.2.2 bt382.1 bt382.2.1 bt382.2.2 (bt382.2.2 != bt367.2.2) a0_0 l0_1 l0_2 bt374.1 bt374.2.1 bt374.2.2) else (laws_FnExactBeadsAt.j0 k a1 bt367.1 bt367.2.1 bt367.2.2 bt382.1 bt382.2.1 bt382.2.2 true a0_0 l0_1 l0_2 bt374.1 bt374.2.1 bt374.2.2))) else (laws_FnExactBeadsAt.j0 k a1 bt367.1 bt367.2.1 bt367.2.2 bt382.1 bt382.2.1 bt382.2.2 true a0_0 l0_1 l0_2 bt374.1 bt374.2.1 bt374.2.2))))))))) = some r:=h
 clear h
 replace H:=Option.bind_eq_some_iff.mp H
 obtain ⟨t359,A30,H⟩:=H
 replace H : (if t359 < 0 then (some true) else ((laws_toWire.f k a0_0 l0_1 l0_2).bind fun bt360=>((spec_BeadsAt.f k bt360.1 bt360.2.1 bt360.2.2 a1).bind fun bt367=>((laws_toWire.f k a0_0 l0_1 l0_2).bind fun bt374=>((impl_BeadsAt.f k bt374.1 bt374.2.1 bt374.2.2 a1).bind fun bt382=>((laws_eqIntS.f k bt382.1 bt367.1).bind fun t389=>(if t389 = true then ((laws_eqIntS.f k bt382.2.1 bt367.2.1).bind fun t390=>(if t390 = true then (laws_FnExactBeadsAt.j0 k a1 bt367.1 bt367.2.1 bt367.2.2 bt382.1 bt382.2.1 bt382.2.2 (bt382.2.2 != bt367.2.2) a0_0 l0_1 l0_2 bt374.1 bt374.2.1 bt374.2.2) else (laws_FnExactBeadsAt.j0 k a1 bt367.1 bt367.2.1 bt367.2.2 bt382.1 bt382.2.1 bt382.2.2 true a0_0 l0_1 l0_2 bt374.1 bt374.2.1 bt374.2.2))) else (laws_FnExactBeadsAt.j0 k a1 bt367.1 bt367.2.1 bt367.2.2 bt382.1 bt382.2.1 bt382.2.2 true a0_0 l0_1 l0_2 bt374.1 bt374.2.1 bt374.2.2)))))))) = some r:=H
 have A3:=Aside0.mk A30
 clear A30
 by_cases c4 : t359 < 0
 ·rw [if_pos c4] at H
  have c4b0 : decide (t359 < 0) = true:=decide_eq_true c4
  clear c4
  obtain rfl:=Option.some.inj H
  go_enter Try.func9,Try.ntmps9
  go_wp2_with (first|((with_reducible refine gate_dst (N:=2) rfl ?_);refine box_event ?hg (N:=2) ?hd (cs:=#[.int .i64 a0_0,.slice A0_1 l0_1.length c0_1,.slice A0_2 l0_2.length c0_2]) (t:=24) ?hr ?_;(case hd=>rfl);(case hg=>rfl);(case hr=>first|(go_simp;done)|(go_simp;rfl));intro gb358 hg w5 hbox hb;have n0_:=Aside0.mk (below_step (hm HB.out) hb);have n1_:=Aside0.mk (hbox);have n2_:=Aside0.mk ((by rw [hg];exact (below_size (hm HB.out)) : w.heap.size ≤ gb358));have n3_:=Aside0.mk ((by rw [hg];exact (below_size (hm HB.out)) : w.heap.size ≤ gb358));clear HB;have HB:=n0_;have BK358:=n1_;have GW358:=n2_;have GE358:=n3_;clear n0_ n1_ n2_ n3_;clear hb hbox hg;have hcz6_0 : w5.cell? ⟨gb358,0,none⟩ = some (.int .i64 a0_0):=(blk_cell BK358.out 0).trans rfl;have hcz6_1 : w5.cell? ⟨gb358,1,none⟩ = some (.slice A0_1 l0_1.length c0_1):=(blk_cell BK358.out 1).trans rfl;have hcz6_2 : w5.cell? ⟨gb358,2,none⟩ = some (.slice A0_2 l0_2.length c0_2):=(blk_cell BK358.out 2).trans rfl;have hfz6_0:=blk_frozen BK358.out 0;have hfz6_1:=blk_frozen BK358.out 1;have hfz6_2:=blk_frozen BK358.out 2)|((with_reducible refine gate_callee (f:=11) rfl ?_);refine goesL_ (some 21) rfl rfl Try.func11 (by kernel_rfl) rfl #[.agg #[.int .i64 a0_0,.slice A0_1 l0_1.length c0_1,.slice A0_2 l0_2.length c0_2],.int .i64 1048576] rfl (by (try simp only [List.map_toArray,List.map_cons,List.map_nil]);first|done|rfl|(simp only [List.length_drop,List.length_take];rfl)) ?_;(with_reducible refine (laws_szWire.calls a0_0 _ _ l0_1 _ _ l0_2 1048576 t359 _ ?side1 ?side2 ?side3 ?side4 A3.out).mono ?_);(case side1=>exact cm (C_below HR0_1.out HB.out));(case side2=>exact HC0_1.out);(case side3=>exact cm (C_below HR0_2.out HB.out));(case side4=>exact HC0_2.out);rintro e w7 ⟨rfl,hb⟩;refine ⟨_,rfl,?_⟩;have n0_:=Aside0.mk (blk_below (g:=gb358) (o:=.cells #[.int .i64 a0_0,.slice A0_1 l0_1.length c0_1,.slice A0_2 l0_2.length c0_2] 24 (0,0)) (bm BK358.out) hb);have n1_:=Aside0.mk (below_step (h1 HB.out GE358.out) hb);clear BK358;clear HB;have BK358:=n0_;have HB:=n1_;clear n0_ n1_;(try clear hb);(try clear hb2);(try clear hk);(try clear hi)))
  go_ret
  exact ⟨by first|rfl|(simp [errW_none,errW_some] <;> rfl)|(simp [*,errW_none,errW_some] <;> rfl),h1 HB.out GE358.out⟩
 rw [if_neg c4] at H
 have c4b0 : decide (t359 < 0) = false:=decide_eq_false c4
 clear c4
 replace H:=Option.bind_eq_some_iff.mp H
 obtain ⟨⟨t360,t361,t364⟩,A80,H⟩:=H
 replace H : ((spec_BeadsAt.f k t360 t361 t364 a1).bind fun bt367=>((laws_toWire.f k a0_0 l0_1 l0_2).bind fun bt374=>((impl_BeadsAt.f k bt374.1 bt374.2.1 bt374.2.2 a1).bind fun bt382=>((laws_eqIntS.f k bt382.1 bt367.1).bind fun t389=>(if t389 = true then ((laws_eqIntS.f k bt382.2.1 bt367.2.1).bind fun t390=>(if t390 = true then (laws_FnExactBeadsAt.j0 k a1 bt367.1 bt367.2.1 bt367.2.2 bt382.1 bt382.2.1 bt382.2.2 (bt382.2.2 != bt367.2.2) a0_0 l0_1 l0_2 bt374.1 bt374.2.1 bt374.2.2) else (laws_FnExactBeadsAt.j0 k a1 bt367.1 bt367.2.1 bt367.2.2 bt382.1 bt382.2.1 bt382.2.2 true a0_0 l0_1 l0_2 bt374.1 bt374.2.1 bt374.2.2))) else (laws_FnExactBeadsAt.j0 k a1 bt367.1 bt367.2.1 bt367.2.2 bt382.1 bt382.2.1 bt382.2.2 true a0_0 l0_1 l0_2 bt374.1 bt374.2.1 bt374.2.2)))))) = some r:=H
 have A8:=Aside0.mk A80
 clear A80
 replace H:=Option.bind_eq_some_iff.mp H
 obtain ⟨⟨t367,t370,t373⟩,A90,H⟩:=H
 replace H : ((laws_toWire.f k a0_0 l0_1 l0_2).bind fun bt374=>((impl_BeadsAt.f k bt374.1 bt374.2.1 bt374.2.2 a1).bind fun bt382=>((laws_eqIntS.f k bt382.1 t367).bind fun t389=>(if t389 = true then ((laws_eqIntS.f k bt382.2.1 t370).bind fun t390=>(if t390 = true then (laws_FnExactBeadsAt.j0 k a1 t367 t370 t373 bt382.1 bt382.2.1 bt382.2.2 (bt382.2.2 != t373) a0_0 l0_1 l0_2 bt374.1 bt374.2.1 bt374.2.2) else (laws_FnExactBeadsAt.j0 k a1 t367 t370 t373 bt382.1 bt382.2.1 bt382.2.2 true a0_0 l0_1 l0_2 bt374.1 bt374.2.1 bt374.2.2))) else (laws_FnExactBeadsAt.j0 k a1 t367 t370 t373 bt382.1 bt382.2.1 bt382.2.2 true a0_0 l0_1 l0_2 bt374.1 bt374.2.1 bt374.2.2))))) = some r:=H
 have A9:=Aside0.mk A90
 clear A90
 replace H:=Option.bind_eq_some_iff.mp H
 obtain ⟨⟨t374,t375,t378⟩,A100,H⟩:=H
 replace H : ((impl_BeadsAt.f k t374 t375 t378 a1).bind fun bt382=>((laws_eqIntS.f k bt382.1 t367).bind fun t389=>(if t389 = true then ((laws_eqIntS.f k bt382.2.1 t370).bind fun t390=>(if t390 = true then (laws_FnExactBeadsAt.j0 k a1 t367 t370 t373 bt382.1 bt382.2.1 bt382.2.2 (bt382.2.2 != t373) a0_0 l0_1 l0_2 t374 t375 t378) else (laws_FnExactBeadsAt.j0 k a1 t367 t370 t373 bt382.1 bt382.2.1 bt382.2.2 true a0_0 l0_1 l0_2 t374 t375 t378))) else (laws_FnExactBeadsAt.j0 k a1 t367 t370 t373 bt382.1 bt382.2.1 bt382.2.2 true a0_0 l0_1 l0_2 t374 t375 t378)))) = some r:=H
 have A10:=Aside0.mk A100
 clear A100
 replace H:=Option.bind_eq_some_iff.mp H
 obtain ⟨⟨t382,t385,t388⟩,A110,H⟩:=H
 replace H : ((laws_eqIntS.f k t382 t367).bind fun t389=>(if t389 = true then ((laws_eqIntS.f k t385 t370).bind fun t390=>(if t390 = true then (laws_FnExactBeadsAt.j0 k a1 t367 t370 t373 t382 t385 t388 (t388 != t373) a0_0 l0_1 l0_2 t374 t375 t378) else (laws_FnExactBeadsAt.j0 k a1 t367 t370 t373 t382 t385 t388 true a0_0 l0_1 l0_2 t374 t375 t378))) else (laws_FnExactBeadsAt.j0 k a1 t367 t370 t373 t382 t385 t388 true a0_0 l0_1 l0_2 t374 t375 t378))) = some r:=H
 have A11:=Aside0.mk A110
 clear A110
 have HC12:=Aside0.mk H
 clear H
 go_enter Try.func9,Try.ntmps9
 go_upto_region 8 with (first|((with_reducible refine gate_dst (N:=2) rfl ?_);refine box_event ?hg (N:=2) ?hd (cs:=#[.int .i64 a0_0,.slice A0_1 l0_1.length c0_1,.slice A0_2 l0_2.length c0_2]) (t:=24) ?hr ?_;(case hd=>rfl);(case hg=>rfl);(case hr=>first|(go_simp;done)|(go_simp;rfl));intro gb358 hg w13 hbox hb;have n0_:=Aside0.mk (below_step (hm HB.out) hb);have n1_:=Aside0.mk (hbox);have n2_:=Aside0.mk ((by rw [hg];exact (below_size (hm HB.out)) : w.heap.size ≤ gb358));have n3_:=Aside0.mk ((by rw [hg];exact (below_size (hm HB.out)) : w.heap.size ≤ gb358));clear HB;have HB:=n0_;have BK358:=n1_;have GW358:=n2_;have GE358:=n3_;clear n0_ n1_ n2_ n3_;clear hb hbox hg;have hcz14_0 : w13.cell? ⟨gb358,0,none⟩ = some (.int .i64 a0_0):=(blk_cell BK358.out 0).trans rfl;have hcz14_1 : w13.cell? ⟨gb358,1,none⟩ = some (.slice A0_1 l0_1.length c0_1):=(blk_cell BK358.out 1).trans rfl;have hcz14_2 : w13.cell? ⟨gb358,2,none⟩ = some (.slice A0_2 l0_2.length c0_2):=(blk_cell BK358.out 2).trans rfl;have hfz14_0:=blk_frozen BK358.out 0;have hfz14_1:=blk_frozen BK358.out 1;have hfz14_2:=blk_frozen BK358.out 2)|((with_reducible refine gate_callee (f:=11) rfl ?_);refine goesL_ (some 21) rfl rfl Try.func11 (by kernel_rfl) rfl #[.agg #[.int .i64 a0_0,.slice A0_1 l0_1.length c0_1,.slice A0_2 l0_2.length c0_2],.int .i64 1048576] rfl (by (try simp only [List.map_toArray,List.map_cons,List.map_nil]);first|done|rfl|(simp only [List.length_drop,List.length_take];rfl)) ?_;(with_reducible refine (laws_szWire.calls a0_0 _ _ l0_1 _ _ l0_2 1048576 t359 _ ?side1 ?side2 ?side3 ?side4 A3.out).mono ?_);(case side1=>exact cm (C_below HR0_1.out HB.out));(case side2=>exact HC0_1.out);(case side3=>exact cm (C_below HR0_2.out HB.out));(case side4=>exact HC0_2.out);rintro e w15 ⟨rfl,hb⟩;refine ⟨_,rfl,?_⟩;have n0_:=Aside0.mk (blk_below (g:=gb358) (o:=.cells #[.int .i64 a0_0,.slice A0_1 l0_1.length c0_1,.slice A0_2 l0_2.length c0_2] 24 (0,0)) (bm BK358.out) hb);have n1_:=Aside0.mk (below_step (h1 HB.out GE358.out) hb);clear BK358;clear HB;have BK358:=n0_;have HB:=n1_;clear n0_ n1_;(try clear hb);(try clear hb2);(try clear hk);(try clear hi);have hcz16_0 : w15.cell? ⟨gb358,0,none⟩ = some (.int .i64 a0_0):=(blk_cell BK358.out 0).trans rfl;have hcz16_1 : w15.cell? ⟨gb358,1,none⟩ = some (.slice A0_1 l0_1.length c0_1):=(blk_cell BK358.out 1).trans rfl;have hcz16_2 : w15.cell? ⟨gb358,2,none⟩ = some (.slice A0_2 l0_2.length c0_2):=(blk_cell BK358.out 2).trans rfl;have hfz16_0:=blk_frozen BK358.out 0;have hfz16_1:=blk_frozen BK358.out 1;have hfz16_2:=blk_frozen BK358.out 2)|((with_reducible refine gate_callee (f:=13) rfl ?_);refine goesL_ (some 26) rfl rfl Try.func13 (by kernel_rfl) rfl #[.agg #[.int .i64 a0_0,.slice A0_1 l0_1.length c0_1,.slice A0_2 l0_2.length c0_2]] rfl (by (try simp only [List.map_toArray,List.map_cons,List.map_nil]);first|done|rfl|(simp only [List.length_drop,List.length_take];rfl)) ?_;(with_reducible refine (laws_toWire.calls k a0_0 _ _ l0_1 _ _ l0_2 t360 t361 t364 _ ?side1 ?side2 ?side3 ?side4 A8.out).mono ?_);(case side1=>exact cm (C_below HR0_1.out HB.out));(case side2=>exact HC0_1.out);(case side3=>exact cm (C_below HR0_2.out HB.out));(case side4=>exact HC0_2.out);rintro e w17 ⟨v362,v365,rfl,ho0,ho1,hb⟩;refine ⟨_,rfl,?_⟩;have n0_:=Aside0.mk (R_lower ho0 (below_size (h1 HB.out GE358.out)));have n1_:=Aside0.mk (R_lower ho1 (below_size (h1 HB.out GE358.out)));have n2_:=Aside0.mk (blk_below (g:=gb358) (o:=.cells #[.int .i64 a0_0,.slice A0_1 l0_1.length c0_1,.slice A0_2 l0_2.length c0_2] 24 (0,0)) (bm BK358.out) hb);have n3_:=Aside0.mk (below_step (h1 HB.out GE358.out) hb);clear BK358;clear HB;have HO363:=n0_;have HO366:=n1_;have BK358:=n2_;have HB:=n3_;clear n0_ n1_ n2_ n3_;(try clear hb);(try clear hb2);(try clear hk);(try clear hi);(try clear ho0);(try clear ho1);obtain ⟨Ao18,co18,eo18⟩:=R_slice HO363.out;subst eo18;obtain ⟨Ao19,co19,eo19⟩:=R_slice HO366.out;subst eo19)|((with_reducible refine gate_callee (f:=31) rfl ?_);refine goesL_ (some 28) rfl rfl Try.func31 (by kernel_rfl) rfl #[.agg #[.int .i64 t360,.slice Ao18 t361.length co18,.slice Ao19 t364.length co19],.int .i64 a1] rfl (by (try simp only [List.map_toArray,List.map_cons,List.map_nil]);first|done|rfl|(simp only [List.length_drop,List.length_take];rfl)) ?_;(with_reducible refine (spec_BeadsAt.calls k t360 _ _ t361 _ _ t364 a1 t367 t370 t373 _ ?side1 ?side2 ?side3 ?side4 A9.out).mono ?_);(case side1=>exact cm (R_reads' HO363.out).2.2);(case side2=>exact (R_reads' HO363.out).2.1);(case side3=>exact cm (R_reads' HO366.out).2.2);(case side4=>exact (R_reads' HO366.out).2.1);rintro e w20 ⟨v368,v371,rfl,ho0,ho1,hb⟩;refine ⟨_,rfl,?_⟩;have n0_:=Aside0.mk (R_mono (R_told (R_told (R_old (rm HO363.out) hb) (R_base ho0)) (R_base ho1)) (fun _ h_=>h_.1));have n1_:=Aside0.mk (R_mono (R_told (R_told (R_old (rm HO366.out) hb) (R_base ho0)) (R_base ho1)) (fun _ h_=>h_.1));have n2_:=Aside0.mk (R_lower (R_new' (R_new' ho0 (R_lt (rm HO363.out))) (R_lt (rm HO366.out))) (below_size (h1 HB.out GE358.out)));have n3_:=Aside0.mk (R_lower (R_new' (R_new' ho1 (R_lt (rm HO363.out))) (R_lt (rm HO366.out))) (below_size (h1 HB.out GE358.out)));have n4_:=Aside0.mk (blk_below (g:=gb358) (o:=.cells #[.int .i64 a0_0,.slice A0_1 l0_1.length c0_1,.slice A0_2 l0_2.length c0_2] 24 (0,0)) (bm BK358.out) hb);have n5_:=Aside0.mk (below_step (h1 HB.out GE358.out) hb);clear HO363;clear HO366;clear BK358;clear HB;have HO363:=n0_;have HO366:=n1_;have HO369:=n2_;have HO372:=n3_;have BK358:=n4_;have HB:=n5_;clear n0_ n1_ n2_ n3_ n4_ n5_;(try clear hb);(try clear hb2);(try clear hk);(try clear hi);(try clear ho0);(try clear ho1);have hcz21_0 : w20.cell? ⟨gb358,0,none⟩ = some (.int .i64 a0_0):=(blk_cell BK358.out 0).trans rfl;have hcz21_1 : w20.cell? ⟨gb358,1,none⟩ = some (.slice A0_1 l0_1.length c0_1):=(blk_cell BK358.out 1).trans rfl;have hcz21_2 : w20.cell? ⟨gb358,2,none⟩ = some (.slice A0_2 l0_2.length c0_2):=(blk_cell BK358.out 2).trans rfl;have hfz21_0:=blk_frozen BK358.out 0;have hfz21_1:=blk_frozen BK358.out 1;have hfz21_2:=blk_frozen BK358.out 2)|((with_reducible refine gate_callee (f:=13) rfl ?_);refine goesL_ (some 33) rfl rfl Try.func13 (by kernel_rfl) rfl #[.agg #[.int .i64 a0_0,.slice A0_1 l0_1.length c0_1,.slice A0_2 l0_2.length c0_2]] rfl (by (try simp only [List.map_toArray,List.map_cons,List.map_nil]);first|done|rfl|(simp only [List.length_drop,List.length_take];rfl)) ?_;(with_reducible refine (laws_toWire.calls k a0_0 _ _ l0_1 _ _ l0_2 t374 t375 t378 _ ?side1 ?side2 ?side3 ?side4 A10.out).mono ?_);(case side1=>exact cm (C_below HR0_1.out HB.out));(case side2=>exact HC0_1.out);(case side3=>exact cm (C_below HR0_2.out HB.out));(case side4=>exact HC0_2.out);rintro e w22 ⟨v376,v379,rfl,ho0,ho1,hb⟩;refine ⟨_,rfl,?_⟩;have n0_:=Aside0.mk (R_mono (R_told (R_told (R_old (rm HO363.out) hb) (R_base ho0)) (R_base ho1)) (fun _ h_=>h_.1));have n1_:=Aside0.mk (R_mono (R_told (R_told (R_old (rm HO366.out) hb) (R_base ho0)) (R_base ho1)) (fun _ h_=>h_.1));have n2_:=Aside0.mk (R_mono (R_told (R_told (R_old (rm HO369.out) hb) (R_base ho0)) (R_base ho1)) (fun _ h_=>h_.1));have n3_:=Aside0.mk (R_mono (R_told (R_told (R_old (rm HO372.out) hb) (R_base ho0)) (R_base ho1)) (fun _ h_=>h_.1));have n4_:=Aside0.mk (R_lower (R_new' (R_new' (R_new' (R_new' ho0 (R_lt (rm HO363.out))) (R_lt (rm HO366.out))) (R_lt (rm HO369.out))) (R_lt (rm HO372.out))) (below_size (h1 HB.out GE358.out)));have n5_:=Aside0.mk (R_lower (R_new' (R_new' (R_new' (R_new' ho1 (R_lt (rm HO363.out))) (R_lt (rm HO366.out))) (R_lt (rm HO369.out))) (R_lt (rm HO372.out))) (below_size (h1 HB.out GE358.out)));have n6_:=Aside0.mk (blk_below (g:=gb358) (o:=.cells #[.int .i64 a0_0,.slice A0_1 l0_1.length c0_1,.slice A0_2 l0_2.length c0_2] 24 (0,0)) (bm BK358.out) hb);have n7_:=Aside0.mk (below_step (h1 HB.out GE358.out) hb);clear HO363;clear HO366;clear HO369;clear HO372;clear BK358;clear HB;have HO363:=n0_;have HO366:=n1_;have HO369:=n2_;have HO372:=n3_;have HO377:=n4_;have HO380:=n5_;have BK358:=n6_;have HB:=n7_;clear n0_ n1_ n2_ n3_ n4_ n5_ n6_ n7_;(try clear hb);(try clear hb2);(try clear hk);(try clear hi);(try clear ho0);(try clear ho1))|((with_reducible refine gate_dst (N:=9) rfl ?_);refine box_event ?hg (N:=9) ?hd (cs:=#[.int .i64 0,.slice none 0 0,.slice none 0 0]) (t:=27) ?hr ?_;(case hd=>rfl);(case hg=>rfl);(case hr=>first|(go_simp;done)|(go_simp;rfl));intro gb381 hg w23 hbox hb;have n0_:=Aside0.mk (R_below (rm HO363.out) hb);have n1_:=Aside0.mk (R_below (rm HO366.out) hb);have n2_:=Aside0.mk (R_below (rm HO369.out) hb);have n3_:=Aside0.mk (R_below (rm HO372.out) hb);have n4_:=Aside0.mk (R_below (rm HO377.out) hb);have n5_:=Aside0.mk (R_below (rm HO380.out) hb);have n6_:=Aside0.mk (blk_below (g:=gb358) (o:=.cells #[.int .i64 a0_0,.slice A0_1 l0_1.length c0_1,.slice A0_2 l0_2.length c0_2] 24 (0,0)) (bm BK358.out) hb);have n7_:=Aside0.mk (below_step (h1 HB.out GE358.out) hb);have n8_:=Aside0.mk (hbox);have n9_:=Aside0.mk ((by rw [hg];exact (below_size (h1 HB.out GE358.out)) : w.heap.size ≤ gb381));have n10_:=Aside0.mk ((by rw [hg];exact (below_size (h1 HB.out GE358.out)) : w.heap.size ≤ gb381));have n11_:=Aside0.mk ((by rw [hg];exact Nat.ne_of_lt (blk_lt (g:=gb358) (bm BK358.out)) : gb358 ≠ gb381));have n12_:=Aside0.mk ((by rw [hg];exact Nat.ne_of_gt (blk_lt (g:=gb358) (bm BK358.out)) : gb381 ≠ gb358));clear HO363;clear HO366;clear HO369;clear HO372;clear HO377;clear HO380;clear BK358;clear HB;have HO363:=n0_;have HO366:=n1_;have HO369:=n2_;have HO372:=n3_;have HO377:=n4_;have HO380:=n5_;have BK358:=n6_;have HB:=n7_;have BK381:=n8_;have GW381:=n9_;have GE381:=n10_;have NB358_381:=n11_;have NB381_358:=n12_;clear n0_ n1_ n2_ n3_ n4_ n5_ n6_ n7_ n8_ n9_ n10_ n11_ n12_;clear hb hbox hg;have hnb24:=NB381_358.out;have hnc24:=NB358_381.out;have hcz25_0 : w23.cell? ⟨gb381,0,none⟩ = some (.int .i64 0):=(blk_cell BK381.out 0).trans rfl;have hcz25_1 : w23.cell? ⟨gb381,1,none⟩ = some (.slice none 0 0):=(blk_cell BK381.out 1).trans rfl;have hcz25_2 : w23.cell? ⟨gb381,2,none⟩ = some (.slice none 0 0):=(blk_cell BK381.out 2).trans rfl;have hfz25_0:=blk_frozen BK381.out 0;have hfz25_1:=blk_frozen BK381.out 1;have hfz25_2:=blk_frozen BK381.out 2;obtain ⟨Ao26,co26,eo26⟩:=R_slice HO377.out;subst eo26;obtain ⟨Ao27,co27,eo27⟩:=R_slice HO380.out;subst eo27)|((with_reducible refine gate_callee (f:=32) rfl ?_);refine goesL_ (some 37) rfl rfl Try.func32 (by kernel_rfl) rfl #[.agg #[.int .i64 t374,.slice Ao26 t375.length co26,.slice Ao27 t378.length co27],.int .i64 a1] rfl (by (try simp only [List.map_toArray,List.map_cons,List.map_nil]);first|done|rfl|(simp only [List.length_drop,List.length_take];rfl)) ?_;(with_reducible refine (impl_BeadsAt.calls k t374 _ _ t375 _ _ t378 a1 t382 t385 t388 _ ?side1 ?side2 ?side3 ?side4 A11.out).mono ?_);(case side1=>refine (R_reads' (e:=3) (base:=w.heap.size) (ok:=fun k_=>((((some k_ ≠ (.slice Ao27 t378.length co27 : Value).ownBlock ∧ some k_ ≠ (.slice Ao18 t361.length co18 : Value).ownBlock) ∧ some k_ ≠ (.slice Ao19 t364.length co19 : Value).ownBlock) ∧ some k_ ≠ (v368 : Value).ownBlock) ∧ some k_ ≠ (v371 : Value).ownBlock)) (n:=t375.length) (c:=co26) ?_).2.2;exact (by (with_reducible repeat (first|apply R_alloc|apply R_drewN|apply R_drew));exact (R_mono (R_far (p:=⟨gb381,2,none⟩) (R_far (p:=⟨gb381,1,none⟩) (R_far (p:=⟨gb381,0,none⟩) (R_types HO377.out BK381.out (by decide)) (fun _ hk=>hk.2) (.int .i64 t374)) (fun _ hk=>hk.2) (.slice Ao26 t375.length co26)) (fun _ hk=>hk.2) (.slice Ao27 t378.length co27)) (fun _ h_=>h_.1))));(case side2=>exact (R_reads' HO377.out).2.1);(case side3=>refine (R_reads' (e:=3) (base:=w.heap.size) (ok:=fun k_=>((((some k_ ≠ (.slice Ao26 t375.length co26 : Value).ownBlock ∧ some k_ ≠ (.slice Ao18 t361.length co18 : Value).ownBlock) ∧ some k_ ≠ (.slice Ao19 t364.length co19 : Value).ownBlock) ∧ some k_ ≠ (v368 : Value).ownBlock) ∧ some k_ ≠ (v371 : Value).ownBlock)) (n:=t378.length) (c:=co27) ?_).2.2;exact (by (with_reducible repeat (first|apply R_alloc|apply R_drewN|apply R_drew));exact (R_mono (R_far (p:=⟨gb381,2,none⟩) (R_far (p:=⟨gb381,1,none⟩) (R_far (p:=⟨gb381,0,none⟩) (R_types HO380.out BK381.out (by decide)) (fun _ hk=>hk.2) (.int .i64 t374)) (fun _ hk=>hk.2) (.slice Ao26 t375.length co26)) (fun _ hk=>hk.2) (.slice Ao27 t378.length co27)) (fun _ h_=>h_.1))));(case side4=>exact (R_reads' HO380.out).2.1);rintro e w28 ⟨v383,v386,rfl,ho0,ho1,hb⟩;refine ⟨_,rfl,?_⟩;have n0_:=Aside0.mk (R_mono (R_told (R_told (R_old (by (with_reducible repeat (first|apply R_alloc|apply R_drewN|apply R_drew));exact (R_mono (R_far (p:=⟨gb381,2,none⟩) (R_far (p:=⟨gb381,1,none⟩) (R_far (p:=⟨gb381,0,none⟩) (R_types HO363.out BK381.out (by decide)) (fun _ hk=>hk.2) (.int .i64 t374)) (fun _ hk=>hk.2) (.slice Ao26 t375.length co26)) (fun _ hk=>hk.2) (.slice Ao27 t378.length co27)) (fun _ h_=>h_.1))) hb) (R_base ho0)) (R_base ho1)) (fun _ h_=>h_.1));have n1_:=Aside0.mk (R_mono (R_told (R_told (R_old (by (with_reducible repeat (first|apply R_alloc|apply R_drewN|apply R_drew));exact (R_mono (R_far (p:=⟨gb381,2,none⟩) (R_far (p:=⟨gb381,1,none⟩) (R_far (p:=⟨gb381,0,none⟩) (R_types HO366.out BK381.out (by decide)) (fun _ hk=>hk.2) (.int .i64 t374)) (fun _ hk=>hk.2) (.slice Ao26 t375.length co26)) (fun _ hk=>hk.2) (.slice Ao27 t378.length co27)) (fun _ h_=>h_.1))) hb) (R_base ho0)) (R_base ho1)) (fun _ h_=>h_.1));have n2_:=Aside0.mk (R_mono (R_told (R_told (R_old (by (with_reducible repeat (first|apply R_alloc|apply R_drewN|apply R_drew));exact (R_mono (R_far (p:=⟨gb381,2,none⟩) (R_far (p:=⟨gb381,1,none⟩) (R_far (p:=⟨gb381,0,none⟩) (R_types HO369.out BK381.out (by decide)) (fun _ hk=>hk.2) (.int .i64 t374)) (fun _ hk=>hk.2) (.slice Ao26 t375.length co26)) (fun _ hk=>hk.2) (.slice Ao27 t378.length co27)) (fun _ h_=>h_.1))) hb) (R_base ho0)) (R_base ho1)) (fun _ h_=>h_.1));have n3_:=Aside0.mk (R_mono (R_told (R_told (R_old (by (with_reducible repeat (first|apply R_alloc|apply R_drewN|apply R_drew));exact (R_mono (R_far (p:=⟨gb381,2,none⟩) (R_far (p:=⟨gb381,1,none⟩) (R_far (p:=⟨gb381,0,none⟩) (R_types HO372.out BK381.out (by decide)) (fun _ hk=>hk.2) (.int .i64 t374)) (fun _ hk=>hk.2) (.slice Ao26 t375.length co26)) (fun _ hk=>hk.2) (.slice Ao27 t378.length co27)) (fun _ h_=>h_.1))) hb) (R_base ho0)) (R_base ho1)) (fun _ h_=>h_.1));have n4_:=Aside0.mk (R_mono (R_told (R_told (R_old (by (with_reducible repeat (first|apply R_alloc|apply R_drewN|apply R_drew));exact (R_mono (R_far (p:=⟨gb381,2,none⟩) (R_far (p:=⟨gb381,1,none⟩) (R_far (p:=⟨gb381,0,none⟩) (R_types HO377.out BK381.out (by decide)) (fun _ hk=>hk.2) (.int .i64 t374)) (fun _ hk=>hk.2) (.slice Ao26 t375.length co26)) (fun _ hk=>hk.2) (.slice Ao27 t378.length co27)) (fun _ h_=>h_.1))) hb) (R_base ho0)) (R_base ho1)) (fun _ h_=>h_.1));have n5_:=Aside0.mk (R_mono (R_told (R_told (R_old (by (with_reducible repeat (first|apply R_alloc|apply R_drewN|apply R_drew));exact (R_mono (R_far (p:=⟨gb381,2,none⟩) (R_far (p:=⟨gb381,1,none⟩) (R_far (p:=⟨gb381,0,none⟩) (R_types HO380.out BK381.out (by decide)) (fun _ hk=>hk.2) (.int .i64 t374)) (fun _ hk=>hk.2) (.slice Ao26 t375.length co26)) (fun _ hk=>hk.2) (.slice Ao27 t378.length co27)) (fun _ h_=>h_.1))) hb) (R_base ho0)) (R_base ho1)) (fun _ h_=>h_.1));have n6_:=Aside0.mk (R_lower (R_new' (R_new' (R_new' (R_new' (R_new' (R_new' ho0 (R_lt (by (with_reducible repeat (first|apply R_alloc|apply R_drewN|apply R_drew));exact (R_mono (R_far (p:=⟨gb381,2,none⟩) (R_far (p:=⟨gb381,1,none⟩) (R_far (p:=⟨gb381,0,none⟩) (R_types HO363.out BK381.out (by decide)) (fun _ hk=>hk.2) (.int .i64 t374)) (fun _ hk=>hk.2) (.slice Ao26 t375.length co26)) (fun _ hk=>hk.2) (.slice Ao27 t378.length co27)) (fun _ h_=>h_.1))))) (R_lt (by (with_reducible repeat (first|apply R_alloc|apply R_drewN|apply R_drew));exact (R_mono (R_far (p:=⟨gb381,2,none⟩) (R_far (p:=⟨gb381,1,none⟩) (R_far (p:=⟨gb381,0,none⟩) (R_types HO366.out BK381.out (by decide)) (fun _ hk=>hk.2) (.int .i64 t374)) (fun _ hk=>hk.2) (.slice Ao26 t375.length co26)) (fun _ hk=>hk.2) (.slice Ao27 t378.length co27)) (fun _ h_=>h_.1))))) (R_lt (by (with_reducible repeat (first|apply R_alloc|apply R_drewN|apply R_drew));exact (R_mono (R_far (p:=⟨gb381,2,none⟩) (R_far (p:=⟨gb381,1,none⟩) (R_far (p:=⟨gb381,0,none⟩) (R_types HO369.out BK381.out (by decide)) (fun _ hk=>hk.2) (.int .i64 t374)) (fun _ hk=>hk.2) (.slice Ao26 t375.length co26)) (fun _ hk=>hk.2) (.slice Ao27 t378.length co27)) (fun _ h_=>h_.1))))) (R_lt (by (with_reducible repeat (first|apply R_alloc|apply R_drewN|apply R_drew));exact (R_mono (R_far (p:=⟨gb381,2,none⟩) (R_far (p:=⟨gb381,1,none⟩) (R_far (p:=⟨gb381,0,none⟩) (R_types HO372.out BK381.out (by decide)) (fun _ hk=>hk.2) (.int .i64 t374)) (fun _ hk=>hk.2) (.slice Ao26 t375.length co26)) (fun _ hk=>hk.2) (.slice Ao27 t378.length co27)) (fun _ h_=>h_.1))))) (R_lt (by (with_reducible repeat (first|apply R_alloc|apply R_drewN|apply R_drew));exact (R_mono (R_far (p:=⟨gb381,2,none⟩) (R_far (p:=⟨gb381,1,none⟩) (R_far (p:=⟨gb381,0,none⟩) (R_types HO377.out BK381.out (by decide)) (fun _ hk=>hk.2) (.int .i64 t374)) (fun _ hk=>hk.2) (.slice Ao26 t375.length co26)) (fun _ hk=>hk.2) (.slice Ao27 t378.length co27)) (fun _ h_=>h_.1))))) (R_lt (by (with_reducible repeat (first|apply R_alloc|apply R_drewN|apply R_drew));exact (R_mono (R_far (p:=⟨gb381,2,none⟩) (R_far (p:=⟨gb381,1,none⟩) (R_far (p:=⟨gb381,0,none⟩) (R_types HO380.out BK381.out (by decide)) (fun _ hk=>hk.2) (.int .i64 t374)) (fun _ hk=>hk.2) (.slice Ao26 t375.length co26)) (fun _ hk=>hk.2) (.slice Ao27 t378.length co27)) (fun _ h_=>h_.1))))) (below_size (h2 HB.out GE358.out GE381.out)));have n7_:=Aside0.mk (R_lower (R_new' (R_new' (R_new' (R_new' (R_new' (R_new' ho1 (R_lt (by (with_reducible repeat (first|apply R_alloc|apply R_drewN|apply R_drew));exact (R_mono (R_far (p:=⟨gb381,2,none⟩) (R_far (p:=⟨gb381,1,none⟩) (R_far (p:=⟨gb381,0,none⟩) (R_types HO363.out BK381.out (by decide)) (fun _ hk=>hk.2) (.int .i64 t374)) (fun _ hk=>hk.2) (.slice Ao26 t375.length co26)) (fun _ hk=>hk.2) (.slice Ao27 t378.length co27)) (fun _ h_=>h_.1))))) (R_lt (by (with_reducible repeat (first|apply R_alloc|apply R_drewN|apply R_drew));exact (R_mono (R_far (p:=⟨gb381,2,none⟩) (R_far (p:=⟨gb381,1,none⟩) (R_far (p:=⟨gb381,0,none⟩) (R_types HO366.out BK381.out (by decide)) (fun _ hk=>hk.2) (.int .i64 t374)) (fun _ hk=>hk.2) (.slice Ao26 t375.length co26)) (fun _ hk=>hk.2) (.slice Ao27 t378.length co27)) (fun _ h_=>h_.1))))) (R_lt (by (with_reducible repeat (first|apply R_alloc|apply R_drewN|apply R_drew));exact (R_mono (R_far (p:=⟨gb381,2,none⟩) (R_far (p:=⟨gb381,1,none⟩) (R_far (p:=⟨gb381,0,none⟩) (R_types HO369.out BK381.out (by decide)) (fun _ hk=>hk.2) (.int .i64 t374)) (fun _ hk=>hk.2) (.slice Ao26 t375.length co26)) (fun _ hk=>hk.2) (.slice Ao27 t378.length co27)) (fun _ h_=>h_.1))))) (R_lt (by (with_reducible repeat (first|apply R_alloc|apply R_drewN|apply R_drew));exact (R_mono (R_far (p:=⟨gb381,2,none⟩) (R_far (p:=⟨gb381,1,none⟩) (R_far (p:=⟨gb381,0,none⟩) (R_types HO372.out BK381.out (by decide)) (fun _ hk=>hk.2) (.int .i64 t374)) (fun _ hk=>hk.2) (.slice Ao26 t375.length co26)) (fun _ hk=>hk.2) (.slice Ao27 t378.length co27)) (fun _ h_=>h_.1))))) (R_lt (by (with_reducible repeat (first|apply R_alloc|apply R_drewN|apply R_drew));exact (R_mono (R_far (p:=⟨gb381,2,none⟩) (R_far (p:=⟨gb381,1,none⟩) (R_far (p:=⟨gb381,0,none⟩) (R_types HO377.out BK381.out (by decide)) (fun _ hk=>hk.2) (.int .i64 t374)) (fun _ hk=>hk.2) (.slice Ao26 t375.length co26)) (fun _ hk=>hk.2) (.slice Ao27 t378.length co27)) (fun _ h_=>h_.1))))) (R_lt (by (with_reducible repeat (first|apply R_alloc|apply R_drewN|apply R_drew));exact (R_mono (R_far (p:=⟨gb381,2,none⟩) (R_far (p:=⟨gb381,1,none⟩) (R_far (p:=⟨gb381,0,none⟩) (R_types HO380.out BK381.out (by decide)) (fun _ hk=>hk.2) (.int .i64 t374)) (fun _ hk=>hk.2) (.slice Ao26 t375.length co26)) (fun _ hk=>hk.2) (.slice Ao27 t378.length co27)) (fun _ h_=>h_.1))))) (below_size (h2 HB.out GE358.out GE381.out)));have n8_:=Aside0.mk (blk_below (g:=gb358) (o:=.cells #[.int .i64 a0_0,.slice A0_1 l0_1.length c0_1,.slice A0_2 l0_2.length c0_2] 24 (0,0)) (by (with_reducible repeat (first|apply blk_drewN|apply blk_drew|apply blk_alloc));refine blk_far ?_ NB358_381.out _;(with_reducible repeat (first|apply blk_drewN|apply blk_drew|apply blk_alloc));refine blk_far ?_ NB358_381.out _;(with_reducible repeat (first|apply blk_drewN|apply blk_drew|apply blk_alloc));refine blk_far ?_ NB358_381.out _;(with_reducible repeat (first|apply blk_drewN|apply blk_drew|apply blk_alloc));exact BK358.out) hb);have n9_:=Aside0.mk (blk_below (g:=gb381) (o:=.cells #[.int .i64 t374,.slice Ao26 t375.length co26,.slice Ao27 t378.length co27] 27 (0,0)) (by (with_reducible repeat (first|apply blk_drewN|apply blk_drew|apply blk_alloc));refine blk_put (cs:=#[.int .i64 t374,.slice Ao26 t375.length co26,.slice none 0 0]) ?_ 2 _ rfl;(with_reducible repeat (first|apply blk_drewN|apply blk_drew|apply blk_alloc));refine blk_put (cs:=#[.int .i64 t374,.slice none 0 0,.slice none 0 0]) ?_ 1 _ rfl;(with_reducible repeat (first|apply blk_drewN|apply blk_drew|apply blk_alloc));refine blk_put (cs:=#[.int .i64 0,.slice none 0 0,.slice none 0 0]) ?_ 0 _ rfl;(with_reducible repeat (first|apply blk_drewN|apply blk_drew|apply blk_alloc));exact BK381.out) hb);have n10_:=Aside0.mk (below_step (h2 HB.out GE358.out GE381.out) hb);clear HO363;clear HO366;clear HO369;clear HO372;clear HO377;clear HO380;clear BK358;clear BK381;clear HB;have HO363:=n0_;have HO366:=n1_;have HO369:=n2_;have HO372:=n3_;have HO377:=n4_;have HO380:=n5_;have HO384:=n6_;have HO387:=n7_;have BK358:=n8_;have BK381:=n9_;have HB:=n10_;clear n0_ n1_ n2_ n3_ n4_ n5_ n6_ n7_ n8_ n9_ n10_;(try clear hb);(try clear hb2);(try clear hk);(try clear hi);(try clear ho0);(try clear ho1)))
 (try simp only [ap])
 go_cut [55] (fun v55 wc=>∃ (kq : Nat) (x55_11 : Bool),v55 = .bool x55_11 ∧ Aside0 (laws_FnExactBeadsAt.j0 kq a1 t367 t370 t373 t382 t385 t388 x55_11 a0_0 l0_1 l0_2 t374 t375 t378 = some r) ∧ Aside0 (kq ≤ k) ∧ Aside0 (Kd.R (Kd.int .i64) 3 wc w.heap.size (fun k_=>some k_ ≠ (v371 : Value).ownBlock ∧ some k_ ≠ (v383 : Value).ownBlock ∧ some k_ ≠ (v386 : Value).ownBlock ∧ some k_ ≠ ((.slice Ao26 t375.length co26) : Value).ownBlock ∧ some k_ ≠ ((.slice Ao27 t378.length co27) : Value).ownBlock) v368 t367) ∧ Aside0 (Kd.R (Kd.int .i64) 3 wc w.heap.size (fun k_=>some k_ ≠ (v368 : Value).ownBlock ∧ some k_ ≠ (v383 : Value).ownBlock ∧ some k_ ≠ (v386 : Value).ownBlock ∧ some k_ ≠ ((.slice Ao26 t375.length co26) : Value).ownBlock ∧ some k_ ≠ ((.slice Ao27 t378.length co27) : Value).ownBlock) v371 t370) ∧ Aside0 (Kd.R (Kd.int .i64) 3 wc w.heap.size (fun k_=>some k_ ≠ (v368 : Value).ownBlock ∧ some k_ ≠ (v371 : Value).ownBlock ∧ some k_ ≠ (v386 : Value).ownBlock ∧ some k_ ≠ ((.slice Ao26 t375.length co26) : Value).ownBlock ∧ some k_ ≠ ((.slice Ao27 t378.length co27) : Value).ownBlock) v383 t382) ∧ Aside0 (Kd.R (Kd.int .i64) 3 wc w.heap.size (fun k_=>some k_ ≠ (v368 : Value).ownBlock ∧ some k_ ≠ (v371 : Value).ownBlock ∧ some k_ ≠ (v383 : Value).ownBlock ∧ some k_ ≠ ((.slice Ao26 t375.length co26) : Value).ownBlock ∧ some k_ ≠ ((.slice Ao27 t378.length co27) : Value).ownBlock) v386 t385) ∧ Aside0 (Kd.R (Kd.int .i64) 3 wc w.heap.size (fun k_=>some k_ ≠ (v368 : Value).ownBlock ∧ some k_ ≠ (v371 : Value).ownBlock ∧ some k_ ≠ (v383 : Value).ownBlock ∧ some k_ ≠ (v386 : Value).ownBlock ∧ some k_ ≠ ((.slice Ao27 t378.length co27) : Value).ownBlock) (.slice Ao26 t375.length co26) t375) ∧ Aside0 (Kd.R (Kd.int .i64) 3 wc w.heap.size (fun k_=>some k_ ≠ (v368 : Value).ownBlock ∧ some k_ ≠ (v371 : Value).ownBlock ∧ some k_ ≠ (v383 : Value).ownBlock ∧ some k_ ≠ (v386 : Value).ownBlock ∧ some k_ ≠ ((.slice Ao26 t375.length co26) : Value).ownBlock) (.slice Ao27 t378.length co27) t378) ∧ Aside0 (wc.heap[gb358]? = some (.cells #[.int .i64 a0_0,(.slice A0_1 l0_1.length c0_1),(.slice A0_2 l0_2.length c0_2)] 24 (0,0))) ∧ Aside0 (wc.heap[gb381]? = some (.cells #[.int .i64 t374,(.slice Ao26 t375.length co26),(.slice Ao27 t378.length co27)] 27 (0,0))) ∧ Aside0 (Below w.heap.size w wc))
 case first =>
  have H:=HC12.out
  clear HC12
  replace H:=Option.bind_eq_some_iff.mp H
  obtain ⟨t389,A290,H⟩:=H
  replace H : (if t389 = true then ((laws_eqIntS.f k t385 t370).bind fun t390=>(if t390 = true then (laws_FnExactBeadsAt.j0 k a1 t367 t370 t373 t382 t385 t388 (t388 != t373) a0_0 l0_1 l0_2 t374 t375 t378) else (laws_FnExactBeadsAt.j0 k a1 t367 t370 t373 t382 t385 t388 true a0_0 l0_1 l0_2 t374 t375 t378))) else (laws_FnExactBeadsAt.j0 k a1 t367 t370 t373 t382 t385 t388 true a0_0 l0_1 l0_2 t374 t375 t378)) = some r:=H
  have A29:=Aside0.mk A290
  clear A290
  by_cases c30 : t389 = true
  rotate_left
  ·replace c30:=Bool.eq_false_iff.mpr c30
   subst c30
   have H1 : (laws_FnExactBeadsAt.j0 k a1 t367 t370 t373 t382 t385 t388 true a0_0 l0_1 l0_2 t374 t375 t378) = some r:=by rw [if_neg (show ¬ (false = true) by decide)] at H;exact H
   clear H
   have H:=H1
   clear H1
   have H':=Aside0.mk H
   clear H
   obtain ⟨Ao41,co41,eo41⟩:=R_slice HO384.out
   subst eo41
   obtain ⟨Ao42,co42,eo42⟩:=R_slice HO369.out
   subst eo42
   go_wp2_with (first|((with_reducible refine gate_callee (f:=22) rfl ?_);refine goesL_ (some 43) rfl rfl Try.func22 (by kernel_rfl) rfl #[.slice Ao41 t382.length co41,.slice Ao42 t367.length co42] rfl (by (try simp only [List.map_toArray,List.map_cons,List.map_nil]);first|done|rfl|(simp only [List.length_drop,List.length_take];rfl)) ?_;(with_reducible refine (laws_eqIntS.calls k _ _ t382 _ _ t367 false _ ?side1 ?side2 ?side3 ?side4 A29.out).mono ?_);(case side1=>exact cm (R_reads' HO384.out).2.2);(case side2=>exact (R_reads' HO384.out).2.1);(case side3=>exact cm (R_reads' HO369.out).2.2);(case side4=>exact (R_reads' HO369.out).2.1);rintro e w' ⟨rfl,⟨nd,rfl⟩⟩;refine ⟨_,rfl,?_⟩))
   go_meet
   case rel=>exact ⟨_,(true),(by first|rfl|(simp;done)|(simp [*];done)),H',⟨by first|omega|exact Nat.le_refl _⟩,⟨rm (R_mono HO369.out (fun _ hk=>⟨hk.1.1.1.1.1.1,⟨hk.1.2,⟨hk.2,⟨hk.1.1.1.2,hk.1.1.2⟩⟩⟩⟩))⟩,⟨rm (R_mono HO372.out (fun _ hk=>⟨hk.1.1.1.1.1.1,⟨hk.1.2,⟨hk.2,⟨hk.1.1.1.2,hk.1.1.2⟩⟩⟩⟩))⟩,⟨rm (R_mono HO384.out (fun _ hk=>⟨hk.1.1.1.2,⟨hk.1.1.2,⟨hk.1.1.1.1.1.1,⟨hk.1.2,hk.2⟩⟩⟩⟩))⟩,⟨rm (R_mono HO387.out (fun _ hk=>⟨hk.1.1.1.2,⟨hk.1.1.2,⟨hk.1.1.1.1.1.1,⟨hk.1.2,hk.2⟩⟩⟩⟩))⟩,⟨rm (R_mono HO377.out (fun _ hk=>⟨hk.1.1.1.2,⟨hk.1.1.2,⟨hk.1.2,⟨hk.2,hk.1.1.1.1.1.1⟩⟩⟩⟩))⟩,⟨rm (R_mono HO380.out (fun _ hk=>⟨hk.1.1.1.2,⟨hk.1.1.2,⟨hk.1.2,⟨hk.2,hk.1.1.1.1.1.1⟩⟩⟩⟩))⟩,⟨bm BK358.out⟩,⟨bm BK381.out⟩,⟨h2 HB.out GE358.out GE381.out⟩⟩
  subst c30
  have H1 : ((laws_eqIntS.f k t385 t370).bind fun t390=>(if t390 = true then (laws_FnExactBeadsAt.j0 k a1 t367 t370 t373 t382 t385 t388 (t388 != t373) a0_0 l0_1 l0_2 t374 t375 t378) else (laws_FnExactBeadsAt.j0 k a1 t367 t370 t373 t382 t385 t388 true a0_0 l0_1 l0_2 t374 t375 t378))) = some r:=by rw [if_pos rfl] at H;exact H
  clear H
  have H:=H1
  clear H1
  replace H:=Option.bind_eq_some_iff.mp H
  obtain ⟨t390,A310,H⟩:=H
  replace H : (if t390 = true then (laws_FnExactBeadsAt.j0 k a1 t367 t370 t373 t382 t385 t388 (t388 != t373) a0_0 l0_1 l0_2 t374 t375 t378) else (laws_FnExactBeadsAt.j0 k a1 t367 t370 t373 t382 t385 t388 true a0_0 l0_1 l0_2 t374 t375 t378)) = some r:=H
  have A31:=Aside0.mk A310
  clear A310
  by_cases c32 : t390 = true
  ·subst c32
   have H1 : (laws_FnExactBeadsAt.j0 k a1 t367 t370 t373 t382 t385 t388 (t388 != t373) a0_0 l0_1 l0_2 t374 t375 t378) = some r:=by rw [if_pos rfl] at H;exact H
   clear H
   have H:=H1
   clear H1
   have H':=Aside0.mk H
   clear H
   obtain ⟨Ao33,co33,eo33⟩:=R_slice HO384.out
   subst eo33
   obtain ⟨Ao34,co34,eo34⟩:=R_slice HO369.out
   subst eo34
   go_wp2_with (first|((with_reducible refine gate_callee (f:=22) rfl ?_);refine goesL_ (some 43) rfl rfl Try.func22 (by kernel_rfl) rfl #[.slice Ao33 t382.length co33,.slice Ao34 t367.length co34] rfl (by (try simp only [List.map_toArray,List.map_cons,List.map_nil]);first|done|rfl|(simp only [List.length_drop,List.length_take];rfl)) ?_;(with_reducible refine (laws_eqIntS.calls k _ _ t382 _ _ t367 true _ ?side1 ?side2 ?side3 ?side4 A29.out).mono ?_);(case side1=>exact cm (R_reads' HO384.out).2.2);(case side2=>exact (R_reads' HO384.out).2.1);(case side3=>exact cm (R_reads' HO369.out).2.2);(case side4=>exact (R_reads' HO369.out).2.1);rintro e w' ⟨rfl,⟨nd,rfl⟩⟩;refine ⟨_,rfl,?_⟩;obtain ⟨Ao35,co35,eo35⟩:=R_slice HO387.out;subst eo35;obtain ⟨Ao36,co36,eo36⟩:=R_slice HO372.out;subst eo36)|(go_at_call 22;(with_reducible refine (laws_eqIntS.calls k _ _ t385 _ _ t370 true _ ?side1 ?side2 ?side3 ?side4 A31.out).mono ?_);(case side1=>exact cm (R_reads' HO387.out).2.2);(case side2=>exact (R_reads' HO387.out).2.1);(case side3=>exact cm (R_reads' HO372.out).2.2);(case side4=>exact (R_reads' HO372.out).2.1);rintro e w' ⟨rfl,⟨nd,rfl⟩⟩))
   go_meet
   case rel=>exact ⟨_,((t388 != t373)),(by first|rfl|(simp;done)|(simp [*];done)),H',⟨by first|omega|exact Nat.le_refl _⟩,⟨rm (R_mono HO369.out (fun _ hk=>⟨hk.1.1.1.1.1.1,⟨hk.1.2,⟨hk.2,⟨hk.1.1.1.2,hk.1.1.2⟩⟩⟩⟩))⟩,⟨rm (R_mono HO372.out (fun _ hk=>⟨hk.1.1.1.1.1.1,⟨hk.1.2,⟨hk.2,⟨hk.1.1.1.2,hk.1.1.2⟩⟩⟩⟩))⟩,⟨rm (R_mono HO384.out (fun _ hk=>⟨hk.1.1.1.2,⟨hk.1.1.2,⟨hk.1.1.1.1.1.1,⟨hk.1.2,hk.2⟩⟩⟩⟩))⟩,⟨rm (R_mono HO387.out (fun _ hk=>⟨hk.1.1.1.2,⟨hk.1.1.2,⟨hk.1.1.1.1.1.1,⟨hk.1.2,hk.2⟩⟩⟩⟩))⟩,⟨rm (R_mono HO377.out (fun _ hk=>⟨hk.1.1.1.2,⟨hk.1.1.2,⟨hk.1.2,⟨hk.2,hk.1.1.1.1.1.1⟩⟩⟩⟩))⟩,⟨rm (R_mono HO380.out (fun _ hk=>⟨hk.1.1.1.2,⟨hk.1.1.2,⟨hk.1.2,⟨hk.2,hk.1.1.1.1.1.1⟩⟩⟩⟩))⟩,⟨bm BK358.out⟩,⟨bm BK381.out⟩,⟨h2 HB.out GE358.out GE381.out⟩⟩
  replace c32:=Bool.eq_false_iff.mpr c32
  subst c32
  have H1 : (laws_FnExactBeadsAt.j0 k a1 t367 t370 t373 t382 t385 t388 true a0_0 l0_1 l0_2 t374 t375 t378) = some r:=by rw [if_neg (show ¬ (false = true) by decide)] at H;exact H
  clear H
  have H:=H1
  clear H1
  have H':=Aside0.mk H
  clear H
  obtain ⟨Ao37,co37,eo37⟩:=R_slice HO384.out
  subst eo37
  obtain ⟨Ao38,co38,eo38⟩:=R_slice HO369.out
  subst eo38
  go_wp2_with (first|((with_reducible refine gate_callee (f:=22) rfl ?_);refine goesL_ (some 43) rfl rfl Try.func22 (by kernel_rfl) rfl #[.slice Ao37 t382.length co37,.slice Ao38 t367.length co38] rfl (by (try simp only [List.map_toArray,List.map_cons,List.map_nil]);first|done|rfl|(simp only [List.length_drop,List.length_take];rfl)) ?_;(with_reducible refine (laws_eqIntS.calls k _ _ t382 _ _ t367 true _ ?side1 ?side2 ?side3 ?side4 A29.out).mono ?_);(case side1=>exact cm (R_reads' HO384.out).2.2);(case side2=>exact (R_reads' HO384.out).2.1);(case side3=>exact cm (R_reads' HO369.out).2.2);(case side4=>exact (R_reads' HO369.out).2.1);rintro e w' ⟨rfl,⟨nd,rfl⟩⟩;refine ⟨_,rfl,?_⟩;obtain ⟨Ao39,co39,eo39⟩:=R_slice HO387.out;subst eo39;obtain ⟨Ao40,co40,eo40⟩:=R_slice HO372.out;subst eo40)|(go_at_call 22;(with_reducible refine (laws_eqIntS.calls k _ _ t385 _ _ t370 false _ ?side1 ?side2 ?side3 ?side4 A31.out).mono ?_);(case side1=>exact cm (R_reads' HO387.out).2.2);(case side2=>exact (R_reads' HO387.out).2.1);(case side3=>exact cm (R_reads' HO372.out).2.2);(case side4=>exact (R_reads' HO372.out).2.1);rintro e w' ⟨rfl,⟨nd,rfl⟩⟩))
  go_meet
  case rel=>exact ⟨_,(true),(by first|rfl|(simp;done)|(simp [*];done)),H',⟨by first|omega|exact Nat.le_refl _⟩,⟨rm (R_mono HO369.out (fun _ hk=>⟨hk.1.1.1.1.1.1,⟨hk.1.2,⟨hk.2,⟨hk.1.1.1.2,hk.1.1.2⟩⟩⟩⟩))⟩,⟨rm (R_mono HO372.out (fun _ hk=>⟨hk.1.1.1.1.1.1,⟨hk.1.2,⟨hk.2,⟨hk.1.1.1.2,hk.1.1.2⟩⟩⟩⟩))⟩,⟨rm (R_mono HO384.out (fun _ hk=>⟨hk.1.1.1.2,⟨hk.1.1.2,⟨hk.1.1.1.1.1.1,⟨hk.1.2,hk.2⟩⟩⟩⟩))⟩,⟨rm (R_mono HO387.out (fun _ hk=>⟨hk.1.1.1.2,⟨hk.1.1.2,⟨hk.1.1.1.1.1.1,⟨hk.1.2,hk.2⟩⟩⟩⟩))⟩,⟨rm (R_mono HO377.out (fun _ hk=>⟨hk.1.1.1.2,⟨hk.1.1.2,⟨hk.1.2,⟨hk.2,hk.1.1.1.1.1.1⟩⟩⟩⟩))⟩,⟨rm (R_mono HO380.out (fun _ hk=>⟨hk.1.1.1.2,⟨hk.1.1.2,⟨hk.1.2,⟨hk.2,hk.1.1.1.1.1.1⟩⟩⟩⟩))⟩,⟨bm BK358.out⟩,⟨bm BK381.out⟩,⟨h2 HB.out GE358.out GE381.out⟩⟩
 clear HC12
 try clear c1
 try clear c2
 try clear p2
 try clear c3
 try clear c4
 try clear c4b0
 try clear c9
 try clear c11
 try clear c13
 try clear c22
 try clear c24
 try clear c30
 try clear c31
 try clear c32
 try clear hcz14_0
 try clear hcz14_1
 try clear hcz14_2
 try clear hcz16_0
 try clear hcz16_1
 try clear hcz16_2
 try clear hcz21_0
 try clear hcz21_1
 try clear hcz21_2
 try clear hcz25_0
 try clear hcz25_1
 try clear hcz25_2
 try clear hcz6_0
 try clear hcz6_1
 try clear hcz6_2
 try clear hfz14_0
 try clear hfz14_1
 try clear hfz14_2
 try clear hfz16_0
 try clear hfz16_1
 try clear hfz16_2
 try clear hfz21_0
 try clear hfz21_1
 try clear hfz21_2
 try clear hfz25_0
 try clear hfz25_1
 try clear hfz25_2
 try clear hfz6_0
 try clear hfz6_1
 try clear hfz6_2
 obtain ⟨kq,x55_11,rfl,HA,HJ11,HO_6,HO_7,HO_10,HO_11,HO_382001,HO_382002,BK358,BK381,HB⟩:=hcut
 cases kq with
 | zero=>exact absurd HA.out (by simp [laws_FnExactBeadsAt.j0])
 | succ kj11 =>
  have H:=HA.out
  clear HA
  simp only [laws_FnExactBeadsAt.j0] at H
  by_cases c43 : x55_11 = true
  ·subst c43
   have H1 : (some false) = some r:=by rw [if_pos rfl] at H;exact H
   clear H
   have H:=H1
   clear H1
   obtain rfl:=Option.some.inj H
   go_wp2
   go_ret
   exact ⟨by first|rfl|(simp [errW_none,errW_some] <;> rfl)|(simp [*,errW_none,errW_some] <;> rfl),h2 HB.out GE358.out GE381.out⟩
  replace c43:=Bool.eq_false_iff.mpr c43
  subst c43
  have H1 : ((laws_toWire.f kj11 a0_0 l0_1 l0_2).bind fun bt391=>((laws_eqWire.f kj11 t374 t375 t378 bt391.1 bt391.2.1 bt391.2.2).bind fun t398=>(if t398 = true then ((laws_markWire.f kj11 t374 t375 t378 1).bind fun bt399=>(if bt399.1 < 0 then (laws_FnExactBeadsAt.j1 kj11 a1 t367 t370 t373 t382 t385 true a0_0 l0_1 l0_2) else ((laws_eqIntS.f kj11 t382 t367).bind fun t402=>(if t402 = true then ((laws_eqIntS.f kj11 t385 t370).bind fun t403=>(if t403 = true then (laws_FnExactBeadsAt.j1 kj11 a1 t367 t370 t373 t382 t385 (t388 != t373) a0_0 l0_1 l0_2) else (laws_FnExactBeadsAt.j1 kj11 a1 t367 t370 t373 t382 t385 true a0_0 l0_1 l0_2))) else (laws_FnExactBeadsAt.j1 kj11 a1 t367 t370 t373 t382 t385 true a0_0 l0_1 l0_2))))) else (some false)))) = some r:=by rw [if_neg (show ¬ (false = true) by decide)] at H;exact H
  clear H
  have H:=H1
  clear H1
  replace H:=Option.bind_eq_some_iff.mp H
  obtain ⟨⟨t391,t392,t395⟩,A440,H⟩:=H
  replace H : ((laws_eqWire.f kj11 t374 t375 t378 t391 t392 t395).bind fun t398=>(if t398 = true then ((laws_markWire.f kj11 t374 t375 t378 1).bind fun bt399=>(if bt399.1 < 0 then (laws_FnExactBeadsAt.j1 kj11 a1 t367 t370 t373 t382 t385 true a0_0 l0_1 l0_2) else ((laws_eqIntS.f kj11 t382 t367).bind fun t402=>(if t402 = true then ((laws_eqIntS.f kj11 t385 t370).bind fun t403=>(if t403 = true then (laws_FnExactBeadsAt.j1 kj11 a1 t367 t370 t373 t382 t385 (t388 != t373) a0_0 l0_1 l0_2) else (laws_FnExactBeadsAt.j1 kj11 a1 t367 t370 t373 t382 t385 true a0_0 l0_1 l0_2))) else (laws_FnExactBeadsAt.j1 kj11 a1 t367 t370 t373 t382 t385 true a0_0 l0_1 l0_2))))) else (some false))) = some r:=H
  have A44:=Aside0.mk A440
  clear A440
  replace H:=Option.bind_eq_some_iff.mp H
  obtain ⟨t398,A450,H⟩:=H
  replace H : (if t398 = true then ((laws_markWire.f kj11 t374 t375 t378 1).bind fun bt399=>(if bt399.1 < 0 then (laws_FnExactBeadsAt.j1 kj11 a1 t367 t370 t373 t382 t385 true a0_0 l0_1 l0_2) else ((laws_eqIntS.f kj11 t382 t367).bind fun t402=>(if t402 = true then ((laws_eqIntS.f kj11 t385 t370).bind fun t403=>(if t403 = true then (laws_FnExactBeadsAt.j1 kj11 a1 t367 t370 t373 t382 t385 (t388 != t373) a0_0 l0_1 l0_2) else (laws_FnExactBeadsAt.j1 kj11 a1 t367 t370 t373 t382 t385 true a0_0 l0_1 l0_2))) else (laws_FnExactBeadsAt.j1 kj11 a1 t367 t370 t373 t382 t385 true a0_0 l0_1 l0_2))))) else (some false)) = some r:=H
  have A45:=Aside0.mk A450
  clear A450
  by_cases c46 : t398 = true
  rotate_left
  ·replace c46:=Bool.eq_false_iff.mpr c46
   subst c46
   have H1 : (some false) = some r:=by rw [if_neg (show ¬ (false = true) by decide)] at H;exact H
   clear H
   have H:=H1
   clear H1
   obtain rfl:=Option.some.inj H
   try go_wp2
   have n0_:=Aside0.mk (R_drew HO_6.out)
   have n1_:=Aside0.mk (R_drew HO_7.out)
   have n2_:=Aside0.mk (R_drew HO_10.out)
   have n3_:=Aside0.mk (R_drew HO_11.out)
   have n4_:=Aside0.mk (R_drew HO_382001.out)
   have n5_:=Aside0.mk (R_drew HO_382002.out)
   have n6_:=Aside0.mk (blk_drew BK358.out)
   have n7_:=Aside0.mk (blk_drew BK381.out)
   have n8_:=Aside0.mk (below_drew1 HB.out)
   clear HO_6
   clear HO_7
   clear HO_10
   clear HO_11
   clear HO_382001
   clear HO_382002
   clear BK358
   clear BK381
   clear HB
   have HO_6:=n0_
   have HO_7:=n1_
   have HO_10:=n2_
   have HO_11:=n3_
   have HO_382001:=n4_
   have HO_382002:=n5_
   have BK358:=n6_
   have BK381:=n7_
   have HB:=n8_
   clear n0_ n1_ n2_ n3_ n4_ n5_ n6_ n7_ n8_
   refine start_ (n:=5) (S:=fun w'=>w'.cell? ⟨gb381,0,none⟩ = some (.int .i64 t374) ∧ w'.cell? ⟨gb381,1,none⟩ = some (.slice Ao26 t375.length co26) ∧ w'.cell? ⟨gb381,2,none⟩ = some (.slice Ao27 t378.length co27) ∧ w'.cell? ⟨gb358,0,none⟩ = some (.int .i64 a0_0) ∧ w'.cell? ⟨gb358,1,none⟩ = some (.slice A0_1 l0_1.length c0_1) ∧ w'.cell? ⟨gb358,2,none⟩ = some (.slice A0_2 l0_2.length c0_2)) (ds:=[]) (lb 5 0) (by kernel_rfl) rfl rfl ⟨(blk_cell BK381.out 0).trans rfl,(blk_cell BK381.out 1).trans rfl,(blk_cell BK381.out 2).trans rfl,(blk_cell BK358.out 0).trans rfl,(blk_cell BK358.out 1).trans rfl,(blk_cell BK358.out 2).trans rfl⟩ (fun hHeld=>?_)
   generalize wc.drew = w125 at HO_6 HO_7 HO_10 HO_11 HO_382001 HO_382002 BK358 BK381 HB hHeld ⊢
   refine take_ (i:=0) (N:=some 56) (v:=?_) (a':=?_) (lb 5 1) rfl rfl (by kernel_rfl) (fun _ _ _ h=>h) (Or.inl ⟨by rfl,?_⟩) hHeld ?_ ?_
   rotate_left
   ·rintro w' ⟨s0,s1,s2,s3,s4,s5⟩
    go_simp
    with_reducible rfl
   rotate_left
   ·simp only [ap]
    rfl
   refine take_ (i:=1) (N:=some 57) (v:=?_) (a':=?_) (lb 5 3) rfl rfl (by kernel_rfl) (fun _ _ _ h=>h) (Or.inl ⟨by rfl,?_⟩) hHeld ?_ ?_
   rotate_left
   ·rintro w' ⟨s0,s1,s2,s3,s4,s5⟩
    go_simp
    with_reducible rfl
   rotate_left
   ·simp only [ap]
    rfl
   refine one_ (i:=2) (N:=some 58) (lb 5 7) rfl rfl (by kernel_rfl) (by decide) (fun K hK=>?_)
   refine goes_ Try.func13 (by kernel_rfl) rfl #[.agg #[.int .i64 a0_0,.slice A0_1 l0_1.length c0_1,.slice A0_2 l0_2.length c0_2]] (by rfl) rfl rfl (by (try simp only [List.map_toArray,List.map_cons,List.map_nil]);first|done|rfl|(simp only [List.length_drop,List.length_take];rfl)) ?_
   with_reducible refine (laws_toWire.calls kj11 a0_0 _ _ l0_1 _ _ l0_2 t391 t392 t395 _ ?side1 ?side2 ?side3 ?side4 A44.out).mono ?_
   (case side1=>exact cm (C_below HR0_1.out HB.out))
   (case side2=>exact HC0_1.out)
   (case side3=>exact cm (C_below HR0_2.out HB.out))
   (case side4=>exact HC0_2.out)
   rintro e w126 ⟨v393,v396,rfl,ho0,ho1,hb⟩
   refine ⟨_,rfl,?_⟩
   have n0_:=Aside0.mk (R_mono (R_told (R_told (R_old (rm HO_6.out) hb) (R_base ho0)) (R_base ho1)) (fun _ h_=>h_.1))
   have n1_:=Aside0.mk (R_mono (R_told (R_told (R_old (rm HO_7.out) hb) (R_base ho0)) (R_base ho1)) (fun _ h_=>h_.1))
   have n2_:=Aside0.mk (R_mono (R_told (R_told (R_old (rm HO_10.out) hb) (R_base ho0)) (R_base ho1)) (fun _ h_=>h_.1))
   have n3_:=Aside0.mk (R_mono (R_told (R_told (R_old (rm HO_11.out) hb) (R_base ho0)) (R_base ho1)) (fun _ h_=>h_.1))
   have n4_:=Aside0.mk (R_mono (R_told (R_told (R_old (rm HO_382001.out) hb) (R_base ho0)) (R_base ho1)) (fun _ h_=>h_.1))
   have n5_:=Aside0.mk (R_mono (R_told (R_told (R_old (rm HO_382002.out) hb) (R_base ho0)) (R_base ho1)) (fun _ h_=>h_.1))
   have n6_:=Aside0.mk (R_lower (R_new' (R_new' (R_new' (R_new' (R_new' (R_new' ho0 (R_lt (rm HO_6.out))) (R_lt (rm HO_7.out))) (R_lt (rm HO_10.out))) (R_lt (rm HO_11.out))) (R_lt (rm HO_382001.out))) (R_lt (rm HO_382002.out))) (below_size (h2 HB.out GE358.out GE381.out)))
   have n7_:=Aside0.mk (R_lower (R_new' (R_new' (R_new' (R_new' (R_new' (R_new' ho1 (R_lt (rm HO_6.out))) (R_lt (rm HO_7.out))) (R_lt (rm HO_10.out))) (R_lt (rm HO_11.out))) (R_lt (rm HO_382001.out))) (R_lt (rm HO_382002.out))) (below_size (h2 HB.out GE358.out GE381.out)))
   have n8_:=Aside0.mk (blk_below (g:=gb358) (o:=.cells #[.int .i64 a0_0,.slice A0_1 l0_1.length c0_1,.slice A0_2 l0_2.length c0_2] 24 (0,0)) (bm BK358.out) hb)
   have n9_:=Aside0.mk (blk_below (g:=gb381) (o:=.cells #[.int .i64 t374,.slice Ao26 t375.length co26,.slice Ao27 t378.length co27] 27 (0,0)) (bm BK381.out) hb)
   have n10_:=Aside0.mk (below_step (h2 HB.out GE358.out GE381.out) hb)
   clear HO_6
   clear HO_7
   clear HO_10
   clear HO_11
   clear HO_382001
   clear HO_382002
   clear BK358
   clear BK381
   clear HB
   have HO_6:=n0_
   have HO_7:=n1_
   have HO_10:=n2_
   have HO_11:=n3_
   have HO_382001:=n4_
   have HO_382002:=n5_
   have HO394:=n6_
   have HO397:=n7_
   have BK358:=n8_
   have BK381:=n9_
   have HB:=n10_
   clear n0_ n1_ n2_ n3_ n4_ n5_ n6_ n7_ n8_ n9_ n10_
   (try clear hb)
   (try clear hb2)
   (try clear hk)
   (try clear hi)
   (try clear ho0)
   (try clear ho1)
   obtain ⟨Ao127,co127,eo127⟩:=R_slice HO394.out
   (first|subst eo127|(injection eo127 with f1_ f2_ f3_;have f4_:=f1_.symm;have f5_:=f3_.symm;clear f1_ f2_ f3_;subst f4_;subst f5_))
   obtain ⟨Ao128,co128,eo128⟩:=R_slice HO397.out
   (first|subst eo128|(injection eo128 with f1_ f2_ f3_;have f4_:=f1_.symm;have f5_:=f3_.symm;clear f1_ f2_ f3_;subst f4_;subst f5_))
   refine hK.out _ _ ⟨(blk_cell BK381.out 0).trans rfl,(blk_cell BK381.out 1).trans rfl,(blk_cell BK381.out 2).trans rfl,(blk_cell BK358.out 0).trans rfl,(blk_cell BK358.out 1).trans rfl,(blk_cell BK358.out 2).trans rfl⟩ (fun hHeld=>?_)
   clear hK K
   refine norm_ (a':=?_) ?_ ?_
   rotate_left
   ·show Act.put _ (some 58) _ = _
    simp only [ap]
    rfl
   refine one_ (i:=3) (N:=some 59) (lb 5 15) rfl rfl (by kernel_rfl) (by decide) (fun K hK=>?_)
   refine goes_ Try.func15 (by kernel_rfl) rfl #[.agg #[.int .i64 t374,.slice Ao26 t375.length co26,.slice Ao27 t378.length co27],.agg #[.int .i64 t391,.slice Ao127 t392.length co127,.slice Ao128 t395.length co128]] (by rfl) rfl rfl (by (try simp only [List.map_toArray,List.map_cons,List.map_nil]);first|done|rfl|(simp only [List.length_drop,List.length_take];rfl)) ?_
   with_reducible refine (laws_eqWire.calls kj11 t374 _ _ t375 _ _ t378 t391 _ _ t392 _ _ t395 false _ ?side1 ?side2 ?side3 ?side4 ?side5 ?side6 ?side7 ?side8 A45.out).mono ?_
   (case side1=>exact cm (R_reads' HO_382001.out).2.2)
   (case side2=>exact (R_reads' HO_382001.out).2.1)
   (case side3=>exact cm (R_reads' HO_382002.out).2.2)
   (case side4=>exact (R_reads' HO_382002.out).2.1)
   (case side5=>exact cm (R_reads' HO394.out).2.2)
   (case side6=>exact (R_reads' HO394.out).2.1)
   (case side7=>exact cm (R_reads' HO397.out).2.2)
   (case side8=>exact (R_reads' HO397.out).2.1)
   rintro e w129 ⟨rfl,hb⟩
   refine ⟨_,rfl,?_⟩
   have n0_:=Aside0.mk (R_below (rm HO_6.out) hb)
   have n1_:=Aside0.mk (R_below (rm HO_7.out) hb)
   have n2_:=Aside0.mk (R_below (rm HO_10.out) hb)
   have n3_:=Aside0.mk (R_below (rm HO_11.out) hb)
   have n4_:=Aside0.mk (R_below (rm HO_382001.out) hb)
   have n5_:=Aside0.mk (R_below (rm HO_382002.out) hb)
   have n6_:=Aside0.mk (R_below (rm HO394.out) hb)
   have n7_:=Aside0.mk (R_below (rm HO397.out) hb)
   have n8_:=Aside0.mk (blk_below (g:=gb358) (o:=.cells #[.int .i64 a0_0,.slice A0_1 l0_1.length c0_1,.slice A0_2 l0_2.length c0_2] 24 (0,0)) (bm BK358.out) hb)
   have n9_:=Aside0.mk (blk_below (g:=gb381) (o:=.cells #[.int .i64 t374,.slice Ao26 t375.length co26,.slice Ao27 t378.length co27] 27 (0,0)) (bm BK381.out) hb)
   have n10_:=Aside0.mk (below_step (h2 HB.out GE358.out GE381.out) hb)
   clear HO_6
   clear HO_7
   clear HO_10
   clear HO_11
   clear HO_382001
   clear HO_382002
   clear HO394
   clear HO397
   clear BK358
   clear BK381
   clear HB
   have HO_6:=n0_
   have HO_7:=n1_
   have HO_10:=n2_
   have HO_11:=n3_
   have HO_382001:=n4_
   have HO_382002:=n5_
   have HO394:=n6_
   have HO397:=n7_
   have BK358:=n8_
   have BK381:=n9_
   have HB:=n10_
   clear n0_ n1_ n2_ n3_ n4_ n5_ n6_ n7_ n8_ n9_ n10_
   (try clear hb)
   (try clear hb2)
   (try clear hk)
   (try clear hi)
   refine hK.out _ _ ⟨(blk_cell BK381.out 0).trans rfl,(blk_cell BK381.out 1).trans rfl,(blk_cell BK381.out 2).trans rfl,(blk_cell BK358.out 0).trans rfl,(blk_cell BK358.out 1).trans rfl,(blk_cell BK358.out 2).trans rfl⟩ (fun hHeld=>?_)
   clear hK K
   refine norm_ (a':=?_) ?_ ?_
   rotate_left
   ·show Act.put _ (some 59) _ = _
    simp only [ap]
    rfl
   refine pure_ (i:=4) (N:=some 60) (v:=?_) (a':=?_) (lb 5 31) rfl rfl (by kernel_rfl) (fun _ _ _ h=>h) (Or.inl ⟨by rfl,?_⟩) ?_ ?_
   rotate_left
   ·intro w'
    go_simp
    with_reducible rfl
   rotate_left
   ·simp only [ap]
    rfl
   refine done_ (by kernel_rfl) ?_
   try go_wp2
   go_ret
   exact ⟨by first|rfl|(simp [errW_none,errW_some] <;> rfl)|(simp [*,errW_none,errW_some] <;> rfl),h2 HB.out GE358.out GE381.out⟩
  subst c46
  have H1 : ((laws_markWire.f kj11 t374 t375 t378 1).bind fun bt399=>(if bt399.1 < 0 then (laws_FnExactBeadsAt.j1 kj11 a1 t367 t370 t373 t382 t385 true a0_0 l0_1 l0_2) else ((laws_eqIntS.f kj11 t382 t367).bind fun t402=>(if t402 = true then ((laws_eqIntS.f kj11 t385 t370).bind fun t403=>(if t403 = true then (laws_FnExactBeadsAt.j1 kj11 a1 t367 t370 t373 t382 t385 (t388 != t373) a0_0 l0_1 l0_2) else (laws_FnExactBeadsAt.j1 kj11 a1 t367 t370 t373 t382 t385 true a0_0 l0_1 l0_2))) else (laws_FnExactBeadsAt.j1 kj11 a1 t367 t370 t373 t382 t385 true a0_0 l0_1 l0_2))))) = some r:=by rw [if_pos rfl] at H;exact H
  clear H
  have H:=H1
  clear H1
  replace H:=Option.bind_eq_some_iff.mp H
  obtain ⟨⟨t399,t400,t401⟩,A470,H⟩:=H
  replace H : (if t399 < 0 then (laws_FnExactBeadsAt.j1 kj11 a1 t367 t370 t373 t382 t385 true a0_0 l0_1 l0_2) else ((laws_eqIntS.f kj11 t382 t367).bind fun t402=>(if t402 = true then ((laws_eqIntS.f kj11 t385 t370).bind fun t403=>(if t403 = true then (laws_FnExactBeadsAt.j1 kj11 a1 t367 t370 t373 t382 t385 (t388 != t373) a0_0 l0_1 l0_2) else (laws_FnExactBeadsAt.j1 kj11 a1 t367 t370 t373 t382 t385 true a0_0 l0_1 l0_2))) else (laws_FnExactBeadsAt.j1 kj11 a1 t367 t370 t373 t382 t385 true a0_0 l0_1 l0_2)))) = some r:=H
  have A47:=Aside0.mk A470
  clear A470
  have HC48:=Aside0.mk H
  clear H
  try go_wp2
  have n0_:=Aside0.mk (R_drew HO_6.out)
  have n1_:=Aside0.mk (R_drew HO_7.out)
  have n2_:=Aside0.mk (R_drew HO_10.out)
  have n3_:=Aside0.mk (R_drew HO_11.out)
  have n4_:=Aside0.mk (R_drew HO_382001.out)
  have n5_:=Aside0.mk (R_drew HO_382002.out)
  have n6_:=Aside0.mk (blk_drew BK358.out)
  have n7_:=Aside0.mk (blk_drew BK381.out)
  have n8_:=Aside0.mk (below_drew1 HB.out)
  clear HO_6
  clear HO_7
  clear HO_10
  clear HO_11
  clear HO_382001
  clear HO_382002
  clear BK358
  clear BK381
  clear HB
  have HO_6:=n0_
  have HO_7:=n1_
  have HO_10:=n2_
  have HO_11:=n3_
  have HO_382001:=n4_
  have HO_382002:=n5_
  have BK358:=n6_
  have BK381:=n7_
  have HB:=n8_
  clear n0_ n1_ n2_ n3_ n4_ n5_ n6_ n7_ n8_
  refine start_ (n:=5) (S:=fun w'=>w'.cell? ⟨gb381,0,none⟩ = some (.int .i64 t374) ∧ w'.cell? ⟨gb381,1,none⟩ = some (.slice Ao26 t375.length co26) ∧ w'.cell? ⟨gb381,2,none⟩ = some (.slice Ao27 t378.length co27) ∧ w'.cell? ⟨gb358,0,none⟩ = some (.int .i64 a0_0) ∧ w'.cell? ⟨gb358,1,none⟩ = some (.slice A0_1 l0_1.length c0_1) ∧ w'.cell? ⟨gb358,2,none⟩ = some (.slice A0_2 l0_2.length c0_2)) (ds:=[]) (lb 5 0) (by kernel_rfl) rfl rfl ⟨(blk_cell BK381.out 0).trans rfl,(blk_cell BK381.out 1).trans rfl,(blk_cell BK381.out 2).trans rfl,(blk_cell BK358.out 0).trans rfl,(blk_cell BK358.out 1).trans rfl,(blk_cell BK358.out 2).trans rfl⟩ (fun hHeld=>?_)
  generalize wc.drew = w49 at HO_6 HO_7 HO_10 HO_11 HO_382001 HO_382002 BK358 BK381 HB hHeld ⊢
  refine take_ (i:=0) (N:=some 56) (v:=?_) (a':=?_) (lb 5 1) rfl rfl (by kernel_rfl) (fun _ _ _ h=>h) (Or.inl ⟨by rfl,?_⟩) hHeld ?_ ?_
  rotate_left
  ·rintro w' ⟨s0,s1,s2,s3,s4,s5⟩
   go_simp
   with_reducible rfl
  rotate_left
  ·simp only [ap]
   rfl
  refine take_ (i:=1) (N:=some 57) (v:=?_) (a':=?_) (lb 5 3) rfl rfl (by kernel_rfl) (fun _ _ _ h=>h) (Or.inl ⟨by rfl,?_⟩) hHeld ?_ ?_
  rotate_left
  ·rintro w' ⟨s0,s1,s2,s3,s4,s5⟩
   go_simp
   with_reducible rfl
  rotate_left
  ·simp only [ap]
   rfl
  refine one_ (i:=2) (N:=some 58) (lb 5 7) rfl rfl (by kernel_rfl) (by decide) (fun K hK=>?_)
  refine goes_ Try.func13 (by kernel_rfl) rfl #[.agg #[.int .i64 a0_0,.slice A0_1 l0_1.length c0_1,.slice A0_2 l0_2.length c0_2]] (by rfl) rfl rfl (by (try simp only [List.map_toArray,List.map_cons,List.map_nil]);first|done|rfl|(simp only [List.length_drop,List.length_take];rfl)) ?_
  with_reducible refine (laws_toWire.calls kj11 a0_0 _ _ l0_1 _ _ l0_2 t391 t392 t395 _ ?side1 ?side2 ?side3 ?side4 A44.out).mono ?_
  (case side1=>exact cm (C_below HR0_1.out HB.out))
  (case side2=>exact HC0_1.out)
  (case side3=>exact cm (C_below HR0_2.out HB.out))
  (case side4=>exact HC0_2.out)
  rintro e w50 ⟨v393,v396,rfl,ho0,ho1,hb⟩
  refine ⟨_,rfl,?_⟩
  have n0_:=Aside0.mk (R_mono (R_told (R_told (R_old (rm HO_6.out) hb) (R_base ho0)) (R_base ho1)) (fun _ h_=>h_.1))
  have n1_:=Aside0.mk (R_mono (R_told (R_told (R_old (rm HO_7.out) hb) (R_base ho0)) (R_base ho1)) (fun _ h_=>h_.1))
  have n2_:=Aside0.mk (R_mono (R_told (R_told (R_old (rm HO_10.out) hb) (R_base ho0)) (R_base ho1)) (fun _ h_=>h_.1))
  have n3_:=Aside0.mk (R_mono (R_told (R_told (R_old (rm HO_11.out) hb) (R_base ho0)) (R_base ho1)) (fun _ h_=>h_.1))
  have n4_:=Aside0.mk (R_mono (R_told (R_told (R_old (rm HO_382001.out) hb) (R_base ho0)) (R_base ho1)) (fun _ h_=>h_.1))
  have n5_:=Aside0.mk (R_mono (R_told (R_told (R_old (rm HO_382002.out) hb) (R_base ho0)) (R_base ho1)) (fun _ h_=>h_.1))
  have n6_:=Aside0.mk (R_lower (R_new' (R_new' (R_new' (R_new' (R_new' (R_new' ho0 (R_lt (rm HO_6.out))) (R_lt (rm HO_7.out))) (R_lt (rm HO_10.out))) (R_lt (rm HO_11.out))) (R_lt (rm HO_382001.out))) (R_lt (rm HO_382002.out))) (below_size (h2 HB.out GE358.out GE381.out)))
  have n7_:=Aside0.mk (R_lower (R_new' (R_new' (R_new' (R_new' (R_new' (R_new' ho1 (R_lt (rm HO_6.out))) (R_lt (rm HO_7.out))) (R_lt (rm HO_10.out))) (R_lt (rm HO_11.out))) (R_lt (rm HO_382001.out))) (R_lt (rm HO_382002.out))) (below_size (h2 HB.out GE358.out GE381.out)))
  have n8_:=Aside0.mk (blk_below (g:=gb358) (o:=.cells #[.int .i64 a0_0,.slice A0_1 l0_1.length c0_1,.slice A0_2 l0_2.length c0_2] 24 (0,0)) (bm BK358.out) hb)
  have n9_:=Aside0.mk (blk_below (g:=gb381) (o:=.cells #[.int .i64 t374,.slice Ao26 t375.length co26,.slice Ao27 t378.length co27] 27 (0,0)) (bm BK381.out) hb)
  have n10_:=Aside0.mk (below_step (h2 HB.out GE358.out GE381.out) hb)
  clear HO_6
  clear HO_7
  clear HO_10
  clear HO_11
  clear HO_382001
  clear HO_382002
  clear BK358
  clear BK381
  clear HB
  have HO_6:=n0_
  have HO_7:=n1_
  have HO_10:=n2_
  have HO_11:=n3_
  have HO_382001:=n4_
  have HO_382002:=n5_
  have HO394:=n6_
  have HO397:=n7_
  have BK358:=n8_
  have BK381:=n9_
  have HB:=n10_
  clear n0_ n1_ n2_ n3_ n4_ n5_ n6_ n7_ n8_ n9_ n10_
  (try clear hb)
  (try clear hb2)
  (try clear hk)
  (try clear hi)
  (try clear ho0)
  (try clear ho1)
  obtain ⟨Ao51,co51,eo51⟩:=R_slice HO394.out
  (first|subst eo51|(injection eo51 with f1_ f2_ f3_;have f4_:=f1_.symm;have f5_:=f3_.symm;clear f1_ f2_ f3_;subst f4_;subst f5_))
  obtain ⟨Ao52,co52,eo52⟩:=R_slice HO397.out
  (first|subst eo52|(injection eo52 with f1_ f2_ f3_;have f4_:=f1_.symm;have f5_:=f3_.symm;clear f1_ f2_ f3_;subst f4_;subst f5_))
  refine hK.out _ _ ⟨(blk_cell BK381.out 0).trans rfl,(blk_cell BK381.out 1).trans rfl,(blk_cell BK381.out 2).trans rfl,(blk_cell BK358.out 0).trans rfl,(blk_cell BK358.out 1).trans rfl,(blk_cell BK358.out 2).trans rfl⟩ (fun hHeld=>?_)
  clear hK K
  refine norm_ (a':=?_) ?_ ?_
  rotate_left
  ·show Act.put _ (some 58) _ = _
   simp only [ap]
   rfl
  refine one_ (i:=3) (N:=some 59) (lb 5 15) rfl rfl (by kernel_rfl) (by decide) (fun K hK=>?_)
  refine goes_ Try.func15 (by kernel_rfl) rfl #[.agg #[.int .i64 t374,.slice Ao26 t375.length co26,.slice Ao27 t378.length co27],.agg #[.int .i64 t391,.slice Ao51 t392.length co51,.slice Ao52 t395.length co52]] (by rfl) rfl rfl (by (try simp only [List.map_toArray,List.map_cons,List.map_nil]);first|done|rfl|(simp only [List.length_drop,List.length_take];rfl)) ?_
  with_reducible refine (laws_eqWire.calls kj11 t374 _ _ t375 _ _ t378 t391 _ _ t392 _ _ t395 true _ ?side1 ?side2 ?side3 ?side4 ?side5 ?side6 ?side7 ?side8 A45.out).mono ?_
  (case side1=>exact cm (R_reads' HO_382001.out).2.2)
  (case side2=>exact (R_reads' HO_382001.out).2.1)
  (case side3=>exact cm (R_reads' HO_382002.out).2.2)
  (case side4=>exact (R_reads' HO_382002.out).2.1)
  (case side5=>exact cm (R_reads' HO394.out).2.2)
  (case side6=>exact (R_reads' HO394.out).2.1)
  (case side7=>exact cm (R_reads' HO397.out).2.2)
  (case side8=>exact (R_reads' HO397.out).2.1)
  rintro e w53 ⟨rfl,hb⟩
  refine ⟨_,rfl,?_⟩
  have n0_:=Aside0.mk (R_below (rm HO_6.out) hb)
  have n1_:=Aside0.mk (R_below (rm HO_7.out) hb)
  have n2_:=Aside0.mk (R_below (rm HO_10.out) hb)
  have n3_:=Aside0.mk (R_below (rm HO_11.out) hb)
  have n4_:=Aside0.mk (R_below (rm HO_382001.out) hb)
  have n5_:=Aside0.mk (R_below (rm HO_382002.out) hb)
  have n6_:=Aside0.mk (R_below (rm HO394.out) hb)
  have n7_:=Aside0.mk (R_below (rm HO397.out) hb)
  have n8_:=Aside0.mk (blk_below (g:=gb358) (o:=.cells #[.int .i64 a0_0,.slice A0_1 l0_1.length c0_1,.slice A0_2 l0_2.length c0_2] 24 (0,0)) (bm BK358.out) hb)
  have n9_:=Aside0.mk (blk_below (g:=gb381) (o:=.cells #[.int .i64 t374,.slice Ao26 t375.length co26,.slice Ao27 t378.length co27] 27 (0,0)) (bm BK381.out) hb)
  have n10_:=Aside0.mk (below_step (h2 HB.out GE358.out GE381.out) hb)
  clear HO_6
  clear HO_7
  clear HO_10
  clear HO_11
  clear HO_382001
  clear HO_382002
  clear HO394
  clear HO397
  clear BK358
  clear BK381
  clear HB
  have HO_6:=n0_
  have HO_7:=n1_
  have HO_10:=n2_
  have HO_11:=n3_
  have HO_382001:=n4_
  have HO_382002:=n5_
  have HO394:=n6_
  have HO397:=n7_
  have BK358:=n8_
  have BK381:=n9_
  have HB:=n10_
  clear n0_ n1_ n2_ n3_ n4_ n5_ n6_ n7_ n8_ n9_ n10_
  (try clear hb)
  (try clear hb2)
  (try clear hk)
  (try clear hi)
  refine hK.out _ _ ⟨(blk_cell BK381.out 0).trans rfl,(blk_cell BK381.out 1).trans rfl,(blk_cell BK381.out 2).trans rfl,(blk_cell BK358.out 0).trans rfl,(blk_cell BK358.out 1).trans rfl,(blk_cell BK358.out 2).trans rfl⟩ (fun hHeld=>?_)
  clear hK K
  refine norm_ (a':=?_) ?_ ?_
  rotate_left
  ·show Act.put _ (some 59) _ = _
   simp only [ap]
   rfl
  refine pure_ (i:=4) (N:=some 60) (v:=?_) (a':=?_) (lb 5 31) rfl rfl (by kernel_rfl) (fun _ _ _ h=>h) (Or.inl ⟨by rfl,?_⟩) ?_ ?_
  rotate_left
  ·intro w'
   go_simp
   with_reducible rfl
  rotate_left
  ·simp only [ap]
   rfl
  refine done_ (by kernel_rfl) ?_
  have hnb54:=NB381_358.out
  have hnc54:=NB358_381.out
  have hcz55_0 : w53.cell? ⟨gb381,0,none⟩ = some (.int .i64 t374):=(blk_cell BK381.out 0).trans rfl
  have hcz55_1 : w53.cell? ⟨gb381,1,none⟩ = some (.slice Ao26 t375.length co26):=(blk_cell BK381.out 1).trans rfl
  have hcz55_2 : w53.cell? ⟨gb381,2,none⟩ = some (.slice Ao27 t378.length co27):=(blk_cell BK381.out 2).trans rfl
  have hfz55_0:=blk_frozen BK381.out 0
  have hfz55_1:=blk_frozen BK381.out 1
  have hfz55_2:=blk_frozen BK381.out 2
  go_upto_region 14 with (first|((with_reducible refine gate_callee (f:=23) rfl ?_);refine goesL_ (some 63) rfl rfl Try.func23 (by kernel_rfl) rfl #[.agg #[.int .i64 t374,.slice Ao26 t375.length co26,.slice Ao27 t378.length co27],.int .i64 1] rfl (by (try simp only [List.map_toArray,List.map_cons,List.map_nil]);first|done|rfl|(simp only [List.length_drop,List.length_take];rfl)) ?_;(with_reducible refine (laws_markWire.calls kj11 t374 (fun k_=>some k_ = (.slice Ao26 t375.length co26 : Value).ownBlock) (.slice Ao26 t375.length co26) t375 (fun k_=>some k_ = (.slice Ao27 t378.length co27 : Value).ownBlock) (.slice Ao27 t378.length co27) t378 1 t399 t400 t401 w _ ?side1 ?side2 ?side3 ?side4 ?side5 A47.out).mono ?_);(case side1=>repeat (first|(with_reducible first|exact HB.out|apply below_alloc|apply pw_below_drewN|apply below_drew1|refine below_set ?_ GE358.out|refine below_set ?_ GE381.out)|exact HB.out));(case side2=>exact R_tight rfl HO_382001.out);(case side3=>exact fun k_ e_=>(HO_382001.out.1 k_ e_.symm).1.1.2.2.2.2);(case side4=>exact R_tight rfl HO_382002.out);(case side5=>exact fun k_ e_=>(HO_382002.out.1 k_ e_.symm).1.1.2.2.2.2);rintro e w56 ⟨rfl,hy0,hy1,hb,hkp⟩;refine ⟨_,rfl,?_⟩;have n0_:=Aside0.mk (R_mono (ok':=fun k_=>some k_ ≠ (v371 : Value).ownBlock ∧ some k_ ≠ (v383 : Value).ownBlock ∧ some k_ ≠ (v386 : Value).ownBlock ∧ some k_ ≠ (.slice Ao26 t375.length co26 : Value).ownBlock ∧ some k_ ≠ (.slice Ao27 t378.length co27 : Value).ownBlock ∧ some k_ ≠ (.slice Ao51 t392.length co51 : Value).ownBlock ∧ some k_ ≠ (.slice Ao52 t395.length co52 : Value).ownBlock) (R_keptB (HO_6.out) hkp (fun k_ hk_ hs_=>Or.elim hs_ (fun e_=>(hk_.1.1.2.2.2.1) e_) (fun e_=>(hk_.1.1.2.2.2.2) e_))) (fun k_ hk_=>⟨hk_.1.1.1.1,hk_.1.1.1.2.1,hk_.1.1.1.2.2.1,hk_.1.1.1.2.2.2.1,hk_.1.1.1.2.2.2.2,hk_.1.1.2,hk_.1.2⟩));have n1_:=Aside0.mk (R_mono (ok':=fun k_=>some k_ ≠ (v368 : Value).ownBlock ∧ some k_ ≠ (v383 : Value).ownBlock ∧ some k_ ≠ (v386 : Value).ownBlock ∧ some k_ ≠ (.slice Ao26 t375.length co26 : Value).ownBlock ∧ some k_ ≠ (.slice Ao27 t378.length co27 : Value).ownBlock ∧ some k_ ≠ (.slice Ao51 t392.length co51 : Value).ownBlock ∧ some k_ ≠ (.slice Ao52 t395.length co52 : Value).ownBlock) (R_keptB (HO_7.out) hkp (fun k_ hk_ hs_=>Or.elim hs_ (fun e_=>(hk_.1.1.2.2.2.1) e_) (fun e_=>(hk_.1.1.2.2.2.2) e_))) (fun k_ hk_=>⟨hk_.1.1.1.1,hk_.1.1.1.2.1,hk_.1.1.1.2.2.1,hk_.1.1.1.2.2.2.1,hk_.1.1.1.2.2.2.2,hk_.1.1.2,hk_.1.2⟩));have n2_:=Aside0.mk (R_mono (ok':=fun k_=>some k_ ≠ (v368 : Value).ownBlock ∧ some k_ ≠ (v371 : Value).ownBlock ∧ some k_ ≠ (v386 : Value).ownBlock ∧ some k_ ≠ (.slice Ao26 t375.length co26 : Value).ownBlock ∧ some k_ ≠ (.slice Ao27 t378.length co27 : Value).ownBlock ∧ some k_ ≠ (.slice Ao51 t392.length co51 : Value).ownBlock ∧ some k_ ≠ (.slice Ao52 t395.length co52 : Value).ownBlock) (R_keptB (HO_10.out) hkp (fun k_ hk_ hs_=>Or.elim hs_ (fun e_=>(hk_.1.1.2.2.2.1) e_) (fun e_=>(hk_.1.1.2.2.2.2) e_))) (fun k_ hk_=>⟨hk_.1.1.1.1,hk_.1.1.1.2.1,hk_.1.1.1.2.2.1,hk_.1.1.1.2.2.2.1,hk_.1.1.1.2.2.2.2,hk_.1.1.2,hk_.1.2⟩));have n3_:=Aside0.mk (R_mono (ok':=fun k_=>some k_ ≠ (v368 : Value).ownBlock ∧ some k_ ≠ (v371 : Value).ownBlock ∧ some k_ ≠ (v383 : Value).ownBlock ∧ some k_ ≠ (.slice Ao26 t375.length co26 : Value).ownBlock ∧ some k_ ≠ (.slice Ao27 t378.length co27 : Value).ownBlock ∧ some k_ ≠ (.slice Ao51 t392.length co51 : Value).ownBlock ∧ some k_ ≠ (.slice Ao52 t395.length co52 : Value).ownBlock) (R_keptB (HO_11.out) hkp (fun k_ hk_ hs_=>Or.elim hs_ (fun e_=>(hk_.1.1.2.2.2.1) e_) (fun e_=>(hk_.1.1.2.2.2.2) e_))) (fun k_ hk_=>⟨hk_.1.1.1.1,hk_.1.1.1.2.1,hk_.1.1.1.2.2.1,hk_.1.1.1.2.2.2.1,hk_.1.1.1.2.2.2.2,hk_.1.1.2,hk_.1.2⟩));have n4_:=Aside0.mk (R_reok rfl hy0 (fun k_ e_=>HO_382001.out.1 k_ e_));have n5_:=Aside0.mk (R_reok rfl hy1 (fun k_ e_=>HO_382002.out.1 k_ e_));have n6_:=Aside0.mk (blk_kept (bm BK358.out) hkp (fun hs_=>Or.elim hs_ (fun e_=>(fun e_=>(R_ne HO_382001.out BK358.out (by decide)) e_) e_) (fun e_=>(fun e_=>(R_ne HO_382002.out BK358.out (by decide)) e_) e_)));have n7_:=Aside0.mk (blk_kept (bm BK381.out) hkp (fun hs_=>Or.elim hs_ (fun e_=>(fun e_=>(R_ne HO_382001.out BK381.out (by decide)) e_) e_) (fun e_=>(fun e_=>(R_ne HO_382002.out BK381.out (by decide)) e_) e_)));have n8_:=Aside0.mk (R_mono (ok':=fun k_=>some k_ ≠ (v368 : Value).ownBlock ∧ some k_ ≠ (v371 : Value).ownBlock ∧ some k_ ≠ (v383 : Value).ownBlock ∧ some k_ ≠ (v386 : Value).ownBlock ∧ some k_ ≠ (.slice Ao26 t375.length co26 : Value).ownBlock ∧ some k_ ≠ (.slice Ao27 t378.length co27 : Value).ownBlock ∧ some k_ ≠ (.slice Ao52 t395.length co52 : Value).ownBlock) (R_keptB (HO394.out) hkp (fun k_ hk_ hs_=>Or.elim hs_ (fun e_=>(hk_.1.2) e_) (fun e_=>(hk_.2) e_))) (fun k_ hk_=>⟨hk_.1.1.1.1.1.1.2,hk_.1.1.1.1.1.2,hk_.1.1.1.1.2,hk_.1.1.1.2,hk_.1.1.2,hk_.1.2,hk_.1.1.1.1.1.1.1⟩));have n9_:=Aside0.mk (R_mono (ok':=fun k_=>some k_ ≠ (v368 : Value).ownBlock ∧ some k_ ≠ (v371 : Value).ownBlock ∧ some k_ ≠ (v383 : Value).ownBlock ∧ some k_ ≠ (v386 : Value).ownBlock ∧ some k_ ≠ (.slice Ao26 t375.length co26 : Value).ownBlock ∧ some k_ ≠ (.slice Ao27 t378.length co27 : Value).ownBlock ∧ some k_ ≠ (.slice Ao51 t392.length co51 : Value).ownBlock) (R_keptB (HO397.out) hkp (fun k_ hk_ hs_=>Or.elim hs_ (fun e_=>(hk_.1.2) e_) (fun e_=>(hk_.2) e_))) (fun k_ hk_=>⟨hk_.1.1.1.1.1.1.2,hk_.1.1.1.1.1.2,hk_.1.1.1.1.2,hk_.1.1.1.2,hk_.1.1.2,hk_.1.2,hk_.1.1.1.1.1.1.1⟩));have n10_:=Aside0.mk (hb);clear HO_6;clear HO_7;clear HO_10;clear HO_11;clear HO_382001;clear HO_382002;clear BK358;clear BK381;clear HO394;clear HO397;clear HB;have HO_6:=n0_;have HO_7:=n1_;have HO_10:=n2_;have HO_11:=n3_;have HO_382001:=n4_;have HO_382002:=n5_;have BK358:=n6_;have BK381:=n7_;have HO394:=n8_;have HO397:=n9_;have HB:=n10_;clear n0_ n1_ n2_ n3_ n4_ n5_ n6_ n7_ n8_ n9_ n10_;(try clear hb);(try clear hkp);(try clear hy0);(try clear hy1)))
  (try simp only [ap])
  go_cut [82] (fun v82 wc=>∃ (kq : Nat) (x82_47 : Bool),v82 = .bool x82_47 ∧ Aside0 (laws_FnExactBeadsAt.j1 kq a1 t367 t370 t373 t382 t385 x82_47 a0_0 l0_1 l0_2 = some r) ∧ Aside0 (kq ≤ kj11) ∧ Aside0 (Kd.R (Kd.int .i64) 3 wc w.heap.size (fun k_=>some k_ ≠ (v371 : Value).ownBlock ∧ some k_ ≠ (v383 : Value).ownBlock ∧ some k_ ≠ (v386 : Value).ownBlock ∧ some k_ ≠ ((.slice Ao26 t375.length co26) : Value).ownBlock ∧ some k_ ≠ ((.slice Ao27 t378.length co27) : Value).ownBlock) v368 t367) ∧ Aside0 (Kd.R (Kd.int .i64) 3 wc w.heap.size (fun k_=>some k_ ≠ (v368 : Value).ownBlock ∧ some k_ ≠ (v383 : Value).ownBlock ∧ some k_ ≠ (v386 : Value).ownBlock ∧ some k_ ≠ ((.slice Ao26 t375.length co26) : Value).ownBlock ∧ some k_ ≠ ((.slice Ao27 t378.length co27) : Value).ownBlock) v371 t370) ∧ Aside0 (Kd.R (Kd.int .i64) 3 wc w.heap.size (fun k_=>some k_ ≠ (v368 : Value).ownBlock ∧ some k_ ≠ (v371 : Value).ownBlock ∧ some k_ ≠ (v386 : Value).ownBlock ∧ some k_ ≠ ((.slice Ao26 t375.length co26) : Value).ownBlock ∧ some k_ ≠ ((.slice Ao27 t378.length co27) : Value).ownBlock) v383 t382) ∧ Aside0 (Kd.R (Kd.int .i64) 3 wc w.heap.size (fun k_=>some k_ ≠ (v368 : Value).ownBlock ∧ some k_ ≠ (v371 : Value).ownBlock ∧ some k_ ≠ (v383 : Value).ownBlock ∧ some k_ ≠ ((.slice Ao26 t375.length co26) : Value).ownBlock ∧ some k_ ≠ ((.slice Ao27 t378.length co27) : Value).ownBlock) v386 t385) ∧ Aside0 (Kd.R (Kd.int .i64) 3 wc w.heap.size (fun k_=>some k_ ≠ (v368 : Value).ownBlock ∧ some k_ ≠ (v371 : Value).ownBlock ∧ some k_ ≠ (v383 : Value).ownBlock ∧ some k_ ≠ (v386 : Value).ownBlock ∧ some k_ ≠ ((.slice Ao27 t378.length co27) : Value).ownBlock) (.slice Ao26 t375.length co26) t400) ∧ Aside0 (Kd.R (Kd.int .i64) 3 wc w.heap.size (fun k_=>some k_ ≠ (v368 : Value).ownBlock ∧ some k_ ≠ (v371 : Value).ownBlock ∧ some k_ ≠ (v383 : Value).ownBlock ∧ some k_ ≠ (v386 : Value).ownBlock ∧ some k_ ≠ ((.slice Ao26 t375.length co26) : Value).ownBlock) (.slice Ao27 t378.length co27) t401) ∧ Aside0 (wc.heap[gb358]? = some (.cells #[.int .i64 a0_0,(.slice A0_1 l0_1.length c0_1),(.slice A0_2 l0_2.length c0_2)] 24 (0,0))) ∧ Aside0 (wc.heap[gb381]? = some (.cells #[.int .i64 t374,(.slice Ao26 t375.length co26),(.slice Ao27 t378.length co27)] 27 (0,0))) ∧ Aside0 (Below w.heap.size w wc))
  case first =>
   have H:=HC48.out
   clear HC48
   by_cases c57 : t399 < 0
   ·rw [if_pos c57] at H
    have c57b0 : decide (t399 < 0) = true:=decide_eq_true c57
    clear c57
    (first|rw [c57b0]|(simp only [i64_w,i32_w];rw [c57b0])|skip)
    have H':=Aside0.mk H
    clear H
    go_wp2
    go_meet
    case rel=>exact ⟨_,(true),(by first|rfl|(simp;done)|(simp [*];done)),H',⟨by have:=HJ11.out;first|omega|exact Nat.le_refl _⟩,⟨rm (R_mono HO_6.out (fun _ hk=>⟨hk.1,⟨hk.2.1,⟨hk.2.2.1,⟨hk.2.2.2.1,hk.2.2.2.2.1⟩⟩⟩⟩))⟩,⟨rm (R_mono HO_7.out (fun _ hk=>⟨hk.1,⟨hk.2.1,⟨hk.2.2.1,⟨hk.2.2.2.1,hk.2.2.2.2.1⟩⟩⟩⟩))⟩,⟨rm (R_mono HO_10.out (fun _ hk=>⟨hk.1,⟨hk.2.1,⟨hk.2.2.1,⟨hk.2.2.2.1,hk.2.2.2.2.1⟩⟩⟩⟩))⟩,⟨rm (R_mono HO_11.out (fun _ hk=>⟨hk.1,⟨hk.2.1,⟨hk.2.2.1,⟨hk.2.2.2.1,hk.2.2.2.2.1⟩⟩⟩⟩))⟩,⟨rm (R_mono HO_382001.out (fun _ hk=>⟨hk.1.1.1,⟨hk.1.1.2.1,⟨hk.1.1.2.2.1,⟨hk.1.1.2.2.2.1,hk.1.1.2.2.2.2⟩⟩⟩⟩))⟩,⟨rm (R_mono HO_382002.out (fun _ hk=>⟨hk.1.1.1,⟨hk.1.1.2.1,⟨hk.1.1.2.2.1,⟨hk.1.1.2.2.2.1,hk.1.1.2.2.2.2⟩⟩⟩⟩))⟩,⟨bm BK358.out⟩,⟨bm BK381.out⟩,⟨h2 HB.out GE358.out GE381.out⟩⟩
   rw [if_neg c57] at H
   have c57b0 : decide (t399 < 0) = false:=decide_eq_false c57
   clear c57
   (first|rw [c57b0]|(simp only [i64_w,i32_w];rw [c57b0])|skip)
   replace H:=Option.bind_eq_some_iff.mp H
   obtain ⟨t402,A580,H⟩:=H
   replace H : (if t402 = true then ((laws_eqIntS.f kj11 t385 t370).bind fun t403=>(if t403 = true then (laws_FnExactBeadsAt.j1 kj11 a1 t367 t370 t373 t382 t385 (t388 != t373) a0_0 l0_1 l0_2) else (laws_FnExactBeadsAt.j1 kj11 a1 t367 t370 t373 t382 t385 true a0_0 l0_1 l0_2))) else (laws_FnExactBeadsAt.j1 kj11 a1 t367 t370 t373 t382 t385 true a0_0 l0_1 l0_2)) = some r:=H
   have A58:=Aside0.mk A580
   clear A580
   by_cases c59 : t402 = true
   rotate_left
   ·replace c59:=Bool.eq_false_iff.mpr c59
    subst c59
    have H1 : (laws_FnExactBeadsAt.j1 kj11 a1 t367 t370 t373 t382 t385 true a0_0 l0_1 l0_2) = some r:=by rw [if_neg (show ¬ (false = true) by decide)] at H;exact H
    clear H
    have H:=H1
    clear H1
    have H':=Aside0.mk H
    clear H
    obtain ⟨Ao70,co70,eo70⟩:=R_slice HO_10.out
    subst eo70
    obtain ⟨Ao71,co71,eo71⟩:=R_slice HO_6.out
    subst eo71
    go_wp2_with (first|(go_at_call 22;(with_reducible refine (laws_eqIntS.calls kj11 _ _ t382 _ _ t367 false _ ?side1 ?side2 ?side3 ?side4 A58.out).mono ?_);(case side1=>exact cm (R_reads' HO_10.out).2.2);(case side2=>exact (R_reads' HO_10.out).2.1);(case side3=>exact cm (R_reads' HO_6.out).2.2);(case side4=>exact (R_reads' HO_6.out).2.1);rintro e w' ⟨rfl,⟨nd,rfl⟩⟩))
    go_meet
    case rel=>exact ⟨_,(true),(by first|rfl|(simp;done)|(simp [*];done)),H',⟨by have:=HJ11.out;first|omega|exact Nat.le_refl _⟩,⟨rm (R_mono HO_6.out (fun _ hk=>⟨hk.1,⟨hk.2.1,⟨hk.2.2.1,⟨hk.2.2.2.1,hk.2.2.2.2.1⟩⟩⟩⟩))⟩,⟨rm (R_mono HO_7.out (fun _ hk=>⟨hk.1,⟨hk.2.1,⟨hk.2.2.1,⟨hk.2.2.2.1,hk.2.2.2.2.1⟩⟩⟩⟩))⟩,⟨rm (R_mono HO_10.out (fun _ hk=>⟨hk.1,⟨hk.2.1,⟨hk.2.2.1,⟨hk.2.2.2.1,hk.2.2.2.2.1⟩⟩⟩⟩))⟩,⟨rm (R_mono HO_11.out (fun _ hk=>⟨hk.1,⟨hk.2.1,⟨hk.2.2.1,⟨hk.2.2.2.1,hk.2.2.2.2.1⟩⟩⟩⟩))⟩,⟨rm (R_mono HO_382001.out (fun _ hk=>⟨hk.1.1.1,⟨hk.1.1.2.1,⟨hk.1.1.2.2.1,⟨hk.1.1.2.2.2.1,hk.1.1.2.2.2.2⟩⟩⟩⟩))⟩,⟨rm (R_mono HO_382002.out (fun _ hk=>⟨hk.1.1.1,⟨hk.1.1.2.1,⟨hk.1.1.2.2.1,⟨hk.1.1.2.2.2.1,hk.1.1.2.2.2.2⟩⟩⟩⟩))⟩,⟨bm BK358.out⟩,⟨bm BK381.out⟩,⟨h2 HB.out GE358.out GE381.out⟩⟩
   subst c59
   have H1 : ((laws_eqIntS.f kj11 t385 t370).bind fun t403=>(if t403 = true then (laws_FnExactBeadsAt.j1 kj11 a1 t367 t370 t373 t382 t385 (t388 != t373) a0_0 l0_1 l0_2) else (laws_FnExactBeadsAt.j1 kj11 a1 t367 t370 t373 t382 t385 true a0_0 l0_1 l0_2))) = some r:=by rw [if_pos rfl] at H;exact H
   clear H
   have H:=H1
   clear H1
   replace H:=Option.bind_eq_some_iff.mp H
   obtain ⟨t403,A600,H⟩:=H
   replace H : (if t403 = true then (laws_FnExactBeadsAt.j1 kj11 a1 t367 t370 t373 t382 t385 (t388 != t373) a0_0 l0_1 l0_2) else (laws_FnExactBeadsAt.j1 kj11 a1 t367 t370 t373 t382 t385 true a0_0 l0_1 l0_2)) = some r:=H
   have A60:=Aside0.mk A600
   clear A600
   by_cases c61 : t403 = true
   ·subst c61
    have H1 : (laws_FnExactBeadsAt.j1 kj11 a1 t367 t370 t373 t382 t385 (t388 != t373) a0_0 l0_1 l0_2) = some r:=by rw [if_pos rfl] at H;exact H
    clear H
    have H:=H1
    clear H1
    have H':=Aside0.mk H
    clear H
    obtain ⟨Ao62,co62,eo62⟩:=R_slice HO_10.out
    subst eo62
    obtain ⟨Ao63,co63,eo63⟩:=R_slice HO_6.out
    subst eo63
    go_wp2_with (first|(go_at_call 22;(with_reducible refine (laws_eqIntS.calls kj11 _ _ t382 _ _ t367 true _ ?side1 ?side2 ?side3 ?side4 A58.out).mono ?_);(case side1=>exact cm (R_reads' HO_10.out).2.2);(case side2=>exact (R_reads' HO_10.out).2.1);(case side3=>exact cm (R_reads' HO_6.out).2.2);(case side4=>exact (R_reads' HO_6.out).2.1);rintro e w' ⟨rfl,⟨nd,rfl⟩⟩;obtain ⟨Ao64,co64,eo64⟩:=R_slice HO_11.out;subst eo64;obtain ⟨Ao65,co65,eo65⟩:=R_slice HO_7.out;subst eo65)|(go_at_call 22;(with_reducible refine (laws_eqIntS.calls kj11 _ _ t385 _ _ t370 true _ ?side1 ?side2 ?side3 ?side4 A60.out).mono ?_);(case side1=>exact cm (R_reads' HO_11.out).2.2);(case side2=>exact (R_reads' HO_11.out).2.1);(case side3=>exact cm (R_reads' HO_7.out).2.2);(case side4=>exact (R_reads' HO_7.out).2.1);rintro e w' ⟨rfl,⟨nd,rfl⟩⟩))
    go_meet
    case rel=>exact ⟨_,((t388 != t373)),(by first|rfl|(simp;done)|(simp [*];done)),H',⟨by have:=HJ11.out;first|omega|exact Nat.le_refl _⟩,⟨rm (R_mono HO_6.out (fun _ hk=>⟨hk.1,⟨hk.2.1,⟨hk.2.2.1,⟨hk.2.2.2.1,hk.2.2.2.2.1⟩⟩⟩⟩))⟩,⟨rm (R_mono HO_7.out (fun _ hk=>⟨hk.1,⟨hk.2.1,⟨hk.2.2.1,⟨hk.2.2.2.1,hk.2.2.2.2.1⟩⟩⟩⟩))⟩,⟨rm (R_mono HO_10.out (fun _ hk=>⟨hk.1,⟨hk.2.1,⟨hk.2.2.1,⟨hk.2.2.2.1,hk.2.2.2.2.1⟩⟩⟩⟩))⟩,⟨rm (R_mono HO_11.out (fun _ hk=>⟨hk.1,⟨hk.2.1,⟨hk.2.2.1,⟨hk.2.2.2.1,hk.2.2.2.2.1⟩⟩⟩⟩))⟩,⟨rm (R_mono HO_382001.out (fun _ hk=>⟨hk.1.1.1,⟨hk.1.1.2.1,⟨hk.1.1.2.2.1,⟨hk.1.1.2.2.2.1,hk.1.1.2.2.2.2⟩⟩⟩⟩))⟩,⟨rm (R_mono HO_382002.out (fun _ hk=>⟨hk.1.1.1,⟨hk.1.1.2.1,⟨hk.1.1.2.2.1,⟨hk.1.1.2.2.2.1,hk.1.1.2.2.2.2⟩⟩⟩⟩))⟩,⟨bm BK358.out⟩,⟨bm BK381.out⟩,⟨h2 HB.out GE358.out GE381.out⟩⟩
   replace c61:=Bool.eq_false_iff.mpr c61
   subst c61
   have H1 : (laws_FnExactBeadsAt.j1 kj11 a1 t367 t370 t373 t382 t385 true a0_0 l0_1 l0_2) = some r:=by rw [if_neg (show ¬ (false = true) by decide)] at H;exact H
   clear H
   have H:=H1
   clear H1
   have H':=Aside0.mk H
   clear H
   obtain ⟨Ao66,co66,eo66⟩:=R_slice HO_10.out
   subst eo66
   obtain ⟨Ao67,co67,eo67⟩:=R_slice HO_6.out
   subst eo67
   go_wp2_with (first|(go_at_call 22;(with_reducible refine (laws_eqIntS.calls kj11 _ _ t382 _ _ t367 true _ ?side1 ?side2 ?side3 ?side4 A58.out).mono ?_);(case side1=>exact cm (R_reads' HO_10.out).2.2);(case side2=>exact (R_reads' HO_10.out).2.1);(case side3=>exact cm (R_reads' HO_6.out).2.2);(case side4=>exact (R_reads' HO_6.out).2.1);rintro e w' ⟨rfl,⟨nd,rfl⟩⟩;obtain ⟨Ao68,co68,eo68⟩:=R_slice HO_11.out;subst eo68;obtain ⟨Ao69,co69,eo69⟩:=R_slice HO_7.out;subst eo69)|(go_at_call 22;(with_reducible refine (laws_eqIntS.calls kj11 _ _ t385 _ _ t370 false _ ?side1 ?side2 ?side3 ?side4 A60.out).mono ?_);(case side1=>exact cm (R_reads' HO_11.out).2.2);(case side2=>exact (R_reads' HO_11.out).2.1);(case side3=>exact cm (R_reads' HO_7.out).2.2);(case side4=>exact (R_reads' HO_7.out).2.1);rintro e w' ⟨rfl,⟨nd,rfl⟩⟩))
   go_meet
   case rel=>exact ⟨_,(true),(by first|rfl|(simp;done)|(simp [*];done)),H',⟨by have:=HJ11.out;first|omega|exact Nat.le_refl _⟩,⟨rm (R_mono HO_6.out (fun _ hk=>⟨hk.1,⟨hk.2.1,⟨hk.2.2.1,⟨hk.2.2.2.1,hk.2.2.2.2.1⟩⟩⟩⟩))⟩,⟨rm (R_mono HO_7.out (fun _ hk=>⟨hk.1,⟨hk.2.1,⟨hk.2.2.1,⟨hk.2.2.2.1,hk.2.2.2.2.1⟩⟩⟩⟩))⟩,⟨rm (R_mono HO_10.out (fun _ hk=>⟨hk.1,⟨hk.2.1,⟨hk.2.2.1,⟨hk.2.2.2.1,hk.2.2.2.2.1⟩⟩⟩⟩))⟩,⟨rm (R_mono HO_11.out (fun _ hk=>⟨hk.1,⟨hk.2.1,⟨hk.2.2.1,⟨hk.2.2.2.1,hk.2.2.2.2.1⟩⟩⟩⟩))⟩,⟨rm (R_mono HO_382001.out (fun _ hk=>⟨hk.1.1.1,⟨hk.1.1.2.1,⟨hk.1.1.2.2.1,⟨hk.1.1.2.2.2.1,hk.1.1.2.2.2.2⟩⟩⟩⟩))⟩,⟨rm (R_mono HO_382002.out (fun _ hk=>⟨hk.1.1.1,⟨hk.1.1.2.1,⟨hk.1.1.2.2.1,⟨hk.1.1.2.2.2.1,hk.1.1.2.2.2.2⟩⟩⟩⟩))⟩,⟨bm BK358.out⟩,⟨bm BK381.out⟩,⟨h2 HB.out GE358.out GE381.out⟩⟩
  clear HC48
  try clear c1
  try clear c2
  try clear p2
  try clear c3
  try clear c4
  try clear c4b0
  try clear c5
  try clear c6
  try clear c9
  try clear c11
  try clear c13
  try clear c15
  try clear c22
  try clear c23
  try clear c24
  try clear c30
  try clear c31
  try clear c32
  try clear c43
  try clear c46
  try clear c54
  try clear c57
  try clear c57b0
  try clear c59
  try clear c61
  try clear hcz14_0
  try clear hcz14_1
  try clear hcz14_2
  try clear hcz16_0
  try clear hcz16_1
  try clear hcz16_2
  try clear hcz21_0
  try clear hcz21_1
  try clear hcz21_2
  try clear hcz25_0
  try clear hcz25_1
  try clear hcz25_2
  try clear hcz55_0
  try clear hcz55_1
  try clear hcz55_2
  try clear hcz6_0
  try clear hcz6_1
  try clear hcz6_2
  try clear hfz14_0
  try clear hfz14_1
  try clear hfz14_2
  try clear hfz16_0
  try clear hfz16_1
  try clear hfz16_2
  try clear hfz21_0
  try clear hfz21_1
  try clear hfz21_2
  try clear hfz25_0
  try clear hfz25_1
  try clear hfz25_2
  try clear hfz55_0
  try clear hfz55_1
  try clear hfz55_2
  try clear hfz6_0
  try clear hfz6_1
  try clear hfz6_2
  try clear p2
  obtain ⟨kq,x82_47,rfl,HA,HJ47,HO_6,HO_7,HO_10,HO_11,HO_382001,HO_382002,BK358,BK381,HB⟩:=hcut
  have hl382001_47:=(R_reads' HO_382001.out).1
  rw [hl382001_47] at HO_382001
  (try simp only [hl382001_47])
  (try simp only [hl382001_47] at BK358)
  (try simp only [hl382001_47] at BK381)
  (try simp only [hl382001_47] at HO_6)
  (try simp only [hl382001_47] at HO_7)
  (try simp only [hl382001_47] at HO_10)
  (try simp only [hl382001_47] at HO_11)
  (try simp only [hl382001_47] at HO_382002)
  have hl382002_47:=(R_reads' HO_382002.out).1
  rw [hl382002_47] at HO_382002
  (try simp only [hl382002_47])
  (try simp only [hl382002_47] at BK358)
  (try simp only [hl382002_47] at BK381)
  (try simp only [hl382002_47] at HO_6)
  (try simp only [hl382002_47] at HO_7)
  (try simp only [hl382002_47] at HO_10)
  (try simp only [hl382002_47] at HO_11)
  (try simp only [hl382002_47] at HO_382001)
  cases kq with
  | zero=>exact absurd HA.out (by simp [laws_FnExactBeadsAt.j1])
  | succ kj47 =>
   have H:=HA.out
   clear HA
   simp only [laws_FnExactBeadsAt.j1] at H
   by_cases c72 : x82_47 = true
   ·subst c72
    have H1 : (some false) = some r:=by rw [if_pos rfl] at H;exact H
    clear H
    have H:=H1
    clear H1
    obtain rfl:=Option.some.inj H
    go_wp2
    go_ret
    exact ⟨by first|rfl|(simp [errW_none,errW_some] <;> rfl)|(simp [*,errW_none,errW_some] <;> rfl),h2 HB.out GE358.out GE381.out⟩
   replace c72:=Bool.eq_false_iff.mpr c72
   subst c72
   have H1 : ((laws_markIntS.f kj47 t382 1).bind fun bt404=>((laws_markIntS.f kj47 t385 bt404.1).bind fun bt406=>((laws_heldIntS.f kj47 bt404.2 1).bind fun t408=>(if t408 < 0 then (some false) else ((laws_heldIntS.f kj47 bt406.2 t408).bind fun t409=>(if t409 < 0 then (some false) else (if t409 = bt406.1 then ((laws_toWire.f kj47 a0_0 l0_1 l0_2).bind fun bt410=>((impl_BeadsAt.f kj47 bt410.1 bt410.2.1 bt410.2.2 a1).bind fun bt417=>((laws_eqIntS.f kj47 bt417.1 t367).bind fun t424=>(if t424 = true then ((laws_eqIntS.f kj47 bt417.2.1 t370).bind fun t425=>(if t425 = true then (laws_FnExactBeadsAt.j2 kj47 bt404.2 bt406.2 bt406.1 (bt417.2.2 != t373)) else (laws_FnExactBeadsAt.j2 kj47 bt404.2 bt406.2 bt406.1 true))) else (laws_FnExactBeadsAt.j2 kj47 bt404.2 bt406.2 bt406.1 true))))) else (some false)))))))) = some r:=by rw [if_neg (show ¬ (false = true) by decide)] at H;exact H
   clear H
   have H:=H1
   clear H1
   replace H:=Option.bind_eq_some_iff.mp H
   obtain ⟨⟨t404,t405⟩,A730,H⟩:=H
   replace H : ((laws_markIntS.f kj47 t385 t404).bind fun bt406=>((laws_heldIntS.f kj47 t405 1).bind fun t408=>(if t408 < 0 then (some false) else ((laws_heldIntS.f kj47 bt406.2 t408).bind fun t409=>(if t409 < 0 then (some false) else (if t409 = bt406.1 then ((laws_toWire.f kj47 a0_0 l0_1 l0_2).bind fun bt410=>((impl_BeadsAt.f kj47 bt410.1 bt410.2.1 bt410.2.2 a1).bind fun bt417=>((laws_eqIntS.f kj47 bt417.1 t367).bind fun t424=>(if t424 = true then ((laws_eqIntS.f kj47 bt417.2.1 t370).bind fun t425=>(if t425 = true then (laws_FnExactBeadsAt.j2 kj47 t405 bt406.2 bt406.1 (bt417.2.2 != t373)) else (laws_FnExactBeadsAt.j2 kj47 t405 bt406.2 bt406.1 true))) else (laws_FnExactBeadsAt.j2 kj47 t405 bt406.2 bt406.1 true))))) else (some false))))))) = some r:=H
   have A73:=Aside0.mk A730
   clear A730
   replace H:=Option.bind_eq_some_iff.mp H
   obtain ⟨⟨t406,t407⟩,A740,H⟩:=H
   replace H : ((laws_heldIntS.f kj47 t405 1).bind fun t408=>(if t408 < 0 then (some false) else ((laws_heldIntS.f kj47 t407 t408).bind fun t409=>(if t409 < 0 then (some false) else (if t409 = t406 then ((laws_toWire.f kj47 a0_0 l0_1 l0_2).bind fun bt410=>((impl_BeadsAt.f kj47 bt410.1 bt410.2.1 bt410.2.2 a1).bind fun bt417=>((laws_eqIntS.f kj47 bt417.1 t367).bind fun t424=>(if t424 = true then ((laws_eqIntS.f kj47 bt417.2.1 t370).bind fun t425=>(if t425 = true then (laws_FnExactBeadsAt.j2 kj47 t405 t407 t406 (bt417.2.2 != t373)) else (laws_FnExactBeadsAt.j2 kj47 t405 t407 t406 true))) else (laws_FnExactBeadsAt.j2 kj47 t405 t407 t406 true))))) else (some false)))))) = some r:=H
   have A74:=Aside0.mk A740
   clear A740
   replace H:=Option.bind_eq_some_iff.mp H
   obtain ⟨t408,A750,H⟩:=H
   replace H : (if t408 < 0 then (some false) else ((laws_heldIntS.f kj47 t407 t408).bind fun t409=>(if t409 < 0 then (some false) else (if t409 = t406 then ((laws_toWire.f kj47 a0_0 l0_1 l0_2).bind fun bt410=>((impl_BeadsAt.f kj47 bt410.1 bt410.2.1 bt410.2.2 a1).bind fun bt417=>((laws_eqIntS.f kj47 bt417.1 t367).bind fun t424=>(if t424 = true then ((laws_eqIntS.f kj47 bt417.2.1 t370).bind fun t425=>(if t425 = true then (laws_FnExactBeadsAt.j2 kj47 t405 t407 t406 (bt417.2.2 != t373)) else (laws_FnExactBeadsAt.j2 kj47 t405 t407 t406 true))) else (laws_FnExactBeadsAt.j2 kj47 t405 t407 t406 true))))) else (some false))))) = some r:=H
   have A75:=Aside0.mk A750
   clear A750
   by_cases c76 : t408 < 0
   ·rw [if_pos c76] at H
    have c76b0 : decide (t408 < 0) = true:=decide_eq_true c76
    clear c76
    obtain rfl:=Option.some.inj H
    obtain ⟨Ao77,co77,eo77⟩:=R_slice HO_10.out
    subst eo77
    go_wp2_with (first|((with_reducible refine gate_callee (f:=24) rfl ?_);refine goesL_ (some 85) rfl rfl Try.func24 (by kernel_rfl) rfl #[.slice Ao77 t382.length co77,.int .i64 1] rfl (by (try simp only [List.map_toArray,List.map_cons,List.map_nil]);first|done|rfl|(simp only [List.length_drop,List.length_take];rfl)) ?_;(with_reducible refine (laws_markIntS.calls kj47 (fun k_=>some k_ = (.slice Ao77 t382.length co77 : Value).ownBlock) (.slice Ao77 t382.length co77) t382 1 t404 t405 w _ ?side1 ?side2 A73.out).mono ?_);(case side1=>repeat (first|(with_reducible first|exact HB.out|apply below_alloc|apply pw_below_drewN|apply below_drew1|refine below_set ?_ GE358.out|refine below_set ?_ GE381.out)|exact HB.out));(case side2=>exact R_tight rfl HO_10.out);rintro e w78 ⟨rfl,hy0,hb,hkp⟩;refine ⟨_,rfl,?_⟩;have n0_:=Aside0.mk (R_mono (ok':=fun k_=>some k_ ≠ (v371 : Value).ownBlock ∧ some k_ ≠ (.slice Ao77 t382.length co77 : Value).ownBlock ∧ some k_ ≠ (v386 : Value).ownBlock ∧ some k_ ≠ (.slice Ao26 t400.length co26 : Value).ownBlock ∧ some k_ ≠ (.slice Ao27 t401.length co27 : Value).ownBlock) (R_keptB (HO_6.out) hkp (fun k_ hk_ hs_=>(hk_.2.1) hs_)) (fun k_ hk_=>⟨hk_.1.1,hk_.1.2.1,hk_.1.2.2.1,hk_.1.2.2.2.1,hk_.1.2.2.2.2⟩));have n1_:=Aside0.mk (R_mono (ok':=fun k_=>some k_ ≠ (v368 : Value).ownBlock ∧ some k_ ≠ (.slice Ao77 t382.length co77 : Value).ownBlock ∧ some k_ ≠ (v386 : Value).ownBlock ∧ some k_ ≠ (.slice Ao26 t400.length co26 : Value).ownBlock ∧ some k_ ≠ (.slice Ao27 t401.length co27 : Value).ownBlock) (R_keptB (HO_7.out) hkp (fun k_ hk_ hs_=>(hk_.2.1) hs_)) (fun k_ hk_=>⟨hk_.1.1,hk_.1.2.1,hk_.1.2.2.1,hk_.1.2.2.2.1,hk_.1.2.2.2.2⟩));have n2_:=Aside0.mk (R_reok rfl hy0 (fun k_ e_=>HO_10.out.1 k_ e_));have n3_:=Aside0.mk (R_mono (ok':=fun k_=>some k_ ≠ (v368 : Value).ownBlock ∧ some k_ ≠ (v371 : Value).ownBlock ∧ some k_ ≠ (.slice Ao77 t382.length co77 : Value).ownBlock ∧ some k_ ≠ (.slice Ao26 t400.length co26 : Value).ownBlock ∧ some k_ ≠ (.slice Ao27 t401.length co27 : Value).ownBlock) (R_keptB (HO_11.out) hkp (fun k_ hk_ hs_=>(hk_.2.2.1) hs_)) (fun k_ hk_=>⟨hk_.1.1,hk_.1.2.1,hk_.1.2.2.1,hk_.1.2.2.2.1,hk_.1.2.2.2.2⟩));have n4_:=Aside0.mk (R_mono (ok':=fun k_=>some k_ ≠ (v368 : Value).ownBlock ∧ some k_ ≠ (v371 : Value).ownBlock ∧ some k_ ≠ (.slice Ao77 t382.length co77 : Value).ownBlock ∧ some k_ ≠ (v386 : Value).ownBlock ∧ some k_ ≠ (.slice Ao27 t401.length co27 : Value).ownBlock) (R_keptB (HO_382001.out) hkp (fun k_ hk_ hs_=>(hk_.2.2.1) hs_)) (fun k_ hk_=>⟨hk_.1.1,hk_.1.2.1,hk_.1.2.2.1,hk_.1.2.2.2.1,hk_.1.2.2.2.2⟩));have n5_:=Aside0.mk (R_mono (ok':=fun k_=>some k_ ≠ (v368 : Value).ownBlock ∧ some k_ ≠ (v371 : Value).ownBlock ∧ some k_ ≠ (.slice Ao77 t382.length co77 : Value).ownBlock ∧ some k_ ≠ (v386 : Value).ownBlock ∧ some k_ ≠ (.slice Ao26 t400.length co26 : Value).ownBlock) (R_keptB (HO_382002.out) hkp (fun k_ hk_ hs_=>(hk_.2.2.1) hs_)) (fun k_ hk_=>⟨hk_.1.1,hk_.1.2.1,hk_.1.2.2.1,hk_.1.2.2.2.1,hk_.1.2.2.2.2⟩));have n6_:=Aside0.mk (blk_kept (bm BK358.out) hkp (fun hs_=>(fun e_=>(R_ne HO_10.out BK358.out (by decide)) e_) hs_));have n7_:=Aside0.mk (blk_kept (bm BK381.out) hkp (fun hs_=>(fun e_=>(R_ne HO_10.out BK381.out (by decide)) e_) hs_));have n8_:=Aside0.mk (hb);clear HO_6;clear HO_7;clear HO_10;clear HO_11;clear HO_382001;clear HO_382002;clear BK358;clear BK381;clear HB;have HO_6:=n0_;have HO_7:=n1_;have HO_10:=n2_;have HO_11:=n3_;have HO_382001:=n4_;have HO_382002:=n5_;have BK358:=n6_;have BK381:=n7_;have HB:=n8_;clear n0_ n1_ n2_ n3_ n4_ n5_ n6_ n7_ n8_;(try clear hb);(try clear hkp);(try clear hy0);obtain ⟨Ao79,co79,eo79⟩:=R_slice HO_11.out;subst eo79)|((with_reducible refine gate_callee (f:=24) rfl ?_);refine goesL_ (some 88) rfl rfl Try.func24 (by kernel_rfl) rfl #[.slice Ao79 t385.length co79,.int .i64 t404] rfl (by (try simp only [List.map_toArray,List.map_cons,List.map_nil]);first|done|rfl|(simp only [List.length_drop,List.length_take];rfl)) ?_;(with_reducible refine (laws_markIntS.calls kj47 (fun k_=>some k_ = (.slice Ao79 t385.length co79 : Value).ownBlock) (.slice Ao79 t385.length co79) t385 t404 t406 t407 w _ ?side1 ?side2 A74.out).mono ?_);(case side1=>repeat (first|(with_reducible first|exact HB.out|apply below_alloc|apply pw_below_drewN|apply below_drew1|refine below_set ?_ GE358.out|refine below_set ?_ GE381.out)|exact HB.out));(case side2=>exact R_tight rfl HO_11.out);rintro e w80 ⟨rfl,hy0,hb,hkp⟩;refine ⟨_,rfl,?_⟩;have n0_:=Aside0.mk (R_mono (ok':=fun k_=>some k_ ≠ (v371 : Value).ownBlock ∧ some k_ ≠ (.slice Ao77 t382.length co77 : Value).ownBlock ∧ some k_ ≠ (.slice Ao79 t385.length co79 : Value).ownBlock ∧ some k_ ≠ (.slice Ao26 t400.length co26 : Value).ownBlock ∧ some k_ ≠ (.slice Ao27 t401.length co27 : Value).ownBlock) (R_keptB (HO_6.out) hkp (fun k_ hk_ hs_=>(hk_.2.2.1) hs_)) (fun k_ hk_=>⟨hk_.1.1,hk_.1.2.1,hk_.1.2.2.1,hk_.1.2.2.2.1,hk_.1.2.2.2.2⟩));have n1_:=Aside0.mk (R_mono (ok':=fun k_=>some k_ ≠ (v368 : Value).ownBlock ∧ some k_ ≠ (.slice Ao77 t382.length co77 : Value).ownBlock ∧ some k_ ≠ (.slice Ao79 t385.length co79 : Value).ownBlock ∧ some k_ ≠ (.slice Ao26 t400.length co26 : Value).ownBlock ∧ some k_ ≠ (.slice Ao27 t401.length co27 : Value).ownBlock) (R_keptB (HO_7.out) hkp (fun k_ hk_ hs_=>(hk_.2.2.1) hs_)) (fun k_ hk_=>⟨hk_.1.1,hk_.1.2.1,hk_.1.2.2.1,hk_.1.2.2.2.1,hk_.1.2.2.2.2⟩));have n2_:=Aside0.mk (R_mono (ok':=fun k_=>some k_ ≠ (v368 : Value).ownBlock ∧ some k_ ≠ (v371 : Value).ownBlock ∧ some k_ ≠ (.slice Ao79 t385.length co79 : Value).ownBlock ∧ some k_ ≠ (.slice Ao26 t400.length co26 : Value).ownBlock ∧ some k_ ≠ (.slice Ao27 t401.length co27 : Value).ownBlock) (R_keptB (HO_10.out) hkp (fun k_ hk_ hs_=>(hk_.2.2.1) hs_)) (fun k_ hk_=>⟨hk_.1.1,hk_.1.2.1,hk_.1.2.2.1,hk_.1.2.2.2.1,hk_.1.2.2.2.2⟩));have n3_:=Aside0.mk (R_reok rfl hy0 (fun k_ e_=>HO_11.out.1 k_ e_));have n4_:=Aside0.mk (R_mono (ok':=fun k_=>some k_ ≠ (v368 : Value).ownBlock ∧ some k_ ≠ (v371 : Value).ownBlock ∧ some k_ ≠ (.slice Ao77 t382.length co77 : Value).ownBlock ∧ some k_ ≠ (.slice Ao79 t385.length co79 : Value).ownBlock ∧ some k_ ≠ (.slice Ao27 t401.length co27 : Value).ownBlock) (R_keptB (HO_382001.out) hkp (fun k_ hk_ hs_=>(hk_.2.2.2.1) hs_)) (fun k_ hk_=>⟨hk_.1.1,hk_.1.2.1,hk_.1.2.2.1,hk_.1.2.2.2.1,hk_.1.2.2.2.2⟩));have n5_:=Aside0.mk (R_mono (ok':=fun k_=>some k_ ≠ (v368 : Value).ownBlock ∧ some k_ ≠ (v371 : Value).ownBlock ∧ some k_ ≠ (.slice Ao77 t382.length co77 : Value).ownBlock ∧ some k_ ≠ (.slice Ao79 t385.length co79 : Value).ownBlock ∧ some k_ ≠ (.slice Ao26 t400.length co26 : Value).ownBlock) (R_keptB (HO_382002.out) hkp (fun k_ hk_ hs_=>(hk_.2.2.2.1) hs_)) (fun k_ hk_=>⟨hk_.1.1,hk_.1.2.1,hk_.1.2.2.1,hk_.1.2.2.2.1,hk_.1.2.2.2.2⟩));have n6_:=Aside0.mk (blk_kept (bm BK358.out) hkp (fun hs_=>(fun e_=>(R_ne HO_11.out BK358.out (by decide)) e_) hs_));have n7_:=Aside0.mk (blk_kept (bm BK381.out) hkp (fun hs_=>(fun e_=>(R_ne HO_11.out BK381.out (by decide)) e_) hs_));have n8_:=Aside0.mk (hb);clear HO_6;clear HO_7;clear HO_10;clear HO_11;clear HO_382001;clear HO_382002;clear BK358;clear BK381;clear HB;have HO_6:=n0_;have HO_7:=n1_;have HO_10:=n2_;have HO_11:=n3_;have HO_382001:=n4_;have HO_382002:=n5_;have BK358:=n6_;have BK381:=n7_;have HB:=n8_;clear n0_ n1_ n2_ n3_ n4_ n5_ n6_ n7_ n8_;(try clear hb);(try clear hkp);(try clear hy0))|((with_reducible refine gate_callee (f:=25) rfl ?_);refine goesL_ (some 91) rfl rfl Try.func25 (by kernel_rfl) rfl #[.slice Ao77 t405.length co77,.int .i64 1] rfl (by (try simp only [List.map_toArray,List.map_cons,List.map_nil]);first|done|(rw [show t405.length = t382.length from (R_reads' HO_10.out).1.symm] <;> rfl)|rfl|(simp only [List.length_drop,List.length_take];rfl)) ?_;(with_reducible refine (laws_heldIntS.calls kj47 _ _ t405 1 t408 _ ?side1 ?side2 A75.out).mono ?_);(case side1=>exact cm (R_reads' HO_10.out).2.2);(case side2=>rw [show t405.length = t382.length from (R_reads' HO_10.out).1.symm];exact (R_reads' HO_10.out).2.1);rintro e w' ⟨rfl,⟨nd,rfl⟩⟩;refine ⟨_,rfl,?_⟩))
    go_ret
    exact ⟨by first|rfl|(simp [errW_none,errW_some] <;> rfl)|(simp [*,errW_none,errW_some] <;> rfl),h2 HB.out GE358.out GE381.out⟩
   rw [if_neg c76] at H
   have c76b0 : decide (t408 < 0) = false:=decide_eq_false c76
   clear c76
   replace H:=Option.bind_eq_some_iff.mp H
   obtain ⟨t409,A810,H⟩:=H
   replace H : (if t409 < 0 then (some false) else (if t409 = t406 then ((laws_toWire.f kj47 a0_0 l0_1 l0_2).bind fun bt410=>((impl_BeadsAt.f kj47 bt410.1 bt410.2.1 bt410.2.2 a1).bind fun bt417=>((laws_eqIntS.f kj47 bt417.1 t367).bind fun t424=>(if t424 = true then ((laws_eqIntS.f kj47 bt417.2.1 t370).bind fun t425=>(if t425 = true then (laws_FnExactBeadsAt.j2 kj47 t405 t407 t406 (bt417.2.2 != t373)) else (laws_FnExactBeadsAt.j2 kj47 t405 t407 t406 true))) else (laws_FnExactBeadsAt.j2 kj47 t405 t407 t406 true))))) else (some false))) = some r:=H
   have A81:=Aside0.mk A810
   clear A810
   by_cases c82 : t409 < 0
   ·rw [if_pos c82] at H
    have c82b0 : decide (t409 < 0) = true:=decide_eq_true c82
    clear c82
    obtain rfl:=Option.some.inj H
    obtain ⟨Ao83,co83,eo83⟩:=R_slice HO_10.out
    subst eo83
    go_wp2_with (first|((with_reducible refine gate_callee (f:=24) rfl ?_);refine goesL_ (some 85) rfl rfl Try.func24 (by kernel_rfl) rfl #[.slice Ao83 t382.length co83,.int .i64 1] rfl (by (try simp only [List.map_toArray,List.map_cons,List.map_nil]);first|done|rfl|(simp only [List.length_drop,List.length_take];rfl)) ?_;(with_reducible refine (laws_markIntS.calls kj47 (fun k_=>some k_ = (.slice Ao83 t382.length co83 : Value).ownBlock) (.slice Ao83 t382.length co83) t382 1 t404 t405 w _ ?side1 ?side2 A73.out).mono ?_);(case side1=>repeat (first|(with_reducible first|exact HB.out|apply below_alloc|apply pw_below_drewN|apply below_drew1|refine below_set ?_ GE358.out|refine below_set ?_ GE381.out)|exact HB.out));(case side2=>exact R_tight rfl HO_10.out);rintro e w84 ⟨rfl,hy0,hb,hkp⟩;refine ⟨_,rfl,?_⟩;have n0_:=Aside0.mk (R_mono (ok':=fun k_=>some k_ ≠ (v371 : Value).ownBlock ∧ some k_ ≠ (.slice Ao83 t382.length co83 : Value).ownBlock ∧ some k_ ≠ (v386 : Value).ownBlock ∧ some k_ ≠ (.slice Ao26 t400.length co26 : Value).ownBlock ∧ some k_ ≠ (.slice Ao27 t401.length co27 : Value).ownBlock) (R_keptB (HO_6.out) hkp (fun k_ hk_ hs_=>(hk_.2.1) hs_)) (fun k_ hk_=>⟨hk_.1.1,hk_.1.2.1,hk_.1.2.2.1,hk_.1.2.2.2.1,hk_.1.2.2.2.2⟩));have n1_:=Aside0.mk (R_mono (ok':=fun k_=>some k_ ≠ (v368 : Value).ownBlock ∧ some k_ ≠ (.slice Ao83 t382.length co83 : Value).ownBlock ∧ some k_ ≠ (v386 : Value).ownBlock ∧ some k_ ≠ (.slice Ao26 t400.length co26 : Value).ownBlock ∧ some k_ ≠ (.slice Ao27 t401.length co27 : Value).ownBlock) (R_keptB (HO_7.out) hkp (fun k_ hk_ hs_=>(hk_.2.1) hs_)) (fun k_ hk_=>⟨hk_.1.1,hk_.1.2.1,hk_.1.2.2.1,hk_.1.2.2.2.1,hk_.1.2.2.2.2⟩));have n2_:=Aside0.mk (R_reok rfl hy0 (fun k_ e_=>HO_10.out.1 k_ e_));have n3_:=Aside0.mk (R_mono (ok':=fun k_=>some k_ ≠ (v368 : Value).ownBlock ∧ some k_ ≠ (v371 : Value).ownBlock ∧ some k_ ≠ (.slice Ao83 t382.length co83 : Value).ownBlock ∧ some k_ ≠ (.slice Ao26 t400.length co26 : Value).ownBlock ∧ some k_ ≠ (.slice Ao27 t401.length co27 : Value).ownBlock) (R_keptB (HO_11.out) hkp (fun k_ hk_ hs_=>(hk_.2.2.1) hs_)) (fun k_ hk_=>⟨hk_.1.1,hk_.1.2.1,hk_.1.2.2.1,hk_.1.2.2.2.1,hk_.1.2.2.2.2⟩));have n4_:=Aside0.mk (R_mono (ok':=fun k_=>some k_ ≠ (v368 : Value).ownBlock ∧ some k_ ≠ (v371 : Value).ownBlock ∧ some k_ ≠ (.slice Ao83 t382.length co83 : Value).ownBlock ∧ some k_ ≠ (v386 : Value).ownBlock ∧ some k_ ≠ (.slice Ao27 t401.length co27 : Value).ownBlock) (R_keptB (HO_382001.out) hkp (fun k_ hk_ hs_=>(hk_.2.2.1) hs_)) (fun k_ hk_=>⟨hk_.1.1,hk_.1.2.1,hk_.1.2.2.1,hk_.1.2.2.2.1,hk_.1.2.2.2.2⟩));have n5_:=Aside0.mk (R_mono (ok':=fun k_=>some k_ ≠ (v368 : Value).ownBlock ∧ some k_ ≠ (v371 : Value).ownBlock ∧ some k_ ≠ (.slice Ao83 t382.length co83 : Value).ownBlock ∧ some k_ ≠ (v386 : Value).ownBlock ∧ some k_ ≠ (.slice Ao26 t400.length co26 : Value).ownBlock) (R_keptB (HO_382002.out) hkp (fun k_ hk_ hs_=>(hk_.2.2.1) hs_)) (fun k_ hk_=>⟨hk_.1.1,hk_.1.2.1,hk_.1.2.2.1,hk_.1.2.2.2.1,hk_.1.2.2.2.2⟩));have n6_:=Aside0.mk (blk_kept (bm BK358.out) hkp (fun hs_=>(fun e_=>(R_ne HO_10.out BK358.out (by decide)) e_) hs_));have n7_:=Aside0.mk (blk_kept (bm BK381.out) hkp (fun hs_=>(fun e_=>(R_ne HO_10.out BK381.out (by decide)) e_) hs_));have n8_:=Aside0.mk (hb);clear HO_6;clear HO_7;clear HO_10;clear HO_11;clear HO_382001;clear HO_382002;clear BK358;clear BK381;clear HB;have HO_6:=n0_;have HO_7:=n1_;have HO_10:=n2_;have HO_11:=n3_;have HO_382001:=n4_;have HO_382002:=n5_;have BK358:=n6_;have BK381:=n7_;have HB:=n8_;clear n0_ n1_ n2_ n3_ n4_ n5_ n6_ n7_ n8_;(try clear hb);(try clear hkp);(try clear hy0);obtain ⟨Ao85,co85,eo85⟩:=R_slice HO_11.out;subst eo85)|((with_reducible refine gate_callee (f:=24) rfl ?_);refine goesL_ (some 88) rfl rfl Try.func24 (by kernel_rfl) rfl #[.slice Ao85 t385.length co85,.int .i64 t404] rfl (by (try simp only [List.map_toArray,List.map_cons,List.map_nil]);first|done|rfl|(simp only [List.length_drop,List.length_take];rfl)) ?_;(with_reducible refine (laws_markIntS.calls kj47 (fun k_=>some k_ = (.slice Ao85 t385.length co85 : Value).ownBlock) (.slice Ao85 t385.length co85) t385 t404 t406 t407 w _ ?side1 ?side2 A74.out).mono ?_);(case side1=>repeat (first|(with_reducible first|exact HB.out|apply below_alloc|apply pw_below_drewN|apply below_drew1|refine below_set ?_ GE358.out|refine below_set ?_ GE381.out)|exact HB.out));(case side2=>exact R_tight rfl HO_11.out);rintro e w86 ⟨rfl,hy0,hb,hkp⟩;refine ⟨_,rfl,?_⟩;have n0_:=Aside0.mk (R_mono (ok':=fun k_=>some k_ ≠ (v371 : Value).ownBlock ∧ some k_ ≠ (.slice Ao83 t382.length co83 : Value).ownBlock ∧ some k_ ≠ (.slice Ao85 t385.length co85 : Value).ownBlock ∧ some k_ ≠ (.slice Ao26 t400.length co26 : Value).ownBlock ∧ some k_ ≠ (.slice Ao27 t401.length co27 : Value).ownBlock) (R_keptB (HO_6.out) hkp (fun k_ hk_ hs_=>(hk_.2.2.1) hs_)) (fun k_ hk_=>⟨hk_.1.1,hk_.1.2.1,hk_.1.2.2.1,hk_.1.2.2.2.1,hk_.1.2.2.2.2⟩));have n1_:=Aside0.mk (R_mono (ok':=fun k_=>some k_ ≠ (v368 : Value).ownBlock ∧ some k_ ≠ (.slice Ao83 t382.length co83 : Value).ownBlock ∧ some k_ ≠ (.slice Ao85 t385.length co85 : Value).ownBlock ∧ some k_ ≠ (.slice Ao26 t400.length co26 : Value).ownBlock ∧ some k_ ≠ (.slice Ao27 t401.length co27 : Value).ownBlock) (R_keptB (HO_7.out) hkp (fun k_ hk_ hs_=>(hk_.2.2.1) hs_)) (fun k_ hk_=>⟨hk_.1.1,hk_.1.2.1,hk_.1.2.2.1,hk_.1.2.2.2.1,hk_.1.2.2.2.2⟩));have n2_:=Aside0.mk (R_mono (ok':=fun k_=>some k_ ≠ (v368 : Value).ownBlock ∧ some k_ ≠ (v371 : Value).ownBlock ∧ some k_ ≠ (.slice Ao85 t385.length co85 : Value).ownBlock ∧ some k_ ≠ (.slice Ao26 t400.length co26 : Value).ownBlock ∧ some k_ ≠ (.slice Ao27 t401.length co27 : Value).ownBlock) (R_keptB (HO_10.out) hkp (fun k_ hk_ hs_=>(hk_.2.2.1) hs_)) (fun k_ hk_=>⟨hk_.1.1,hk_.1.2.1,hk_.1.2.2.1,hk_.1.2.2.2.1,hk_.1.2.2.2.2⟩));have n3_:=Aside0.mk (R_reok rfl hy0 (fun k_ e_=>HO_11.out.1 k_ e_));have n4_:=Aside0.mk (R_mono (ok':=fun k_=>some k_ ≠ (v368 : Value).ownBlock ∧ some k_ ≠ (v371 : Value).ownBlock ∧ some k_ ≠ (.slice Ao83 t382.length co83 : Value).ownBlock ∧ some k_ ≠ (.slice Ao85 t385.length co85 : Value).ownBlock ∧ some k_ ≠ (.slice Ao27 t401.length co27 : Value).ownBlock) (R_keptB (HO_382001.out) hkp (fun k_ hk_ hs_=>(hk_.2.2.2.1) hs_)) (fun k_ hk_=>⟨hk_.1.1,hk_.1.2.1,hk_.1.2.2.1,hk_.1.2.2.2.1,hk_.1.2.2.2.2⟩));have n5_:=Aside0.mk (R_mono (ok':=fun k_=>some k_ ≠ (v368 : Value).ownBlock ∧ some k_ ≠ (v371 : Value).ownBlock ∧ some k_ ≠ (.slice Ao83 t382.length co83 : Value).ownBlock ∧ some k_ ≠ (.slice Ao85 t385.length co85 : Value).ownBlock ∧ some k_ ≠ (.slice Ao26 t400.length co26 : Value).ownBlock) (R_keptB (HO_382002.out) hkp (fun k_ hk_ hs_=>(hk_.2.2.2.1) hs_)) (fun k_ hk_=>⟨hk_.1.1,hk_.1.2.1,hk_.1.2.2.1,hk_.1.2.2.2.1,hk_.1.2.2.2.2⟩));have n6_:=Aside0.mk (blk_kept (bm BK358.out) hkp (fun hs_=>(fun e_=>(R_ne HO_11.out BK358.out (by decide)) e_) hs_));have n7_:=Aside0.mk (blk_kept (bm BK381.out) hkp (fun hs_=>(fun e_=>(R_ne HO_11.out BK381.out (by decide)) e_) hs_));have n8_:=Aside0.mk (hb);clear HO_6;clear HO_7;clear HO_10;clear HO_11;clear HO_382001;clear HO_382002;clear BK358;clear BK381;clear HB;have HO_6:=n0_;have HO_7:=n1_;have HO_10:=n2_;have HO_11:=n3_;have HO_382001:=n4_;have HO_382002:=n5_;have BK358:=n6_;have BK381:=n7_;have HB:=n8_;clear n0_ n1_ n2_ n3_ n4_ n5_ n6_ n7_ n8_;(try clear hb);(try clear hkp);(try clear hy0))|((with_reducible refine gate_callee (f:=25) rfl ?_);refine goesL_ (some 91) rfl rfl Try.func25 (by kernel_rfl) rfl #[.slice Ao83 t405.length co83,.int .i64 1] rfl (by (try simp only [List.map_toArray,List.map_cons,List.map_nil]);first|done|(rw [show t405.length = t382.length from (R_reads' HO_10.out).1.symm] <;> rfl)|rfl|(simp only [List.length_drop,List.length_take];rfl)) ?_;(with_reducible refine (laws_heldIntS.calls kj47 _ _ t405 1 t408 _ ?side1 ?side2 A75.out).mono ?_);(case side1=>exact cm (R_reads' HO_10.out).2.2);(case side2=>rw [show t405.length = t382.length from (R_reads' HO_10.out).1.symm];exact (R_reads' HO_10.out).2.1);rintro e w' ⟨rfl,⟨nd,rfl⟩⟩;refine ⟨_,rfl,?_⟩)|((with_reducible refine gate_callee (f:=25) rfl ?_);refine goesL_ (some 96) rfl rfl Try.func25 (by kernel_rfl) rfl #[.slice Ao85 t407.length co85,.int .i64 t408] rfl (by (try simp only [List.map_toArray,List.map_cons,List.map_nil]);first|done|(rw [show t407.length = t385.length from (R_reads' HO_11.out).1.symm] <;> rfl)|rfl|(simp only [List.length_drop,List.length_take];rfl)) ?_;(with_reducible refine (laws_heldIntS.calls kj47 _ _ t407 t408 t409 _ ?side1 ?side2 A81.out).mono ?_);(case side1=>exact cm (R_reads' HO_11.out).2.2);(case side2=>rw [show t407.length = t385.length from (R_reads' HO_11.out).1.symm];exact (R_reads' HO_11.out).2.1);rintro e w' ⟨rfl,⟨nd,rfl⟩⟩;refine ⟨_,rfl,?_⟩))
    go_ret
    exact ⟨by first|rfl|(simp [errW_none,errW_some] <;> rfl)|(simp [*,errW_none,errW_some] <;> rfl),h2 HB.out GE358.out GE381.out⟩
   rw [if_neg c82] at H
   have c82b0 : decide (t409 < 0) = false:=decide_eq_false c82
   clear c82
   by_cases c87 : t409 = t406
   rotate_left
   ·rw [if_neg c87] at H
    have c87b0 : (t409 == t406) = false:=beq_eq_false_iff_ne.mpr c87
    have c87b1 : (t409 != t406) = true:=bne_iff_ne.mpr c87
    obtain rfl:=Option.some.inj H
    obtain ⟨Ao121,co121,eo121⟩:=R_slice HO_10.out
    subst eo121
    go_wp2_with (first|((with_reducible refine gate_callee (f:=24) rfl ?_);refine goesL_ (some 85) rfl rfl Try.func24 (by kernel_rfl) rfl #[.slice Ao121 t382.length co121,.int .i64 1] rfl (by (try simp only [List.map_toArray,List.map_cons,List.map_nil]);first|done|rfl|(simp only [List.length_drop,List.length_take];rfl)) ?_;(with_reducible refine (laws_markIntS.calls kj47 (fun k_=>some k_ = (.slice Ao121 t382.length co121 : Value).ownBlock) (.slice Ao121 t382.length co121) t382 1 t404 t405 w _ ?side1 ?side2 A73.out).mono ?_);(case side1=>repeat (first|(with_reducible first|exact HB.out|apply below_alloc|apply pw_below_drewN|apply below_drew1|refine below_set ?_ GE358.out|refine below_set ?_ GE381.out)|exact HB.out));(case side2=>exact R_tight rfl HO_10.out);rintro e w122 ⟨rfl,hy0,hb,hkp⟩;refine ⟨_,rfl,?_⟩;have n0_:=Aside0.mk (R_mono (ok':=fun k_=>some k_ ≠ (v371 : Value).ownBlock ∧ some k_ ≠ (.slice Ao121 t382.length co121 : Value).ownBlock ∧ some k_ ≠ (v386 : Value).ownBlock ∧ some k_ ≠ (.slice Ao26 t400.length co26 : Value).ownBlock ∧ some k_ ≠ (.slice Ao27 t401.length co27 : Value).ownBlock) (R_keptB (HO_6.out) hkp (fun k_ hk_ hs_=>(hk_.2.1) hs_)) (fun k_ hk_=>⟨hk_.1.1,hk_.1.2.1,hk_.1.2.2.1,hk_.1.2.2.2.1,hk_.1.2.2.2.2⟩));have n1_:=Aside0.mk (R_mono (ok':=fun k_=>some k_ ≠ (v368 : Value).ownBlock ∧ some k_ ≠ (.slice Ao121 t382.length co121 : Value).ownBlock ∧ some k_ ≠ (v386 : Value).ownBlock ∧ some k_ ≠ (.slice Ao26 t400.length co26 : Value).ownBlock ∧ some k_ ≠ (.slice Ao27 t401.length co27 : Value).ownBlock) (R_keptB (HO_7.out) hkp (fun k_ hk_ hs_=>(hk_.2.1) hs_)) (fun k_ hk_=>⟨hk_.1.1,hk_.1.2.1,hk_.1.2.2.1,hk_.1.2.2.2.1,hk_.1.2.2.2.2⟩));have n2_:=Aside0.mk (R_reok rfl hy0 (fun k_ e_=>HO_10.out.1 k_ e_));have n3_:=Aside0.mk (R_mono (ok':=fun k_=>some k_ ≠ (v368 : Value).ownBlock ∧ some k_ ≠ (v371 : Value).ownBlock ∧ some k_ ≠ (.slice Ao121 t382.length co121 : Value).ownBlock ∧ some k_ ≠ (.slice Ao26 t400.length co26 : Value).ownBlock ∧ some k_ ≠ (.slice Ao27 t401.length co27 : Value).ownBlock) (R_keptB (HO_11.out) hkp (fun k_ hk_ hs_=>(hk_.2.2.1) hs_)) (fun k_ hk_=>⟨hk_.1.1,hk_.1.2.1,hk_.1.2.2.1,hk_.1.2.2.2.1,hk_.1.2.2.2.2⟩));have n4_:=Aside0.mk (R_mono (ok':=fun k_=>some k_ ≠ (v368 : Value).ownBlock ∧ some k_ ≠ (v371 : Value).ownBlock ∧ some k_ ≠ (.slice Ao121 t382.length co121 : Value).ownBlock ∧ some k_ ≠ (v386 : Value).ownBlock ∧ some k_ ≠ (.slice Ao27 t401.length co27 : Value).ownBlock) (R_keptB (HO_382001.out) hkp (fun k_ hk_ hs_=>(hk_.2.2.1) hs_)) (fun k_ hk_=>⟨hk_.1.1,hk_.1.2.1,hk_.1.2.2.1,hk_.1.2.2.2.1,hk_.1.2.2.2.2⟩));have n5_:=Aside0.mk (R_mono (ok':=fun k_=>some k_ ≠ (v368 : Value).ownBlock ∧ some k_ ≠ (v371 : Value).ownBlock ∧ some k_ ≠ (.slice Ao121 t382.length co121 : Value).ownBlock ∧ some k_ ≠ (v386 : Value).ownBlock ∧ some k_ ≠ (.slice Ao26 t400.length co26 : Value).ownBlock) (R_keptB (HO_382002.out) hkp (fun k_ hk_ hs_=>(hk_.2.2.1) hs_)) (fun k_ hk_=>⟨hk_.1.1,hk_.1.2.1,hk_.1.2.2.1,hk_.1.2.2.2.1,hk_.1.2.2.2.2⟩));have n6_:=Aside0.mk (blk_kept (bm BK358.out) hkp (fun hs_=>(fun e_=>(R_ne HO_10.out BK358.out (by decide)) e_) hs_));have n7_:=Aside0.mk (blk_kept (bm BK381.out) hkp (fun hs_=>(fun e_=>(R_ne HO_10.out BK381.out (by decide)) e_) hs_));have n8_:=Aside0.mk (hb);clear HO_6;clear HO_7;clear HO_10;clear HO_11;clear HO_382001;clear HO_382002;clear BK358;clear BK381;clear HB;have HO_6:=n0_;have HO_7:=n1_;have HO_10:=n2_;have HO_11:=n3_;have HO_382001:=n4_;have HO_382002:=n5_;have BK358:=n6_;have BK381:=n7_;have HB:=n8_;clear n0_ n1_ n2_ n3_ n4_ n5_ n6_ n7_ n8_;(try clear hb);(try clear hkp);(try clear hy0);obtain ⟨Ao123,co123,eo123⟩:=R_slice HO_11.out;subst eo123)|((with_reducible refine gate_callee (f:=24) rfl ?_);refine goesL_ (some 88) rfl rfl Try.func24 (by kernel_rfl) rfl #[.slice Ao123 t385.length co123,.int .i64 t404] rfl (by (try simp only [List.map_toArray,List.map_cons,List.map_nil]);first|done|rfl|(simp only [List.length_drop,List.length_take];rfl)) ?_;(with_reducible refine (laws_markIntS.calls kj47 (fun k_=>some k_ = (.slice Ao123 t385.length co123 : Value).ownBlock) (.slice Ao123 t385.length co123) t385 t404 t406 t407 w _ ?side1 ?side2 A74.out).mono ?_);(case side1=>repeat (first|(with_reducible first|exact HB.out|apply below_alloc|apply pw_below_drewN|apply below_drew1|refine below_set ?_ GE358.out|refine below_set ?_ GE381.out)|exact HB.out));(case side2=>exact R_tight rfl HO_11.out);rintro e w124 ⟨rfl,hy0,hb,hkp⟩;refine ⟨_,rfl,?_⟩;have n0_:=Aside0.mk (R_mono (ok':=fun k_=>some k_ ≠ (v371 : Value).ownBlock ∧ some k_ ≠ (.slice Ao121 t382.length co121 : Value).ownBlock ∧ some k_ ≠ (.slice Ao123 t385.length co123 : Value).ownBlock ∧ some k_ ≠ (.slice Ao26 t400.length co26 : Value).ownBlock ∧ some k_ ≠ (.slice Ao27 t401.length co27 : Value).ownBlock) (R_keptB (HO_6.out) hkp (fun k_ hk_ hs_=>(hk_.2.2.1) hs_)) (fun k_ hk_=>⟨hk_.1.1,hk_.1.2.1,hk_.1.2.2.1,hk_.1.2.2.2.1,hk_.1.2.2.2.2⟩));have n1_:=Aside0.mk (R_mono (ok':=fun k_=>some k_ ≠ (v368 : Value).ownBlock ∧ some k_ ≠ (.slice Ao121 t382.length co121 : Value).ownBlock ∧ some k_ ≠ (.slice Ao123 t385.length co123 : Value).ownBlock ∧ some k_ ≠ (.slice Ao26 t400.length co26 : Value).ownBlock ∧ some k_ ≠ (.slice Ao27 t401.length co27 : Value).ownBlock) (R_keptB (HO_7.out) hkp (fun k_ hk_ hs_=>(hk_.2.2.1) hs_)) (fun k_ hk_=>⟨hk_.1.1,hk_.1.2.1,hk_.1.2.2.1,hk_.1.2.2.2.1,hk_.1.2.2.2.2⟩));have n2_:=Aside0.mk (R_mono (ok':=fun k_=>some k_ ≠ (v368 : Value).ownBlock ∧ some k_ ≠ (v371 : Value).ownBlock ∧ some k_ ≠ (.slice Ao123 t385.length co123 : Value).ownBlock ∧ some k_ ≠ (.slice Ao26 t400.length co26 : Value).ownBlock ∧ some k_ ≠ (.slice Ao27 t401.length co27 : Value).ownBlock) (R_keptB (HO_10.out) hkp (fun k_ hk_ hs_=>(hk_.2.2.1) hs_)) (fun k_ hk_=>⟨hk_.1.1,hk_.1.2.1,hk_.1.2.2.1,hk_.1.2.2.2.1,hk_.1.2.2.2.2⟩));have n3_:=Aside0.mk (R_reok rfl hy0 (fun k_ e_=>HO_11.out.1 k_ e_));have n4_:=Aside0.mk (R_mono (ok':=fun k_=>some k_ ≠ (v368 : Value).ownBlock ∧ some k_ ≠ (v371 : Value).ownBlock ∧ some k_ ≠ (.slice Ao121 t382.length co121 : Value).ownBlock ∧ some k_ ≠ (.slice Ao123 t385.length co123 : Value).ownBlock ∧ some k_ ≠ (.slice Ao27 t401.length co27 : Value).ownBlock) (R_keptB (HO_382001.out) hkp (fun k_ hk_ hs_=>(hk_.2.2.2.1) hs_)) (fun k_ hk_=>⟨hk_.1.1,hk_.1.2.1,hk_.1.2.2.1,hk_.1.2.2.2.1,hk_.1.2.2.2.2⟩));have n5_:=Aside0.mk (R_mono (ok':=fun k_=>some k_ ≠ (v368 : Value).ownBlock ∧ some k_ ≠ (v371 : Value).ownBlock ∧ some k_ ≠ (.slice Ao121 t382.length co121 : Value).ownBlock ∧ some k_ ≠ (.slice Ao123 t385.length co123 : Value).ownBlock ∧ some k_ ≠ (.slice Ao26 t400.length co26 : Value).ownBlock) (R_keptB (HO_382002.out) hkp (fun k_ hk_ hs_=>(hk_.2.2.2.1) hs_)) (fun k_ hk_=>⟨hk_.1.1,hk_.1.2.1,hk_.1.2.2.1,hk_.1.2.2.2.1,hk_.1.2.2.2.2⟩));have n6_:=Aside0.mk (blk_kept (bm BK358.out) hkp (fun hs_=>(fun e_=>(R_ne HO_11.out BK358.out (by decide)) e_) hs_));have n7_:=Aside0.mk (blk_kept (bm BK381.out) hkp (fun hs_=>(fun e_=>(R_ne HO_11.out BK381.out (by decide)) e_) hs_));have n8_:=Aside0.mk (hb);clear HO_6;clear HO_7;clear HO_10;clear HO_11;clear HO_382001;clear HO_382002;clear BK358;clear BK381;clear HB;have HO_6:=n0_;have HO_7:=n1_;have HO_10:=n2_;have HO_11:=n3_;have HO_382001:=n4_;have HO_382002:=n5_;have BK358:=n6_;have BK381:=n7_;have HB:=n8_;clear n0_ n1_ n2_ n3_ n4_ n5_ n6_ n7_ n8_;(try clear hb);(try clear hkp);(try clear hy0))|((with_reducible refine gate_callee (f:=25) rfl ?_);refine goesL_ (some 91) rfl rfl Try.func25 (by kernel_rfl) rfl #[.slice Ao121 t405.length co121,.int .i64 1] rfl (by (try simp only [List.map_toArray,List.map_cons,List.map_nil]);first|done|(rw [show t405.length = t382.length from (R_reads' HO_10.out).1.symm] <;> rfl)|rfl|(simp only [List.length_drop,List.length_take];rfl)) ?_;(with_reducible refine (laws_heldIntS.calls kj47 _ _ t405 1 t408 _ ?side1 ?side2 A75.out).mono ?_);(case side1=>exact cm (R_reads' HO_10.out).2.2);(case side2=>rw [show t405.length = t382.length from (R_reads' HO_10.out).1.symm];exact (R_reads' HO_10.out).2.1);rintro e w' ⟨rfl,⟨nd,rfl⟩⟩;refine ⟨_,rfl,?_⟩)|((with_reducible refine gate_callee (f:=25) rfl ?_);refine goesL_ (some 96) rfl rfl Try.func25 (by kernel_rfl) rfl #[.slice Ao123 t407.length co123,.int .i64 t408] rfl (by (try simp only [List.map_toArray,List.map_cons,List.map_nil]);first|done|(rw [show t407.length = t385.length from (R_reads' HO_11.out).1.symm] <;> rfl)|rfl|(simp only [List.length_drop,List.length_take];rfl)) ?_;(with_reducible refine (laws_heldIntS.calls kj47 _ _ t407 t408 t409 _ ?side1 ?side2 A81.out).mono ?_);(case side1=>exact cm (R_reads' HO_11.out).2.2);(case side2=>rw [show t407.length = t385.length from (R_reads' HO_11.out).1.symm];exact (R_reads' HO_11.out).2.1);rintro e w' ⟨rfl,⟨nd,rfl⟩⟩;refine ⟨_,rfl,?_⟩))
    go_ret
    exact ⟨by first|rfl|(simp [errW_none,errW_some] <;> rfl)|(simp [*,errW_none,errW_some] <;> rfl),h2 HB.out GE358.out GE381.out⟩
   rw [if_pos c87] at H
   have c87b0 : (t409 == t406) = true:=beq_iff_eq.mpr c87
   have c87b1 : (t409 != t406) = false:=bne_eq_false_iff_eq.mpr c87
   clear c87
   replace H:=Option.bind_eq_some_iff.mp H
   obtain ⟨⟨t410,t411,t414⟩,A880,H⟩:=H
   replace H : ((impl_BeadsAt.f kj47 t410 t411 t414 a1).bind fun bt417=>((laws_eqIntS.f kj47 bt417.1 t367).bind fun t424=>(if t424 = true then ((laws_eqIntS.f kj47 bt417.2.1 t370).bind fun t425=>(if t425 = true then (laws_FnExactBeadsAt.j2 kj47 t405 t407 t406 (bt417.2.2 != t373)) else (laws_FnExactBeadsAt.j2 kj47 t405 t407 t406 true))) else (laws_FnExactBeadsAt.j2 kj47 t405 t407 t406 true)))) = some r:=H
   have A88:=Aside0.mk A880
   clear A880
   replace H:=Option.bind_eq_some_iff.mp H
   obtain ⟨⟨t417,t420,t423⟩,A890,H⟩:=H
   replace H : ((laws_eqIntS.f kj47 t417 t367).bind fun t424=>(if t424 = true then ((laws_eqIntS.f kj47 t420 t370).bind fun t425=>(if t425 = true then (laws_FnExactBeadsAt.j2 kj47 t405 t407 t406 (t423 != t373)) else (laws_FnExactBeadsAt.j2 kj47 t405 t407 t406 true))) else (laws_FnExactBeadsAt.j2 kj47 t405 t407 t406 true))) = some r:=H
   have A89:=Aside0.mk A890
   clear A890
   have HC90:=Aside0.mk H
   clear H
   obtain ⟨Ao91,co91,eo91⟩:=R_slice HO_10.out
   subst eo91
   go_upto_region 29 with (first|((with_reducible refine gate_callee (f:=24) rfl ?_);refine goesL_ (some 85) rfl rfl Try.func24 (by kernel_rfl) rfl #[.slice Ao91 t382.length co91,.int .i64 1] rfl (by (try simp only [List.map_toArray,List.map_cons,List.map_nil]);first|done|rfl|(simp only [List.length_drop,List.length_take];rfl)) ?_;(with_reducible refine (laws_markIntS.calls kj47 (fun k_=>some k_ = (.slice Ao91 t382.length co91 : Value).ownBlock) (.slice Ao91 t382.length co91) t382 1 t404 t405 w _ ?side1 ?side2 A73.out).mono ?_);(case side1=>repeat (first|(with_reducible first|exact HB.out|apply below_alloc|apply pw_below_drewN|apply below_drew1|refine below_set ?_ GE358.out|refine below_set ?_ GE381.out)|exact HB.out));(case side2=>exact R_tight rfl HO_10.out);rintro e w92 ⟨rfl,hy0,hb,hkp⟩;refine ⟨_,rfl,?_⟩;have n0_:=Aside0.mk (R_mono (ok':=fun k_=>some k_ ≠ (v371 : Value).ownBlock ∧ some k_ ≠ (.slice Ao91 t382.length co91 : Value).ownBlock ∧ some k_ ≠ (v386 : Value).ownBlock ∧ some k_ ≠ (.slice Ao26 t400.length co26 : Value).ownBlock ∧ some k_ ≠ (.slice Ao27 t401.length co27 : Value).ownBlock) (R_keptB (HO_6.out) hkp (fun k_ hk_ hs_=>(hk_.2.1) hs_)) (fun k_ hk_=>⟨hk_.1.1,hk_.1.2.1,hk_.1.2.2.1,hk_.1.2.2.2.1,hk_.1.2.2.2.2⟩));have n1_:=Aside0.mk (R_mono (ok':=fun k_=>some k_ ≠ (v368 : Value).ownBlock ∧ some k_ ≠ (.slice Ao91 t382.length co91 : Value).ownBlock ∧ some k_ ≠ (v386 : Value).ownBlock ∧ some k_ ≠ (.slice Ao26 t400.length co26 : Value).ownBlock ∧ some k_ ≠ (.slice Ao27 t401.length co27 : Value).ownBlock) (R_keptB (HO_7.out) hkp (fun k_ hk_ hs_=>(hk_.2.1) hs_)) (fun k_ hk_=>⟨hk_.1.1,hk_.1.2.1,hk_.1.2.2.1,hk_.1.2.2.2.1,hk_.1.2.2.2.2⟩));have n2_:=Aside0.mk (R_reok rfl hy0 (fun k_ e_=>HO_10.out.1 k_ e_));have n3_:=Aside0.mk (R_mono (ok':=fun k_=>some k_ ≠ (v368 : Value).ownBlock ∧ some k_ ≠ (v371 : Value).ownBlock ∧ some k_ ≠ (.slice Ao91 t382.length co91 : Value).ownBlock ∧ some k_ ≠ (.slice Ao26 t400.length co26 : Value).ownBlock ∧ some k_ ≠ (.slice Ao27 t401.length co27 : Value).ownBlock) (R_keptB (HO_11.out) hkp (fun k_ hk_ hs_=>(hk_.2.2.1) hs_)) (fun k_ hk_=>⟨hk_.1.1,hk_.1.2.1,hk_.1.2.2.1,hk_.1.2.2.2.1,hk_.1.2.2.2.2⟩));have n4_:=Aside0.mk (R_mono (ok':=fun k_=>some k_ ≠ (v368 : Value).ownBlock ∧ some k_ ≠ (v371 : Value).ownBlock ∧ some k_ ≠ (.slice Ao91 t382.length co91 : Value).ownBlock ∧ some k_ ≠ (v386 : Value).ownBlock ∧ some k_ ≠ (.slice Ao27 t401.length co27 : Value).ownBlock) (R_keptB (HO_382001.out) hkp (fun k_ hk_ hs_=>(hk_.2.2.1) hs_)) (fun k_ hk_=>⟨hk_.1.1,hk_.1.2.1,hk_.1.2.2.1,hk_.1.2.2.2.1,hk_.1.2.2.2.2⟩));have n5_:=Aside0.mk (R_mono (ok':=fun k_=>some k_ ≠ (v368 : Value).ownBlock ∧ some k_ ≠ (v371 : Value).ownBlock ∧ some k_ ≠ (.slice Ao91 t382.length co91 : Value).ownBlock ∧ some k_ ≠ (v386 : Value).ownBlock ∧ some k_ ≠ (.slice Ao26 t400.length co26 : Value).ownBlock) (R_keptB (HO_382002.out) hkp (fun k_ hk_ hs_=>(hk_.2.2.1) hs_)) (fun k_ hk_=>⟨hk_.1.1,hk_.1.2.1,hk_.1.2.2.1,hk_.1.2.2.2.1,hk_.1.2.2.2.2⟩));have n6_:=Aside0.mk (blk_kept (bm BK358.out) hkp (fun hs_=>(fun e_=>(R_ne HO_10.out BK358.out (by decide)) e_) hs_));have n7_:=Aside0.mk (blk_kept (bm BK381.out) hkp (fun hs_=>(fun e_=>(R_ne HO_10.out BK381.out (by decide)) e_) hs_));have n8_:=Aside0.mk (hb);clear HO_6;clear HO_7;clear HO_10;clear HO_11;clear HO_382001;clear HO_382002;clear BK358;clear BK381;clear HB;have HO_6:=n0_;have HO_7:=n1_;have HO_10:=n2_;have HO_11:=n3_;have HO_382001:=n4_;have HO_382002:=n5_;have BK358:=n6_;have BK381:=n7_;have HB:=n8_;clear n0_ n1_ n2_ n3_ n4_ n5_ n6_ n7_ n8_;(try clear hb);(try clear hkp);(try clear hy0);obtain ⟨Ao93,co93,eo93⟩:=R_slice HO_11.out;subst eo93)|((with_reducible refine gate_callee (f:=24) rfl ?_);refine goesL_ (some 88) rfl rfl Try.func24 (by kernel_rfl) rfl #[.slice Ao93 t385.length co93,.int .i64 t404] rfl (by (try simp only [List.map_toArray,List.map_cons,List.map_nil]);first|done|rfl|(simp only [List.length_drop,List.length_take];rfl)) ?_;(with_reducible refine (laws_markIntS.calls kj47 (fun k_=>some k_ = (.slice Ao93 t385.length co93 : Value).ownBlock) (.slice Ao93 t385.length co93) t385 t404 t406 t407 w _ ?side1 ?side2 A74.out).mono ?_);(case side1=>repeat (first|(with_reducible first|exact HB.out|apply below_alloc|apply pw_below_drewN|apply below_drew1|refine below_set ?_ GE358.out|refine below_set ?_ GE381.out)|exact HB.out));(case side2=>exact R_tight rfl HO_11.out);rintro e w94 ⟨rfl,hy0,hb,hkp⟩;refine ⟨_,rfl,?_⟩;have n0_:=Aside0.mk (R_mono (ok':=fun k_=>some k_ ≠ (v371 : Value).ownBlock ∧ some k_ ≠ (.slice Ao91 t382.length co91 : Value).ownBlock ∧ some k_ ≠ (.slice Ao93 t385.length co93 : Value).ownBlock ∧ some k_ ≠ (.slice Ao26 t400.length co26 : Value).ownBlock ∧ some k_ ≠ (.slice Ao27 t401.length co27 : Value).ownBlock) (R_keptB (HO_6.out) hkp (fun k_ hk_ hs_=>(hk_.2.2.1) hs_)) (fun k_ hk_=>⟨hk_.1.1,hk_.1.2.1,hk_.1.2.2.1,hk_.1.2.2.2.1,hk_.1.2.2.2.2⟩));have n1_:=Aside0.mk (R_mono (ok':=fun k_=>some k_ ≠ (v368 : Value).ownBlock ∧ some k_ ≠ (.slice Ao91 t382.length co91 : Value).ownBlock ∧ some k_ ≠ (.slice Ao93 t385.length co93 : Value).ownBlock ∧ some k_ ≠ (.slice Ao26 t400.length co26 : Value).ownBlock ∧ some k_ ≠ (.slice Ao27 t401.length co27 : Value).ownBlock) (R_keptB (HO_7.out) hkp (fun k_ hk_ hs_=>(hk_.2.2.1) hs_)) (fun k_ hk_=>⟨hk_.1.1,hk_.1.2.1,hk_.1.2.2.1,hk_.1.2.2.2.1,hk_.1.2.2.2.2⟩));have n2_:=Aside0.mk (R_mono (ok':=fun k_=>some k_ ≠ (v368 : Value).ownBlock ∧ some k_ ≠ (v371 : Value).ownBlock ∧ some k_ ≠ (.slice Ao93 t385.length co93 : Value).ownBlock ∧ some k_ ≠ (.slice Ao26 t400.length co26 : Value).ownBlock ∧ some k_ ≠ (.slice Ao27 t401.length co27 : Value).ownBlock) (R_keptB (HO_10.out) hkp (fun k_ hk_ hs_=>(hk_.2.2.1) hs_)) (fun k_ hk_=>⟨hk_.1.1,hk_.1.2.1,hk_.1.2.2.1,hk_.1.2.2.2.1,hk_.1.2.2.2.2⟩));have n3_:=Aside0.mk (R_reok rfl hy0 (fun k_ e_=>HO_11.out.1 k_ e_));have n4_:=Aside0.mk (R_mono (ok':=fun k_=>some k_ ≠ (v368 : Value).ownBlock ∧ some k_ ≠ (v371 : Value).ownBlock ∧ some k_ ≠ (.slice Ao91 t382.length co91 : Value).ownBlock ∧ some k_ ≠ (.slice Ao93 t385.length co93 : Value).ownBlock ∧ some k_ ≠ (.slice Ao27 t401.length co27 : Value).ownBlock) (R_keptB (HO_382001.out) hkp (fun k_ hk_ hs_=>(hk_.2.2.2.1) hs_)) (fun k_ hk_=>⟨hk_.1.1,hk_.1.2.1,hk_.1.2.2.1,hk_.1.2.2.2.1,hk_.1.2.2.2.2⟩));have n5_:=Aside0.mk (R_mono (ok':=fun k_=>some k_ ≠ (v368 : Value).ownBlock ∧ some k_ ≠ (v371 : Value).ownBlock ∧ some k_ ≠ (.slice Ao91 t382.length co91 : Value).ownBlock ∧ some k_ ≠ (.slice Ao93 t385.length co93 : Value).ownBlock ∧ some k_ ≠ (.slice Ao26 t400.length co26 : Value).ownBlock) (R_keptB (HO_382002.out) hkp (fun k_ hk_ hs_=>(hk_.2.2.2.1) hs_)) (fun k_ hk_=>⟨hk_.1.1,hk_.1.2.1,hk_.1.2.2.1,hk_.1.2.2.2.1,hk_.1.2.2.2.2⟩));have n6_:=Aside0.mk (blk_kept (bm BK358.out) hkp (fun hs_=>(fun e_=>(R_ne HO_11.out BK358.out (by decide)) e_) hs_));have n7_:=Aside0.mk (blk_kept (bm BK381.out) hkp (fun hs_=>(fun e_=>(R_ne HO_11.out BK381.out (by decide)) e_) hs_));have n8_:=Aside0.mk (hb);clear HO_6;clear HO_7;clear HO_10;clear HO_11;clear HO_382001;clear HO_382002;clear BK358;clear BK381;clear HB;have HO_6:=n0_;have HO_7:=n1_;have HO_10:=n2_;have HO_11:=n3_;have HO_382001:=n4_;have HO_382002:=n5_;have BK358:=n6_;have BK381:=n7_;have HB:=n8_;clear n0_ n1_ n2_ n3_ n4_ n5_ n6_ n7_ n8_;(try clear hb);(try clear hkp);(try clear hy0))|((with_reducible refine gate_callee (f:=25) rfl ?_);refine goesL_ (some 91) rfl rfl Try.func25 (by kernel_rfl) rfl #[.slice Ao91 t405.length co91,.int .i64 1] rfl (by (try simp only [List.map_toArray,List.map_cons,List.map_nil]);first|done|(rw [show t405.length = t382.length from (R_reads' HO_10.out).1.symm] <;> rfl)|rfl|(simp only [List.length_drop,List.length_take];rfl)) ?_;(with_reducible refine (laws_heldIntS.calls kj47 _ _ t405 1 t408 _ ?side1 ?side2 A75.out).mono ?_);(case side1=>exact cm (R_reads' HO_10.out).2.2);(case side2=>rw [show t405.length = t382.length from (R_reads' HO_10.out).1.symm];exact (R_reads' HO_10.out).2.1);rintro e w' ⟨rfl,⟨nd,rfl⟩⟩;refine ⟨_,rfl,?_⟩)|((with_reducible refine gate_callee (f:=25) rfl ?_);refine goesL_ (some 96) rfl rfl Try.func25 (by kernel_rfl) rfl #[.slice Ao93 t407.length co93,.int .i64 t408] rfl (by (try simp only [List.map_toArray,List.map_cons,List.map_nil]);first|done|(rw [show t407.length = t385.length from (R_reads' HO_11.out).1.symm] <;> rfl)|rfl|(simp only [List.length_drop,List.length_take];rfl)) ?_;(with_reducible refine (laws_heldIntS.calls kj47 _ _ t407 t408 t409 _ ?side1 ?side2 A81.out).mono ?_);(case side1=>exact cm (R_reads' HO_11.out).2.2);(case side2=>rw [show t407.length = t385.length from (R_reads' HO_11.out).1.symm];exact (R_reads' HO_11.out).2.1);rintro e w' ⟨rfl,⟨nd,rfl⟩⟩;refine ⟨_,rfl,?_⟩;have hnb95:=NB358_381.out;have hnc95:=NB381_358.out;have hcz96_0 : w94.cell? ⟨gb358,0,none⟩ = some (.int .i64 a0_0):=(blk_cell BK358.out 0).trans rfl;have hcz96_1 : w94.cell? ⟨gb358,1,none⟩ = some (.slice A0_1 l0_1.length c0_1):=(blk_cell BK358.out 1).trans rfl;have hcz96_2 : w94.cell? ⟨gb358,2,none⟩ = some (.slice A0_2 l0_2.length c0_2):=(blk_cell BK358.out 2).trans rfl;have hfz96_0:=blk_frozen BK358.out 0;have hfz96_1:=blk_frozen BK358.out 1;have hfz96_2:=blk_frozen BK358.out 2)|((with_reducible refine gate_callee (f:=13) rfl ?_);refine goesL_ (some 104) rfl rfl Try.func13 (by kernel_rfl) rfl #[.agg #[.int .i64 a0_0,.slice A0_1 l0_1.length c0_1,.slice A0_2 l0_2.length c0_2]] rfl (by (try simp only [List.map_toArray,List.map_cons,List.map_nil]);first|done|rfl|(simp only [List.length_drop,List.length_take];rfl)) ?_;(with_reducible refine (laws_toWire.calls kj47 a0_0 _ _ l0_1 _ _ l0_2 t410 t411 t414 _ ?side1 ?side2 ?side3 ?side4 A88.out).mono ?_);(case side1=>repeat (first|exact (C_below HR0_1.out (h2 HB.out GE358.out GE381.out))|(with_reducible refine C_alloc ?_ _)|(with_reducible refine C_drewN ?_ _)|(with_reducible refine C_drew ?_)));(case side2=>exact HC0_1.out);(case side3=>repeat (first|exact (C_below HR0_2.out (h2 HB.out GE358.out GE381.out))|(with_reducible refine C_alloc ?_ _)|(with_reducible refine C_drewN ?_ _)|(with_reducible refine C_drew ?_)));(case side4=>exact HC0_2.out);rintro e w97 ⟨v412,v415,rfl,ho0,ho1,hb⟩;refine ⟨_,rfl,?_⟩;have n0_:=Aside0.mk (R_mono (R_told (R_told (R_old (rm HO_6.out) hb) (R_base ho0)) (R_base ho1)) (fun _ h_=>h_.1));have n1_:=Aside0.mk (R_mono (R_told (R_told (R_old (rm HO_7.out) hb) (R_base ho0)) (R_base ho1)) (fun _ h_=>h_.1));have n2_:=Aside0.mk (R_mono (R_told (R_told (R_old (rm HO_10.out) hb) (R_base ho0)) (R_base ho1)) (fun _ h_=>h_.1));have n3_:=Aside0.mk (R_mono (R_told (R_told (R_old (rm HO_11.out) hb) (R_base ho0)) (R_base ho1)) (fun _ h_=>h_.1));have n4_:=Aside0.mk (R_mono (R_told (R_told (R_old (rm HO_382001.out) hb) (R_base ho0)) (R_base ho1)) (fun _ h_=>h_.1));have n5_:=Aside0.mk (R_mono (R_told (R_told (R_old (rm HO_382002.out) hb) (R_base ho0)) (R_base ho1)) (fun _ h_=>h_.1));have n6_:=Aside0.mk (R_lower (R_new' (R_new' (R_new' (R_new' (R_new' (R_new' ho0 (R_lt (rm HO_6.out))) (R_lt (rm HO_7.out))) (R_lt (rm HO_10.out))) (R_lt (rm HO_11.out))) (R_lt (rm HO_382001.out))) (R_lt (rm HO_382002.out))) (below_size (h2 HB.out GE358.out GE381.out)));have n7_:=Aside0.mk (R_lower (R_new' (R_new' (R_new' (R_new' (R_new' (R_new' ho1 (R_lt (rm HO_6.out))) (R_lt (rm HO_7.out))) (R_lt (rm HO_10.out))) (R_lt (rm HO_11.out))) (R_lt (rm HO_382001.out))) (R_lt (rm HO_382002.out))) (below_size (h2 HB.out GE358.out GE381.out)));have n8_:=Aside0.mk (blk_below (g:=gb358) (o:=.cells #[.int .i64 a0_0,.slice A0_1 l0_1.length c0_1,.slice A0_2 l0_2.length c0_2] 24 (0,0)) (bm BK358.out) hb);have n9_:=Aside0.mk (blk_below (g:=gb381) (o:=.cells #[.int .i64 t374,.slice Ao26 t400.length co26,.slice Ao27 t401.length co27] 27 (0,0)) (bm BK381.out) hb);have n10_:=Aside0.mk (below_step (h2 HB.out GE358.out GE381.out) hb);clear HO_6;clear HO_7;clear HO_10;clear HO_11;clear HO_382001;clear HO_382002;clear BK358;clear BK381;clear HB;have HO_6:=n0_;have HO_7:=n1_;have HO_10:=n2_;have HO_11:=n3_;have HO_382001:=n4_;have HO_382002:=n5_;have HO413:=n6_;have HO416:=n7_;have BK358:=n8_;have BK381:=n9_;have HB:=n10_;clear n0_ n1_ n2_ n3_ n4_ n5_ n6_ n7_ n8_ n9_ n10_;(try clear hb);(try clear hb2);(try clear hk);(try clear hi);(try clear ho0);(try clear ho1);obtain ⟨Ao98,co98,eo98⟩:=R_slice HO413.out;subst eo98;obtain ⟨Ao99,co99,eo99⟩:=R_slice HO416.out;subst eo99)|((with_reducible refine gate_callee (f:=32) rfl ?_);refine goesL_ (some 106) rfl rfl Try.func32 (by kernel_rfl) rfl #[.agg #[.int .i64 t410,.slice Ao98 t411.length co98,.slice Ao99 t414.length co99],.int .i64 a1] rfl (by (try simp only [List.map_toArray,List.map_cons,List.map_nil]);first|done|rfl|(simp only [List.length_drop,List.length_take];rfl)) ?_;(with_reducible refine (impl_BeadsAt.calls kj47 t410 _ _ t411 _ _ t414 a1 t417 t420 t423 _ ?side1 ?side2 ?side3 ?side4 A89.out).mono ?_);(case side1=>exact cm (R_reads' HO413.out).2.2);(case side2=>exact (R_reads' HO413.out).2.1);(case side3=>exact cm (R_reads' HO416.out).2.2);(case side4=>exact (R_reads' HO416.out).2.1);rintro e w100 ⟨v418,v421,rfl,ho0,ho1,hb⟩;refine ⟨_,rfl,?_⟩;have n0_:=Aside0.mk (R_mono (R_told (R_told (R_old (rm HO_6.out) hb) (R_base ho0)) (R_base ho1)) (fun _ h_=>h_.1));have n1_:=Aside0.mk (R_mono (R_told (R_told (R_old (rm HO_7.out) hb) (R_base ho0)) (R_base ho1)) (fun _ h_=>h_.1));have n2_:=Aside0.mk (R_mono (R_told (R_told (R_old (rm HO_10.out) hb) (R_base ho0)) (R_base ho1)) (fun _ h_=>h_.1));have n3_:=Aside0.mk (R_mono (R_told (R_told (R_old (rm HO_11.out) hb) (R_base ho0)) (R_base ho1)) (fun _ h_=>h_.1));have n4_:=Aside0.mk (R_mono (R_told (R_told (R_old (rm HO_382001.out) hb) (R_base ho0)) (R_base ho1)) (fun _ h_=>h_.1));have n5_:=Aside0.mk (R_mono (R_told (R_told (R_old (rm HO_382002.out) hb) (R_base ho0)) (R_base ho1)) (fun _ h_=>h_.1));have n6_:=Aside0.mk (R_mono (R_told (R_told (R_old (rm HO413.out) hb) (R_base ho0)) (R_base ho1)) (fun _ h_=>h_.1));have n7_:=Aside0.mk (R_mono (R_told (R_told (R_old (rm HO416.out) hb) (R_base ho0)) (R_base ho1)) (fun _ h_=>h_.1));have n8_:=Aside0.mk (R_lower (R_new' (R_new' (R_new' (R_new' (R_new' (R_new' (R_new' (R_new' ho0 (R_lt (rm HO_6.out))) (R_lt (rm HO_7.out))) (R_lt (rm HO_10.out))) (R_lt (rm HO_11.out))) (R_lt (rm HO_382001.out))) (R_lt (rm HO_382002.out))) (R_lt (rm HO413.out))) (R_lt (rm HO416.out))) (below_size (h2 HB.out GE358.out GE381.out)));have n9_:=Aside0.mk (R_lower (R_new' (R_new' (R_new' (R_new' (R_new' (R_new' (R_new' (R_new' ho1 (R_lt (rm HO_6.out))) (R_lt (rm HO_7.out))) (R_lt (rm HO_10.out))) (R_lt (rm HO_11.out))) (R_lt (rm HO_382001.out))) (R_lt (rm HO_382002.out))) (R_lt (rm HO413.out))) (R_lt (rm HO416.out))) (below_size (h2 HB.out GE358.out GE381.out)));have n10_:=Aside0.mk (blk_below (g:=gb358) (o:=.cells #[.int .i64 a0_0,.slice A0_1 l0_1.length c0_1,.slice A0_2 l0_2.length c0_2] 24 (0,0)) (bm BK358.out) hb);have n11_:=Aside0.mk (blk_below (g:=gb381) (o:=.cells #[.int .i64 t374,.slice Ao26 t400.length co26,.slice Ao27 t401.length co27] 27 (0,0)) (bm BK381.out) hb);have n12_:=Aside0.mk (below_step (h2 HB.out GE358.out GE381.out) hb);clear HO_6;clear HO_7;clear HO_10;clear HO_11;clear HO_382001;clear HO_382002;clear HO413;clear HO416;clear BK358;clear BK381;clear HB;have HO_6:=n0_;have HO_7:=n1_;have HO_10:=n2_;have HO_11:=n3_;have HO_382001:=n4_;have HO_382002:=n5_;have HO413:=n6_;have HO416:=n7_;have HO419:=n8_;have HO422:=n9_;have BK358:=n10_;have BK381:=n11_;have HB:=n12_;clear n0_ n1_ n2_ n3_ n4_ n5_ n6_ n7_ n8_ n9_ n10_ n11_ n12_;(try clear hb);(try clear hb2);(try clear hk);(try clear hi);(try clear ho0);(try clear ho1)))
   (try simp only [ap])
   go_cut [124] (fun v124 wc=>∃ (kq : Nat) (x124_89 : Bool),v124 = .bool x124_89 ∧ Aside0 (laws_FnExactBeadsAt.j2 kq t405 t407 t406 x124_89 = some r) ∧ Aside0 (kq ≤ kj47) ∧ Aside0 (Kd.R (Kd.int .i64) 3 wc w.heap.size (fun k_=>some k_ ≠ ((.slice Ao93 t385.length co93) : Value).ownBlock ∧ some k_ ≠ ((.slice Ao26 t400.length co26) : Value).ownBlock ∧ some k_ ≠ ((.slice Ao27 t401.length co27) : Value).ownBlock) (.slice Ao91 t382.length co91) t405) ∧ Aside0 (Kd.R (Kd.int .i64) 3 wc w.heap.size (fun k_=>some k_ ≠ ((.slice Ao91 t382.length co91) : Value).ownBlock ∧ some k_ ≠ ((.slice Ao26 t400.length co26) : Value).ownBlock ∧ some k_ ≠ ((.slice Ao27 t401.length co27) : Value).ownBlock) (.slice Ao93 t385.length co93) t407) ∧ Aside0 (Kd.R (Kd.int .i64) 3 wc w.heap.size (fun k_=>some k_ ≠ ((.slice Ao91 t382.length co91) : Value).ownBlock ∧ some k_ ≠ ((.slice Ao93 t385.length co93) : Value).ownBlock ∧ some k_ ≠ ((.slice Ao27 t401.length co27) : Value).ownBlock) (.slice Ao26 t400.length co26) t400) ∧ Aside0 (Kd.R (Kd.int .i64) 3 wc w.heap.size (fun k_=>some k_ ≠ ((.slice Ao91 t382.length co91) : Value).ownBlock ∧ some k_ ≠ ((.slice Ao93 t385.length co93) : Value).ownBlock ∧ some k_ ≠ ((.slice Ao26 t400.length co26) : Value).ownBlock) (.slice Ao27 t401.length co27) t401) ∧ Aside0 (wc.heap[gb358]? = some (.cells #[.int .i64 a0_0,(.slice A0_1 l0_1.length c0_1),(.slice A0_2 l0_2.length c0_2)] 24 (0,0))) ∧ Aside0 (wc.heap[gb381]? = some (.cells #[.int .i64 t374,(.slice Ao26 t400.length co26),(.slice Ao27 t401.length co27)] 27 (0,0))) ∧ Aside0 (Below w.heap.size w wc))
   case first =>
    have H:=HC90.out
    clear HC90
    replace H:=Option.bind_eq_some_iff.mp H
    obtain ⟨t424,A1010,H⟩:=H
    replace H : (if t424 = true then ((laws_eqIntS.f kj47 t420 t370).bind fun t425=>(if t425 = true then (laws_FnExactBeadsAt.j2 kj47 t405 t407 t406 (t423 != t373)) else (laws_FnExactBeadsAt.j2 kj47 t405 t407 t406 true))) else (laws_FnExactBeadsAt.j2 kj47 t405 t407 t406 true)) = some r:=H
    have A101:=Aside0.mk A1010
    clear A1010
    by_cases c102 : t424 = true
    rotate_left
    ·replace c102:=Bool.eq_false_iff.mpr c102
     subst c102
     have H1 : (laws_FnExactBeadsAt.j2 kj47 t405 t407 t406 true) = some r:=by rw [if_neg (show ¬ (false = true) by decide)] at H;exact H
     clear H
     have H:=H1
     clear H1
     have H':=Aside0.mk H
     clear H
     obtain ⟨Ao113,co113,eo113⟩:=R_slice HO419.out
     subst eo113
     obtain ⟨Ao114,co114,eo114⟩:=R_slice HO_6.out
     subst eo114
     go_wp2_with (first|((with_reducible refine gate_callee (f:=22) rfl ?_);refine goesL_ (some 112) rfl rfl Try.func22 (by kernel_rfl) rfl #[.slice Ao113 t417.length co113,.slice Ao114 t367.length co114] rfl (by (try simp only [List.map_toArray,List.map_cons,List.map_nil]);first|done|rfl|(simp only [List.length_drop,List.length_take];rfl)) ?_;(with_reducible refine (laws_eqIntS.calls kj47 _ _ t417 _ _ t367 false _ ?side1 ?side2 ?side3 ?side4 A101.out).mono ?_);(case side1=>exact cm (R_reads' HO419.out).2.2);(case side2=>exact (R_reads' HO419.out).2.1);(case side3=>exact cm (R_reads' HO_6.out).2.2);(case side4=>exact (R_reads' HO_6.out).2.1);rintro e w' ⟨rfl,⟨nd,rfl⟩⟩;refine ⟨_,rfl,?_⟩))
     go_meet
     case rel=>exact ⟨_,(true),(by first|rfl|(simp;done)|(simp [*];done)),H',⟨by have:=HJ11.out;have:=HJ47.out;first|omega|exact Nat.le_refl _⟩,⟨by (try simp only [hl382001_47]);(try simp only [hl382002_47]);(with_reducible repeat (first|apply R_alloc|apply R_drewN|apply R_drew));exact R_mono HO_10.out (fun _ hk=>⟨hk.1.1.1.1.2.2.1,⟨hk.1.1.1.1.2.2.2.1,hk.1.1.1.1.2.2.2.2⟩⟩)⟩,⟨by (try simp only [hl382001_47]);(try simp only [hl382002_47]);(with_reducible repeat (first|apply R_alloc|apply R_drewN|apply R_drew));exact R_mono HO_11.out (fun _ hk=>⟨hk.1.1.1.1.2.2.1,⟨hk.1.1.1.1.2.2.2.1,hk.1.1.1.1.2.2.2.2⟩⟩)⟩,⟨by (try simp only [hl382001_47]);(try simp only [hl382002_47]);(with_reducible repeat (first|apply R_alloc|apply R_drewN|apply R_drew));exact R_mono HO_382001.out (fun _ hk=>⟨hk.1.1.1.1.2.2.1,⟨hk.1.1.1.1.2.2.2.1,hk.1.1.1.1.2.2.2.2⟩⟩)⟩,⟨by (try simp only [hl382001_47]);(try simp only [hl382002_47]);(with_reducible repeat (first|apply R_alloc|apply R_drewN|apply R_drew));exact R_mono HO_382002.out (fun _ hk=>⟨hk.1.1.1.1.2.2.1,⟨hk.1.1.1.1.2.2.2.1,hk.1.1.1.1.2.2.2.2⟩⟩)⟩,⟨by (try simp only [hl382001_47]);(try simp only [hl382002_47]);(with_reducible repeat (first|apply blk_drewN|apply blk_drew|apply blk_alloc));exact BK358.out⟩,⟨by (try simp only [hl382001_47]);(try simp only [hl382002_47]);(with_reducible repeat (first|apply blk_drewN|apply blk_drew|apply blk_alloc));exact BK381.out⟩,⟨h2 HB.out GE358.out GE381.out⟩⟩
    subst c102
    have H1 : ((laws_eqIntS.f kj47 t420 t370).bind fun t425=>(if t425 = true then (laws_FnExactBeadsAt.j2 kj47 t405 t407 t406 (t423 != t373)) else (laws_FnExactBeadsAt.j2 kj47 t405 t407 t406 true))) = some r:=by rw [if_pos rfl] at H;exact H
    clear H
    have H:=H1
    clear H1
    replace H:=Option.bind_eq_some_iff.mp H
    obtain ⟨t425,A1030,H⟩:=H
    replace H : (if t425 = true then (laws_FnExactBeadsAt.j2 kj47 t405 t407 t406 (t423 != t373)) else (laws_FnExactBeadsAt.j2 kj47 t405 t407 t406 true)) = some r:=H
    have A103:=Aside0.mk A1030
    clear A1030
    by_cases c104 : t425 = true
    ·subst c104
     have H1 : (laws_FnExactBeadsAt.j2 kj47 t405 t407 t406 (t423 != t373)) = some r:=by rw [if_pos rfl] at H;exact H
     clear H
     have H:=H1
     clear H1
     have H':=Aside0.mk H
     clear H
     obtain ⟨Ao105,co105,eo105⟩:=R_slice HO419.out
     subst eo105
     obtain ⟨Ao106,co106,eo106⟩:=R_slice HO_6.out
     subst eo106
     go_wp2_with (first|((with_reducible refine gate_callee (f:=22) rfl ?_);refine goesL_ (some 112) rfl rfl Try.func22 (by kernel_rfl) rfl #[.slice Ao105 t417.length co105,.slice Ao106 t367.length co106] rfl (by (try simp only [List.map_toArray,List.map_cons,List.map_nil]);first|done|rfl|(simp only [List.length_drop,List.length_take];rfl)) ?_;(with_reducible refine (laws_eqIntS.calls kj47 _ _ t417 _ _ t367 true _ ?side1 ?side2 ?side3 ?side4 A101.out).mono ?_);(case side1=>exact cm (R_reads' HO419.out).2.2);(case side2=>exact (R_reads' HO419.out).2.1);(case side3=>exact cm (R_reads' HO_6.out).2.2);(case side4=>exact (R_reads' HO_6.out).2.1);rintro e w' ⟨rfl,⟨nd,rfl⟩⟩;refine ⟨_,rfl,?_⟩;obtain ⟨Ao107,co107,eo107⟩:=R_slice HO422.out;subst eo107;obtain ⟨Ao108,co108,eo108⟩:=R_slice HO_7.out;subst eo108)|(go_at_call 22;(with_reducible refine (laws_eqIntS.calls kj47 _ _ t420 _ _ t370 true _ ?side1 ?side2 ?side3 ?side4 A103.out).mono ?_);(case side1=>exact cm (R_reads' HO422.out).2.2);(case side2=>exact (R_reads' HO422.out).2.1);(case side3=>exact cm (R_reads' HO_7.out).2.2);(case side4=>exact (R_reads' HO_7.out).2.1);rintro e w' ⟨rfl,⟨nd,rfl⟩⟩))
     go_meet
     case rel=>exact ⟨_,((t423 != t373)),(by first|rfl|(simp;done)|(simp [*];done)),H',⟨by have:=HJ11.out;have:=HJ47.out;first|omega|exact Nat.le_refl _⟩,⟨by (try simp only [hl382001_47]);(try simp only [hl382002_47]);(with_reducible repeat (first|apply R_alloc|apply R_drewN|apply R_drew));exact R_mono HO_10.out (fun _ hk=>⟨hk.1.1.1.1.2.2.1,⟨hk.1.1.1.1.2.2.2.1,hk.1.1.1.1.2.2.2.2⟩⟩)⟩,⟨by (try simp only [hl382001_47]);(try simp only [hl382002_47]);(with_reducible repeat (first|apply R_alloc|apply R_drewN|apply R_drew));exact R_mono HO_11.out (fun _ hk=>⟨hk.1.1.1.1.2.2.1,⟨hk.1.1.1.1.2.2.2.1,hk.1.1.1.1.2.2.2.2⟩⟩)⟩,⟨by (try simp only [hl382001_47]);(try simp only [hl382002_47]);(with_reducible repeat (first|apply R_alloc|apply R_drewN|apply R_drew));exact R_mono HO_382001.out (fun _ hk=>⟨hk.1.1.1.1.2.2.1,⟨hk.1.1.1.1.2.2.2.1,hk.1.1.1.1.2.2.2.2⟩⟩)⟩,⟨by (try simp only [hl382001_47]);(try simp only [hl382002_47]);(with_reducible repeat (first|apply R_alloc|apply R_drewN|apply R_drew));exact R_mono HO_382002.out (fun _ hk=>⟨hk.1.1.1.1.2.2.1,⟨hk.1.1.1.1.2.2.2.1,hk.1.1.1.1.2.2.2.2⟩⟩)⟩,⟨by (try simp only [hl382001_47]);(try simp only [hl382002_47]);(with_reducible repeat (first|apply blk_drewN|apply blk_drew|apply blk_alloc));exact BK358.out⟩,⟨by (try simp only [hl382001_47]);(try simp only [hl382002_47]);(with_reducible repeat (first|apply blk_drewN|apply blk_drew|apply blk_alloc));exact BK381.out⟩,⟨h2 HB.out GE358.out GE381.out⟩⟩
    replace c104:=Bool.eq_false_iff.mpr c104
    subst c104
    have H1 : (laws_FnExactBeadsAt.j2 kj47 t405 t407 t406 true) = some r:=by rw [if_neg (show ¬ (false = true) by decide)] at H;exact H
    clear H
    have H:=H1
    clear H1
    have H':=Aside0.mk H
    clear H
    obtain ⟨Ao109,co109,eo109⟩:=R_slice HO419.out
    subst eo109
    obtain ⟨Ao110,co110,eo110⟩:=R_slice HO_6.out
    subst eo110
    go_wp2_with (first|((with_reducible refine gate_callee (f:=22) rfl ?_);refine goesL_ (some 112) rfl rfl Try.func22 (by kernel_rfl) rfl #[.slice Ao109 t417.length co109,.slice Ao110 t367.length co110] rfl (by (try simp only [List.map_toArray,List.map_cons,List.map_nil]);first|done|rfl|(simp only [List.length_drop,List.length_take];rfl)) ?_;(with_reducible refine (laws_eqIntS.calls kj47 _ _ t417 _ _ t367 true _ ?side1 ?side2 ?side3 ?side4 A101.out).mono ?_);(case side1=>exact cm (R_reads' HO419.out).2.2);(case side2=>exact (R_reads' HO419.out).2.1);(case side3=>exact cm (R_reads' HO_6.out).2.2);(case side4=>exact (R_reads' HO_6.out).2.1);rintro e w' ⟨rfl,⟨nd,rfl⟩⟩;refine ⟨_,rfl,?_⟩;obtain ⟨Ao111,co111,eo111⟩:=R_slice HO422.out;subst eo111;obtain ⟨Ao112,co112,eo112⟩:=R_slice HO_7.out;subst eo112)|(go_at_call 22;(with_reducible refine (laws_eqIntS.calls kj47 _ _ t420 _ _ t370 false _ ?side1 ?side2 ?side3 ?side4 A103.out).mono ?_);(case side1=>exact cm (R_reads' HO422.out).2.2);(case side2=>exact (R_reads' HO422.out).2.1);(case side3=>exact cm (R_reads' HO_7.out).2.2);(case side4=>exact (R_reads' HO_7.out).2.1);rintro e w' ⟨rfl,⟨nd,rfl⟩⟩))
    go_meet
    case rel=>exact ⟨_,(true),(by first|rfl|(simp;done)|(simp [*];done)),H',⟨by have:=HJ11.out;have:=HJ47.out;first|omega|exact Nat.le_refl _⟩,⟨by (try simp only [hl382001_47]);(try simp only [hl382002_47]);(with_reducible repeat (first|apply R_alloc|apply R_drewN|apply R_drew));exact R_mono HO_10.out (fun _ hk=>⟨hk.1.1.1.1.2.2.1,⟨hk.1.1.1.1.2.2.2.1,hk.1.1.1.1.2.2.2.2⟩⟩)⟩,⟨by (try simp only [hl382001_47]);(try simp only [hl382002_47]);(with_reducible repeat (first|apply R_alloc|apply R_drewN|apply R_drew));exact R_mono HO_11.out (fun _ hk=>⟨hk.1.1.1.1.2.2.1,⟨hk.1.1.1.1.2.2.2.1,hk.1.1.1.1.2.2.2.2⟩⟩)⟩,⟨by (try simp only [hl382001_47]);(try simp only [hl382002_47]);(with_reducible repeat (first|apply R_alloc|apply R_drewN|apply R_drew));exact R_mono HO_382001.out (fun _ hk=>⟨hk.1.1.1.1.2.2.1,⟨hk.1.1.1.1.2.2.2.1,hk.1.1.1.1.2.2.2.2⟩⟩)⟩,⟨by (try simp only [hl382001_47]);(try simp only [hl382002_47]);(with_reducible repeat (first|apply R_alloc|apply R_drewN|apply R_drew));exact R_mono HO_382002.out (fun _ hk=>⟨hk.1.1.1.1.2.2.1,⟨hk.1.1.1.1.2.2.2.1,hk.1.1.1.1.2.2.2.2⟩⟩)⟩,⟨by (try simp only [hl382001_47]);(try simp only [hl382002_47]);(with_reducible repeat (first|apply blk_drewN|apply blk_drew|apply blk_alloc));exact BK358.out⟩,⟨by (try simp only [hl382001_47]);(try simp only [hl382002_47]);(with_reducible repeat (first|apply blk_drewN|apply blk_drew|apply blk_alloc));exact BK381.out⟩,⟨h2 HB.out GE358.out GE381.out⟩⟩
   clear HC90
   try clear c1
   try clear c2
   try clear p2
   try clear c3
   try clear c4
   try clear c4b0
   try clear c5
   try clear c6
   try clear c7
   try clear c8
   try clear c9
   try clear c10
   try clear c11
   try clear c13
   try clear c15
   try clear c22
   try clear c23
   try clear c24
   try clear c25
   try clear c30
   try clear c31
   try clear c32
   try clear c43
   try clear c46
   try clear c54
   try clear c57
   try clear c57b0
   try clear c59
   try clear c61
   try clear c72
   try clear c76
   try clear c76b0
   try clear c82
   try clear c82b0
   try clear c87
   try clear c87b0
   try clear c87b1
   try clear c95
   try clear c102
   try clear c104
   try clear hcz14_0
   try clear hcz14_1
   try clear hcz14_2
   try clear hcz16_0
   try clear hcz16_1
   try clear hcz16_2
   try clear hcz21_0
   try clear hcz21_1
   try clear hcz21_2
   try clear hcz25_0
   try clear hcz25_1
   try clear hcz25_2
   try clear hcz55_0
   try clear hcz55_1
   try clear hcz55_2
   try clear hcz6_0
   try clear hcz6_1
   try clear hcz6_2
   try clear hcz96_0
   try clear hcz96_1
   try clear hcz96_2
   try clear hfz14_0
   try clear hfz14_1
   try clear hfz14_2
   try clear hfz16_0
   try clear hfz16_1
   try clear hfz16_2
   try clear hfz21_0
   try clear hfz21_1
   try clear hfz21_2
   try clear hfz25_0
   try clear hfz25_1
   try clear hfz25_2
   try clear hfz55_0
   try clear hfz55_1
   try clear hfz55_2
   try clear hfz6_0
   try clear hfz6_1
   try clear hfz6_2
   try clear hfz96_0
   try clear hfz96_1
   try clear hfz96_2
   try clear p2
   obtain ⟨kq,x124_89,rfl,HA,HJ89,HO_10,HO_11,HO_382001,HO_382002,BK358,BK381,HB⟩:=hcut
   have hl10_89:=(R_reads' HO_10.out).1
   rw [hl10_89] at HO_10
   (try simp only [hl10_89])
   (try simp only [hl10_89] at BK358)
   (try simp only [hl10_89] at BK381)
   (try simp only [hl10_89] at HO_11)
   (try simp only [hl10_89] at HO_382001)
   (try simp only [hl10_89] at HO_382002)
   have hl11_89:=(R_reads' HO_11.out).1
   rw [hl11_89] at HO_11
   (try simp only [hl11_89])
   (try simp only [hl11_89] at BK358)
   (try simp only [hl11_89] at BK381)
   (try simp only [hl11_89] at HO_10)
   (try simp only [hl11_89] at HO_382001)
   (try simp only [hl11_89] at HO_382002)
   cases kq with
   | zero=>exact absurd HA.out (by simp [laws_FnExactBeadsAt.j2])
   | succ kj89 =>
    have H:=HA.out
    clear HA
    simp only [laws_FnExactBeadsAt.j2] at H
    by_cases c115 : x124_89 = true
    ·subst c115
     have H1 : (some false) = some r:=by rw [if_pos rfl] at H;exact H
     clear H
     have H:=H1
     clear H1
     obtain rfl:=Option.some.inj H
     go_wp2
     go_ret
     exact ⟨by first|rfl|(simp [errW_none,errW_some] <;> rfl)|(simp [*,errW_none,errW_some] <;> rfl),h2 HB.out GE358.out GE381.out⟩
    replace c115:=Bool.eq_false_iff.mpr c115
    subst c115
    have H1 : ((laws_heldIntS.f kj89 t405 1).bind fun t426=>(if t426 < 0 then (some false) else ((laws_heldIntS.f kj89 t407 t426).bind fun t427=>(if t427 < 0 then (some false) else (if t427 = t406 then (some true) else (some false)))))) = some r:=by rw [if_neg (show ¬ (false = true) by decide)] at H;exact H
    clear H
    have H:=H1
    clear H1
    replace H:=Option.bind_eq_some_iff.mp H
    obtain ⟨t426,A1160,H⟩:=H
    replace H : (if t426 < 0 then (some false) else ((laws_heldIntS.f kj89 t407 t426).bind fun t427=>(if t427 < 0 then (some false) else (if t427 = t406 then (some true) else (some false))))) = some r:=H
    have A116:=Aside0.mk A1160
    clear A1160
    by_cases c117 : t426 < 0
    ·rw [if_pos c117] at H
     have c117b0 : decide (t426 < 0) = true:=decide_eq_true c117
     clear c117
     obtain rfl:=Option.some.inj H
     go_wp2_with (first|((with_reducible refine gate_callee (f:=25) rfl ?_);refine goesL_ (some 127) rfl rfl Try.func25 (by kernel_rfl) rfl #[.slice Ao91 t405.length co91,.int .i64 1] rfl (by (try simp only [List.map_toArray,List.map_cons,List.map_nil]);first|done|rfl|(simp only [List.length_drop,List.length_take];rfl)) ?_;(with_reducible refine (laws_heldIntS.calls kj89 _ _ t405 1 t426 _ ?side1 ?side2 A116.out).mono ?_);(case side1=>exact cm (R_reads' HO_10.out).2.2);(case side2=>exact (R_reads' HO_10.out).2.1);rintro e w' ⟨rfl,⟨nd,rfl⟩⟩;refine ⟨_,rfl,?_⟩))
     go_ret
     exact ⟨by first|rfl|(simp [errW_none,errW_some] <;> rfl)|(simp [*,errW_none,errW_some] <;> rfl),h2 HB.out GE358.out GE381.out⟩
    rw [if_neg c117] at H
    have c117b0 : decide (t426 < 0) = false:=decide_eq_false c117
    clear c117
    replace H:=Option.bind_eq_some_iff.mp H
    obtain ⟨t427,A1180,H⟩:=H
    replace H : (if t427 < 0 then (some false) else (if t427 = t406 then (some true) else (some false))) = some r:=H
    have A118:=Aside0.mk A1180
    clear A1180
    by_cases c119 : t427 < 0
    ·rw [if_pos c119] at H
     have c119b0 : decide (t427 < 0) = true:=decide_eq_true c119
     clear c119
     obtain rfl:=Option.some.inj H
     go_wp2_with (first|((with_reducible refine gate_callee (f:=25) rfl ?_);refine goesL_ (some 127) rfl rfl Try.func25 (by kernel_rfl) rfl #[.slice Ao91 t405.length co91,.int .i64 1] rfl (by (try simp only [List.map_toArray,List.map_cons,List.map_nil]);first|done|rfl|(simp only [List.length_drop,List.length_take];rfl)) ?_;(with_reducible refine (laws_heldIntS.calls kj89 _ _ t405 1 t426 _ ?side1 ?side2 A116.out).mono ?_);(case side1=>exact cm (R_reads' HO_10.out).2.2);(case side2=>exact (R_reads' HO_10.out).2.1);rintro e w' ⟨rfl,⟨nd,rfl⟩⟩;refine ⟨_,rfl,?_⟩)|((with_reducible refine gate_callee (f:=25) rfl ?_);refine goesL_ (some 132) rfl rfl Try.func25 (by kernel_rfl) rfl #[.slice Ao93 t407.length co93,.int .i64 t426] rfl (by (try simp only [List.map_toArray,List.map_cons,List.map_nil]);first|done|rfl|(simp only [List.length_drop,List.length_take];rfl)) ?_;(with_reducible refine (laws_heldIntS.calls kj89 _ _ t407 t426 t427 _ ?side1 ?side2 A118.out).mono ?_);(case side1=>exact cm (R_reads' HO_11.out).2.2);(case side2=>exact (R_reads' HO_11.out).2.1);rintro e w' ⟨rfl,⟨nd,rfl⟩⟩;refine ⟨_,rfl,?_⟩))
     go_ret
     exact ⟨by first|rfl|(simp [errW_none,errW_some] <;> rfl)|(simp [*,errW_none,errW_some] <;> rfl),h2 HB.out GE358.out GE381.out⟩
    rw [if_neg c119] at H
    have c119b0 : decide (t427 < 0) = false:=decide_eq_false c119
    clear c119
    by_cases c120 : t427 = t406
    rotate_left
    ·rw [if_neg c120] at H
     have c120b0 : (t427 == t406) = false:=beq_eq_false_iff_ne.mpr c120
     have c120b1 : (t427 != t406) = true:=bne_iff_ne.mpr c120
     obtain rfl:=Option.some.inj H
     go_wp2_with (first|((with_reducible refine gate_callee (f:=25) rfl ?_);refine goesL_ (some 127) rfl rfl Try.func25 (by kernel_rfl) rfl #[.slice Ao91 t405.length co91,.int .i64 1] rfl (by (try simp only [List.map_toArray,List.map_cons,List.map_nil]);first|done|rfl|(simp only [List.length_drop,List.length_take];rfl)) ?_;(with_reducible refine (laws_heldIntS.calls kj89 _ _ t405 1 t426 _ ?side1 ?side2 A116.out).mono ?_);(case side1=>exact cm (R_reads' HO_10.out).2.2);(case side2=>exact (R_reads' HO_10.out).2.1);rintro e w' ⟨rfl,⟨nd,rfl⟩⟩;refine ⟨_,rfl,?_⟩)|((with_reducible refine gate_callee (f:=25) rfl ?_);refine goesL_ (some 132) rfl rfl Try.func25 (by kernel_rfl) rfl #[.slice Ao93 t407.length co93,.int .i64 t426] rfl (by (try simp only [List.map_toArray,List.map_cons,List.map_nil]);first|done|rfl|(simp only [List.length_drop,List.length_take];rfl)) ?_;(with_reducible refine (laws_heldIntS.calls kj89 _ _ t407 t426 t427 _ ?side1 ?side2 A118.out).mono ?_);(case side1=>exact cm (R_reads' HO_11.out).2.2);(case side2=>exact (R_reads' HO_11.out).2.1);rintro e w' ⟨rfl,⟨nd,rfl⟩⟩;refine ⟨_,rfl,?_⟩))
     go_ret
     exact ⟨by first|rfl|(simp [errW_none,errW_some] <;> rfl)|(simp [*,errW_none,errW_some] <;> rfl),h2 HB.out GE358.out GE381.out⟩
    rw [if_pos c120] at H
    have c120b0 : (t427 == t406) = true:=beq_iff_eq.mpr c120
    have c120b1 : (t427 != t406) = false:=bne_eq_false_iff_eq.mpr c120
    clear c120
    obtain rfl:=Option.some.inj H
    go_wp2_with (first|((with_reducible refine gate_callee (f:=25) rfl ?_);refine goesL_ (some 127) rfl rfl Try.func25 (by kernel_rfl) rfl #[.slice Ao91 t405.length co91,.int .i64 1] rfl (by (try simp only [List.map_toArray,List.map_cons,List.map_nil]);first|done|rfl|(simp only [List.length_drop,List.length_take];rfl)) ?_;(with_reducible refine (laws_heldIntS.calls kj89 _ _ t405 1 t426 _ ?side1 ?side2 A116.out).mono ?_);(case side1=>exact cm (R_reads' HO_10.out).2.2);(case side2=>exact (R_reads' HO_10.out).2.1);rintro e w' ⟨rfl,⟨nd,rfl⟩⟩;refine ⟨_,rfl,?_⟩)|((with_reducible refine gate_callee (f:=25) rfl ?_);refine goesL_ (some 132) rfl rfl Try.func25 (by kernel_rfl) rfl #[.slice Ao93 t407.length co93,.int .i64 t426] rfl (by (try simp only [List.map_toArray,List.map_cons,List.map_nil]);first|done|rfl|(simp only [List.length_drop,List.length_take];rfl)) ?_;(with_reducible refine (laws_heldIntS.calls kj89 _ _ t407 t426 t427 _ ?side1 ?side2 A118.out).mono ?_);(case side1=>exact cm (R_reads' HO_11.out).2.2);(case side2=>exact (R_reads' HO_11.out).2.1);rintro e w' ⟨rfl,⟨nd,rfl⟩⟩;refine ⟨_,rfl,?_⟩))
    go_ret
    exact ⟨by first|rfl|(simp [errW_none,errW_some] <;> rfl)|(simp [*,errW_none,errW_some] <;> rfl),h2 HB.out GE358.out GE381.out⟩


end
end Go.Proofs.Ytciihopkgblpkaa.QFnExactBeadsAt
