/- Functions that the law FnExactFallsOf comes to, as Lean functions, with the proof that the Go code does what they say: written by a program of this session over the kit's print. No condition but those named. -/
import Derived.Test.YtciihopkgblpkaaQFnExactFallsOfx0
import Derived.Test.YtciihopkgblpkaaQFnExactFallsOfx1
import Derived.Test.YtciihopkgblpkaaQFnExactFallsOfx3
import Derived.Test.YtciihopkgblpkaaQFnExactFallsOfx7
namespace Go.Proofs.Ytciihopkgblpkaa.QFnExactFallsOf
open Go.RowKit Go.Proofs.YtciihopkgblpkaaW.PrintWords Go.Proofs.YtciihopkgblpkaaW.PrintLast Go.Proofs.YtciihopkgblpkaaW.PrintMore
attribute [local go_sem] max2_int min2_int max_two min_two max_three min_three max_four min_four   -- for this text's walks alone
set_option linter.unusedVariables false
set_option linter.unusedSimpArgs false

/-! ### laws_FnExactFallsOf: function 8 -/
section
open Kd
mutual
def laws_FnExactFallsOf.j0 : Nat → List Int → List Int → Bool → List Int → List Int → Bool → Bool → Int → List Int → List Int → Int → List Int → List Int → Option (Bool)
 | 0,_,_,_,_,_,_,_,_,_,_,_,_,_=>none
 | k + 1,x4,x5,x6,x8,x9,x10,x51,x251000,x251001,x251002,x274000,x274001,x274002=>if x51 = true then (some false) else ((laws_toWire.f k x251000 x251001 x251002).bind fun bt283=>((laws_eqWire.f k x274000 x274001 x274002 bt283.1 bt283.2.1 bt283.2.2).bind fun t290=>(if t290 = true then ((laws_markWire.f k x274000 x274001 x274002 1).bind fun bt291=>(if bt291.1 < 0 then (laws_FnExactFallsOf.j1 k x4 x5 x6 x8 x9 true x251000 x251001 x251002) else ((laws_eqIntS.f k x8 x4).bind fun t294=>(if t294 = true then ((laws_eqIntS.f k x9 x5).bind fun t295=>(if t295 = true then (laws_FnExactFallsOf.j1 k x4 x5 x6 x8 x9 (x10 != x6) x251000 x251001 x251002) else (laws_FnExactFallsOf.j1 k x4 x5 x6 x8 x9 true x251000 x251001 x251002))) else (laws_FnExactFallsOf.j1 k x4 x5 x6 x8 x9 true x251000 x251001 x251002))))) else (some false))))
def laws_FnExactFallsOf.j1 : Nat → List Int → List Int → Bool → List Int → List Int → Bool → Int → List Int → List Int → Option (Bool)
 | 0,_,_,_,_,_,_,_,_,_=>none
 | k + 1,x4,x5,x6,x8,x9,x78,x251000,x251001,x251002=>if x78 = true then (some false) else ((laws_markIntS.f k x8 1).bind fun bt296=>((laws_markIntS.f k x9 bt296.1).bind fun bt298=>((laws_heldIntS.f k bt296.2 1).bind fun t300=>(if t300 < 0 then (some false) else ((laws_heldIntS.f k bt298.2 t300).bind fun t301=>(if t301 < 0 then (some false) else (if t301 = bt298.1 then ((laws_toWire.f k x251000 x251001 x251002).bind fun bt302=>((impl_FallsOf.f k bt302.1 bt302.2.1 bt302.2.2).bind fun bt309=>((laws_eqIntS.f k bt309.1 x4).bind fun t316=>(if t316 = true then ((laws_eqIntS.f k bt309.2.1 x5).bind fun t317=>(if t317 = true then (laws_FnExactFallsOf.j2 k bt296.2 bt298.2 bt298.1 (bt309.2.2 != x6)) else (laws_FnExactFallsOf.j2 k bt296.2 bt298.2 bt298.1 true))) else (laws_FnExactFallsOf.j2 k bt296.2 bt298.2 bt298.1 true))))) else (some false))))))))
def laws_FnExactFallsOf.j2 : Nat → List Int → List Int → Int → Bool → Option (Bool)
 | 0,_,_,_,_=>none
 | k + 1,x8,x9,x12,x119=>if x119 = true then (some false) else ((laws_heldIntS.f k x8 1).bind fun t318=>(if t318 < 0 then (some false) else ((laws_heldIntS.f k x9 t318).bind fun t319=>(if t319 < 0 then (some false) else (if t319 = x12 then (some true) else (some false))))))
end
def laws_FnExactFallsOf.f (k : Nat) (a0_0 : Int) (l0_1 : List Int) (l0_2 : List Int) : Option (Bool):=(laws_szWire.f a0_0 l0_1 l0_2 1048576).bind fun t251=>(if t251 < 0 then (some true) else ((laws_toWire.f k a0_0 l0_1 l0_2).bind fun bt252=>((spec_FallsOf.f k bt252.1 bt252.2.1 bt252.2.2).bind fun bt259=>((laws_toWire.f k a0_0 l0_1 l0_2).bind fun bt266=>((impl_FallsOf.f k bt266.1 bt266.2.1 bt266.2.2).bind fun bt274=>((laws_eqIntS.f k bt274.1 bt259.1).bind fun t281=>(if t281 = true then ((laws_eqIntS.f k bt274.2.1 bt259.2.1).bind fun t282=>(if t282 = true then (laws_FnExactFallsOf.j0 k bt259.1 bt259.2.1 bt259.2.2 bt274.1 bt274.2.1 bt274.2.2 (bt274.2.2 != bt259.2.2) a0_0 l0_1 l0_2 bt266.1 bt266.2.1 bt266.2.2) else (laws_FnExactFallsOf.j0 k bt259.1 bt259.2.1 bt259.2.2 bt274.1 bt274.2.1 bt274.2.2 true a0_0 l0_1 l0_2 bt266.1 bt266.2.1 bt266.2.2))) else (laws_FnExactFallsOf.j0 k bt259.1 bt259.2.1 bt259.2.2 bt274.1 bt274.2.1 bt274.2.2 true a0_0 l0_1 l0_2 bt266.1 bt266.2.1 bt266.2.2))))))))
theorem laws_FnExactFallsOf.mono_l : ∀ k,(∀ y0 y1 y2 y3 y4 y5 y6 y7 y8 y9 y10 y11 y12,LeO (laws_FnExactFallsOf.j0 k y0 y1 y2 y3 y4 y5 y6 y7 y8 y9 y10 y11 y12) (laws_FnExactFallsOf.j0 (k + 1) y0 y1 y2 y3 y4 y5 y6 y7 y8 y9 y10 y11 y12)) ∧ (∀ y0 y1 y2 y3 y4 y5 y6 y7 y8,LeO (laws_FnExactFallsOf.j1 k y0 y1 y2 y3 y4 y5 y6 y7 y8) (laws_FnExactFallsOf.j1 (k + 1) y0 y1 y2 y3 y4 y5 y6 y7 y8)) ∧ (∀ y0 y1 y2 y3,LeO (laws_FnExactFallsOf.j2 k y0 y1 y2 y3) (laws_FnExactFallsOf.j2 (k + 1) y0 y1 y2 y3))
 | 0=>⟨fun _ _ _ _ _ _ _ _ _ _ _ _ _ r h=>by simp [laws_FnExactFallsOf.j0] at h,fun _ _ _ _ _ _ _ _ _ r h=>by simp [laws_FnExactFallsOf.j1] at h,fun _ _ _ _ r h=>by simp [laws_FnExactFallsOf.j2] at h⟩
 | k + 1=>by
  obtain ⟨ih0,ih1,ih2⟩:=laws_FnExactFallsOf.mono_l k
  refine ⟨?_,?_,?_⟩
  ·intro y0 y1 y2 y3 y4 y5 y6 y7 y8 y9 y10 y11 y12
   unfold laws_FnExactFallsOf.j0
   repeat' first
   | (with_reducible exact ih0 _ _ _ _ _ _ _ _ _ _ _ _ _)
   | (with_reducible exact ih1 _ _ _ _ _ _ _ _ _)
   | (with_reducible exact ih2 _ _ _ _)
   | (with_reducible exact impl_FallsOf.mono _ _ _ _)
   | (with_reducible exact laws_eqIntS.mono _ _ _)
   | (with_reducible exact laws_eqWire.mono _ _ _ _ _ _ _)
   | (with_reducible exact laws_heldIntS.mono _ _ _)
   | (with_reducible exact laws_markIntS.mono _ _ _)
   | (with_reducible exact laws_markWire.mono _ _ _ _ _)
   | (with_reducible exact laws_toWire.mono _ _ _ _)
   | (with_reducible exact spec_FallsOf.mono _ _ _ _)
   | (with_reducible exact LeO.refl _)
   | (with_reducible exact LeO.none _)
   | (with_reducible refine LeO.ite ?_ ?_)
   | (with_reducible refine LeO.bind ?_ (fun _=>?_))
   | exact ih0 _ _ _ _ _ _ _ _ _ _ _ _ _
   | exact ih1 _ _ _ _ _ _ _ _ _
   | exact ih2 _ _ _ _
   | exact impl_FallsOf.mono _ _ _ _
   | exact laws_eqIntS.mono _ _ _
   | exact laws_eqWire.mono _ _ _ _ _ _ _
   | exact laws_heldIntS.mono _ _ _
   | exact laws_markIntS.mono _ _ _
   | exact laws_markWire.mono _ _ _ _ _
   | exact laws_toWire.mono _ _ _ _
   | exact spec_FallsOf.mono _ _ _ _
   | exact LeO.none _
   | refine LeO.ite ?_ ?_
   | refine LeO.bind ?_ (fun _=>?_)
  ·intro y0 y1 y2 y3 y4 y5 y6 y7 y8
   unfold laws_FnExactFallsOf.j1
   repeat' first
   | (with_reducible exact ih0 _ _ _ _ _ _ _ _ _ _ _ _ _)
   | (with_reducible exact ih1 _ _ _ _ _ _ _ _ _)
   | (with_reducible exact ih2 _ _ _ _)
   | (with_reducible exact impl_FallsOf.mono _ _ _ _)
   | (with_reducible exact laws_eqIntS.mono _ _ _)
   | (with_reducible exact laws_eqWire.mono _ _ _ _ _ _ _)
   | (with_reducible exact laws_heldIntS.mono _ _ _)
   | (with_reducible exact laws_markIntS.mono _ _ _)
   | (with_reducible exact laws_markWire.mono _ _ _ _ _)
   | (with_reducible exact laws_toWire.mono _ _ _ _)
   | (with_reducible exact spec_FallsOf.mono _ _ _ _)
   | (with_reducible exact LeO.refl _)
   | (with_reducible exact LeO.none _)
   | (with_reducible refine LeO.ite ?_ ?_)
   | (with_reducible refine LeO.bind ?_ (fun _=>?_))
   | exact ih0 _ _ _ _ _ _ _ _ _ _ _ _ _
   | exact ih1 _ _ _ _ _ _ _ _ _
   | exact ih2 _ _ _ _
   | exact impl_FallsOf.mono _ _ _ _
   | exact laws_eqIntS.mono _ _ _
   | exact laws_eqWire.mono _ _ _ _ _ _ _
   | exact laws_heldIntS.mono _ _ _
   | exact laws_markIntS.mono _ _ _
   | exact laws_markWire.mono _ _ _ _ _
   | exact laws_toWire.mono _ _ _ _
   | exact spec_FallsOf.mono _ _ _ _
   | exact LeO.none _
   | refine LeO.ite ?_ ?_
   | refine LeO.bind ?_ (fun _=>?_)
  ·intro y0 y1 y2 y3
   unfold laws_FnExactFallsOf.j2
   repeat' first
   | (with_reducible exact ih0 _ _ _ _ _ _ _ _ _ _ _ _ _)
   | (with_reducible exact ih1 _ _ _ _ _ _ _ _ _)
   | (with_reducible exact ih2 _ _ _ _)
   | (with_reducible exact impl_FallsOf.mono _ _ _ _)
   | (with_reducible exact laws_eqIntS.mono _ _ _)
   | (with_reducible exact laws_eqWire.mono _ _ _ _ _ _ _)
   | (with_reducible exact laws_heldIntS.mono _ _ _)
   | (with_reducible exact laws_markIntS.mono _ _ _)
   | (with_reducible exact laws_markWire.mono _ _ _ _ _)
   | (with_reducible exact laws_toWire.mono _ _ _ _)
   | (with_reducible exact spec_FallsOf.mono _ _ _ _)
   | (with_reducible exact LeO.refl _)
   | (with_reducible exact LeO.none _)
   | (with_reducible refine LeO.ite ?_ ?_)
   | (with_reducible refine LeO.bind ?_ (fun _=>?_))
   | exact ih0 _ _ _ _ _ _ _ _ _ _ _ _ _
   | exact ih1 _ _ _ _ _ _ _ _ _
   | exact ih2 _ _ _ _
   | exact impl_FallsOf.mono _ _ _ _
   | exact laws_eqIntS.mono _ _ _
   | exact laws_eqWire.mono _ _ _ _ _ _ _
   | exact laws_heldIntS.mono _ _ _
   | exact laws_markIntS.mono _ _ _
   | exact laws_markWire.mono _ _ _ _ _
   | exact laws_toWire.mono _ _ _ _
   | exact spec_FallsOf.mono _ _ _ _
   | exact LeO.none _
   | refine LeO.ite ?_ ?_
   | refine LeO.bind ?_ (fun _=>?_)
theorem laws_FnExactFallsOf.mono : ∀ a0 a1 a2 k,LeO (laws_FnExactFallsOf.f k a0 a1 a2) (laws_FnExactFallsOf.f (k + 1) a0 a1 a2):=by
 intro a0 a1 a2 k
 obtain ⟨ih0,ih1,ih2⟩:=laws_FnExactFallsOf.mono_l k
 unfold laws_FnExactFallsOf.f
 repeat' first
   | (with_reducible exact ih0 _ _ _ _ _ _ _ _ _ _ _ _ _)
   | (with_reducible exact ih1 _ _ _ _ _ _ _ _ _)
   | (with_reducible exact ih2 _ _ _ _)
   | (with_reducible exact impl_FallsOf.mono _ _ _ _)
   | (with_reducible exact laws_eqIntS.mono _ _ _)
   | (with_reducible exact laws_eqWire.mono _ _ _ _ _ _ _)
   | (with_reducible exact laws_heldIntS.mono _ _ _)
   | (with_reducible exact laws_markIntS.mono _ _ _)
   | (with_reducible exact laws_markWire.mono _ _ _ _ _)
   | (with_reducible exact laws_toWire.mono _ _ _ _)
   | (with_reducible exact spec_FallsOf.mono _ _ _ _)
   | (with_reducible exact LeO.refl _)
   | (with_reducible exact LeO.none _)
   | (with_reducible refine LeO.ite ?_ ?_)
   | (with_reducible refine LeO.bind ?_ (fun _=>?_))
   | exact ih0 _ _ _ _ _ _ _ _ _ _ _ _ _
   | exact ih1 _ _ _ _ _ _ _ _ _
   | exact ih2 _ _ _ _
   | exact impl_FallsOf.mono _ _ _ _
   | exact laws_eqIntS.mono _ _ _
   | exact laws_eqWire.mono _ _ _ _ _ _ _
   | exact laws_heldIntS.mono _ _ _
   | exact laws_markIntS.mono _ _ _
   | exact laws_markWire.mono _ _ _ _ _
   | exact laws_toWire.mono _ _ _ _
   | exact spec_FallsOf.mono _ _ _ _
   | exact LeO.none _
   | refine LeO.ite ?_ ?_
   | refine LeO.bind ?_ (fun _=>?_)
set_option maxHeartbeats 8000000 in
set_option maxRecDepth 100000 in
theorem laws_FnExactFallsOf.calls (k : Nat) (a0_0 : Int) (A0_1 : Option Addr) (c0_1 : Nat) (l0_1 : List Int) (A0_2 : Option Addr) (c0_2 : Nat) (l0_2 : List Int) (r : Bool) (w : World) (hr0_1 : Kd.C (Kd.int .i64) w A0_1 l0_1.length l0_1) (hc0_1 : l0_1.length ≤ c0_1) (hr0_2 : Kd.C (Kd.int .i64) w A0_2 l0_2.length l0_2) (hc0_2 : l0_2.length ≤ c0_2) (h : laws_FnExactFallsOf.f k a0_0 l0_1 l0_2 = some r) :
  Calls Try.prog 8 #[.agg #[.int .i64 a0_0,.slice A0_1 l0_1.length c0_1,.slice A0_2 l0_2.length c0_2]] w fun e w'=>e = .returned (.bool r) ∧ Below w.heap.size w w':=by
 have hu24:=Try.underlying24
 have hu27:=Try.underlying27
 have HR0_1:=Aside0.mk hr0_1
 have HC0_1:=Aside0.mk hc0_1
 clear hr0_1 hc0_1
 have HR0_2:=Aside0.mk hr0_2
 have HC0_2:=Aside0.mk hc0_2
 clear hr0_2 hc0_2
 have HB:=Aside0.mk (Below.refl w.heap.size w)
 have H : ((laws_szWire.f a0_0 l0_1 l0_2 1048576).bind fun t251=>(if t251 < 0 then (some true) else ((laws_toWire.f k a0_0 l0_1 l0_2).bind fun bt252=>((spec_FallsOf.f k bt252.1 bt252.2.1 bt252.2.2).bind fun bt259=>((laws_toWire.f k a0_0 l0_1 l0_2).bind fun bt266=>((impl_FallsOf.f k bt266.1 bt266.2.1 bt266.2.2).bind fun bt274=>((laws_eqIntS.f k bt274.1 bt259.1).bind fun t281=>(if t281 = true then ((laws_eqIntS.f k bt274.2.1 bt259.2.1).bind fun t282=>(if t282 = true then (laws_FnExactFallsOf.j0 k bt259.1 bt259.2.1 bt259.2.2 bt274.1 bt274.2.1 bt274.2.2 (bt274.2.2 != bt259.2.2) a0_0 l0_1 l0_2 bt266.1 bt266.2.1 bt266.2.2) else (laws_FnExactFallsOf.j0 k bt259.1 bt259.2.1 bt259.2.2 bt274.1 bt274.2.1 bt274.2.2 true a0_0 l0_1 l0_2 bt266.1 bt266.2.1 bt266.2.2))) else (laws_FnExactFallsOf.j0 k bt259.1 bt259.2.1 bt259.2.2 bt274.1 bt274.2.1 bt274.2.2 true a0_0 l0_1 l0_2 bt266.1 bt266.2.1 bt266.2.2))))))))) = some r:=h
 clear h
 replace H:=Option.bind_eq_some_iff.mp H
 obtain ⟨t251,A20,H⟩:=H
 replace H : (if t251 < 0 then (some true) else ((laws_toWire.f k a0_0 l0_1 l0_2).bind fun bt252=>((spec_FallsOf.f k bt252.1 bt252.2.1 bt252.2.2).bind fun bt259=>((laws_toWire.f k a0_0 l0_1 l0_2).bind fun bt266=>((impl_FallsOf.f k bt266.1 bt266.2.1 bt266.2.2).bind fun bt274=>((laws_eqIntS.f k bt274.1 bt259.1).bind fun t281=>(if t281 = true then ((laws_eqIntS.f k bt274.2.1 bt259.2.1).bind fun t282=>(if t282 = true then (laws_FnExactFallsOf.j0 k bt259.1 bt259.2.1 bt259.2.2 bt274.1 bt274.2.1 bt274.2.2 (bt274.2.2 != bt259.2.2) a0_0 l0_1 l0_2 bt266.1 bt266.2.1 bt266.2.2) else (laws_FnExactFallsOf.j0 k bt259.1 bt259.2.1 bt259.2.2 bt274.1 bt274.2.1 bt274.2.2 true a0_0 l0_1 l0_2 bt266.1 bt266.2.1 bt266.2.2))) else (laws_FnExactFallsOf.j0 k bt259.1 bt259.2.1 bt259.2.2 bt274.1 bt274.2.1 bt274.2.2 true a0_0 l0_1 l0_2 bt266.1 bt266.2.1 bt266.2.2)))))))) = some r:=H
 have A2:=Aside0.mk A20
 clear A20
 by_cases c3 : t251 < 0
 ·rw [if_pos c3] at H
  have c3b0 : decide (t251 < 0) = true:=decide_eq_true c3
  clear c3
  obtain rfl:=Option.some.inj H
  go_enter Try.func8,Try.ntmps8
  go_wp2_with (first|((with_reducible refine gate_dst (N:=1) rfl ?_);refine box_event ?hg (N:=1) ?hd (cs:=#[.int .i64 a0_0,.slice A0_1 l0_1.length c0_1,.slice A0_2 l0_2.length c0_2]) (t:=24) ?hr ?_;(case hd=>rfl);(case hg=>rfl);(case hr=>first|(go_simp;done)|(go_simp;rfl));intro gb250 hg w4 hbox hb;have n0_:=Aside0.mk (below_step (by repeat (first|(with_reducible first|exact HB.out|apply below_alloc|apply pw_below_drewN|apply below_drew1)|exact HB.out)) hb);have n1_:=Aside0.mk (hbox);have n2_:=Aside0.mk ((by rw [hg];exact (below_size (by repeat (first|(with_reducible first|exact HB.out|apply below_alloc|apply pw_below_drewN|apply below_drew1)|exact HB.out))) : w.heap.size ≤ gb250));have n3_:=Aside0.mk ((by rw [hg];exact (below_size (by repeat (first|(with_reducible first|exact HB.out|apply below_alloc|apply pw_below_drewN|apply below_drew1)|exact HB.out))) : w.heap.size ≤ gb250));clear HB;have HB:=n0_;have BK250:=n1_;have GW250:=n2_;have GE250:=n3_;clear n0_ n1_ n2_ n3_;clear hb hbox hg;have hcz5_0 : w4.cell? ⟨gb250,0,none⟩ = some (.int .i64 a0_0):=(blk_cell BK250.out 0).trans rfl;have hcz5_1 : w4.cell? ⟨gb250,1,none⟩ = some (.slice A0_1 l0_1.length c0_1):=(blk_cell BK250.out 1).trans rfl;have hcz5_2 : w4.cell? ⟨gb250,2,none⟩ = some (.slice A0_2 l0_2.length c0_2):=(blk_cell BK250.out 2).trans rfl;have hfz5_0:=blk_frozen BK250.out 0;have hfz5_1:=blk_frozen BK250.out 1;have hfz5_2:=blk_frozen BK250.out 2)|((with_reducible refine gate_callee (f:=11) rfl ?_);refine goesL_ (some 19) rfl rfl Try.func11 (by kernel_rfl) rfl #[.agg #[.int .i64 a0_0,.slice A0_1 l0_1.length c0_1,.slice A0_2 l0_2.length c0_2],.int .i64 1048576] rfl (by (try simp only [List.map_toArray,List.map_cons,List.map_nil]);first|done|rfl|(simp only [List.length_drop,List.length_take];rfl)) ?_;(with_reducible refine (laws_szWire.calls a0_0 _ _ l0_1 _ _ l0_2 1048576 t251 _ ?side1 ?side2 ?side3 ?side4 A2.out).mono ?_);(case side1=>repeat (first|exact (C_below HR0_1.out HB.out)|(with_reducible refine C_alloc ?_ _)|(with_reducible refine C_drewN ?_ _)|(with_reducible refine C_drew ?_)));(case side2=>exact HC0_1.out);(case side3=>repeat (first|exact (C_below HR0_2.out HB.out)|(with_reducible refine C_alloc ?_ _)|(with_reducible refine C_drewN ?_ _)|(with_reducible refine C_drew ?_)));(case side4=>exact HC0_2.out);rintro e w6 ⟨rfl,hb⟩;refine ⟨_,rfl,?_⟩;have n0_:=Aside0.mk (blk_below (g:=gb250) (o:=.cells #[.int .i64 a0_0,.slice A0_1 l0_1.length c0_1,.slice A0_2 l0_2.length c0_2] 24 (0,0)) (by (with_reducible repeat (first|apply blk_drewN|apply blk_drew|apply blk_alloc));exact BK250.out) hb);have n1_:=Aside0.mk (below_step (by repeat (first|(with_reducible first|exact HB.out|apply below_alloc|apply pw_below_drewN|apply below_drew1|refine below_set ?_ GE250.out)|exact HB.out)) hb);clear BK250;clear HB;have BK250:=n0_;have HB:=n1_;clear n0_ n1_;(try clear hb);(try clear hb2);(try clear hk);(try clear hi)))
  go_ret
  exact ⟨by first|rfl|(simp [errW_none,errW_some] <;> rfl)|(simp [*,errW_none,errW_some] <;> rfl),by repeat (first|(with_reducible first|exact HB.out|apply below_alloc|apply pw_below_drewN|apply below_drew1|refine below_set ?_ GE250.out)|exact HB.out)⟩
 rw [if_neg c3] at H
 have c3b0 : decide (t251 < 0) = false:=decide_eq_false c3
 clear c3
 replace H:=Option.bind_eq_some_iff.mp H
 obtain ⟨⟨t252,t253,t256⟩,A70,H⟩:=H
 replace H : ((spec_FallsOf.f k t252 t253 t256).bind fun bt259=>((laws_toWire.f k a0_0 l0_1 l0_2).bind fun bt266=>((impl_FallsOf.f k bt266.1 bt266.2.1 bt266.2.2).bind fun bt274=>((laws_eqIntS.f k bt274.1 bt259.1).bind fun t281=>(if t281 = true then ((laws_eqIntS.f k bt274.2.1 bt259.2.1).bind fun t282=>(if t282 = true then (laws_FnExactFallsOf.j0 k bt259.1 bt259.2.1 bt259.2.2 bt274.1 bt274.2.1 bt274.2.2 (bt274.2.2 != bt259.2.2) a0_0 l0_1 l0_2 bt266.1 bt266.2.1 bt266.2.2) else (laws_FnExactFallsOf.j0 k bt259.1 bt259.2.1 bt259.2.2 bt274.1 bt274.2.1 bt274.2.2 true a0_0 l0_1 l0_2 bt266.1 bt266.2.1 bt266.2.2))) else (laws_FnExactFallsOf.j0 k bt259.1 bt259.2.1 bt259.2.2 bt274.1 bt274.2.1 bt274.2.2 true a0_0 l0_1 l0_2 bt266.1 bt266.2.1 bt266.2.2)))))) = some r:=H
 have A7:=Aside0.mk A70
 clear A70
 replace H:=Option.bind_eq_some_iff.mp H
 obtain ⟨⟨t259,t262,t265⟩,A80,H⟩:=H
 replace H : ((laws_toWire.f k a0_0 l0_1 l0_2).bind fun bt266=>((impl_FallsOf.f k bt266.1 bt266.2.1 bt266.2.2).bind fun bt274=>((laws_eqIntS.f k bt274.1 t259).bind fun t281=>(if t281 = true then ((laws_eqIntS.f k bt274.2.1 t262).bind fun t282=>(if t282 = true then (laws_FnExactFallsOf.j0 k t259 t262 t265 bt274.1 bt274.2.1 bt274.2.2 (bt274.2.2 != t265) a0_0 l0_1 l0_2 bt266.1 bt266.2.1 bt266.2.2) else (laws_FnExactFallsOf.j0 k t259 t262 t265 bt274.1 bt274.2.1 bt274.2.2 true a0_0 l0_1 l0_2 bt266.1 bt266.2.1 bt266.2.2))) else (laws_FnExactFallsOf.j0 k t259 t262 t265 bt274.1 bt274.2.1 bt274.2.2 true a0_0 l0_1 l0_2 bt266.1 bt266.2.1 bt266.2.2))))) = some r:=H
 have A8:=Aside0.mk A80
 clear A80
 replace H:=Option.bind_eq_some_iff.mp H
 obtain ⟨⟨t266,t267,t270⟩,A90,H⟩:=H
 replace H : ((impl_FallsOf.f k t266 t267 t270).bind fun bt274=>((laws_eqIntS.f k bt274.1 t259).bind fun t281=>(if t281 = true then ((laws_eqIntS.f k bt274.2.1 t262).bind fun t282=>(if t282 = true then (laws_FnExactFallsOf.j0 k t259 t262 t265 bt274.1 bt274.2.1 bt274.2.2 (bt274.2.2 != t265) a0_0 l0_1 l0_2 t266 t267 t270) else (laws_FnExactFallsOf.j0 k t259 t262 t265 bt274.1 bt274.2.1 bt274.2.2 true a0_0 l0_1 l0_2 t266 t267 t270))) else (laws_FnExactFallsOf.j0 k t259 t262 t265 bt274.1 bt274.2.1 bt274.2.2 true a0_0 l0_1 l0_2 t266 t267 t270)))) = some r:=H
 have A9:=Aside0.mk A90
 clear A90
 replace H:=Option.bind_eq_some_iff.mp H
 obtain ⟨⟨t274,t277,t280⟩,A100,H⟩:=H
 replace H : ((laws_eqIntS.f k t274 t259).bind fun t281=>(if t281 = true then ((laws_eqIntS.f k t277 t262).bind fun t282=>(if t282 = true then (laws_FnExactFallsOf.j0 k t259 t262 t265 t274 t277 t280 (t280 != t265) a0_0 l0_1 l0_2 t266 t267 t270) else (laws_FnExactFallsOf.j0 k t259 t262 t265 t274 t277 t280 true a0_0 l0_1 l0_2 t266 t267 t270))) else (laws_FnExactFallsOf.j0 k t259 t262 t265 t274 t277 t280 true a0_0 l0_1 l0_2 t266 t267 t270))) = some r:=H
 have A10:=Aside0.mk A100
 clear A100
 have HC11:=Aside0.mk H
 clear H
 go_enter Try.func8,Try.ntmps8
 go_upto_region 8 with (first|((with_reducible refine gate_dst (N:=1) rfl ?_);refine box_event ?hg (N:=1) ?hd (cs:=#[.int .i64 a0_0,.slice A0_1 l0_1.length c0_1,.slice A0_2 l0_2.length c0_2]) (t:=24) ?hr ?_;(case hd=>rfl);(case hg=>rfl);(case hr=>first|(go_simp;done)|(go_simp;rfl));intro gb250 hg w12 hbox hb;have n0_:=Aside0.mk (below_step (by repeat (first|(with_reducible first|exact HB.out|apply below_alloc|apply pw_below_drewN|apply below_drew1)|exact HB.out)) hb);have n1_:=Aside0.mk (hbox);have n2_:=Aside0.mk ((by rw [hg];exact (below_size (by repeat (first|(with_reducible first|exact HB.out|apply below_alloc|apply pw_below_drewN|apply below_drew1)|exact HB.out))) : w.heap.size ≤ gb250));have n3_:=Aside0.mk ((by rw [hg];exact (below_size (by repeat (first|(with_reducible first|exact HB.out|apply below_alloc|apply pw_below_drewN|apply below_drew1)|exact HB.out))) : w.heap.size ≤ gb250));clear HB;have HB:=n0_;have BK250:=n1_;have GW250:=n2_;have GE250:=n3_;clear n0_ n1_ n2_ n3_;clear hb hbox hg;have hcz13_0 : w12.cell? ⟨gb250,0,none⟩ = some (.int .i64 a0_0):=(blk_cell BK250.out 0).trans rfl;have hcz13_1 : w12.cell? ⟨gb250,1,none⟩ = some (.slice A0_1 l0_1.length c0_1):=(blk_cell BK250.out 1).trans rfl;have hcz13_2 : w12.cell? ⟨gb250,2,none⟩ = some (.slice A0_2 l0_2.length c0_2):=(blk_cell BK250.out 2).trans rfl;have hfz13_0:=blk_frozen BK250.out 0;have hfz13_1:=blk_frozen BK250.out 1;have hfz13_2:=blk_frozen BK250.out 2)|((with_reducible refine gate_callee (f:=11) rfl ?_);refine goesL_ (some 19) rfl rfl Try.func11 (by kernel_rfl) rfl #[.agg #[.int .i64 a0_0,.slice A0_1 l0_1.length c0_1,.slice A0_2 l0_2.length c0_2],.int .i64 1048576] rfl (by (try simp only [List.map_toArray,List.map_cons,List.map_nil]);first|done|rfl|(simp only [List.length_drop,List.length_take];rfl)) ?_;(with_reducible refine (laws_szWire.calls a0_0 _ _ l0_1 _ _ l0_2 1048576 t251 _ ?side1 ?side2 ?side3 ?side4 A2.out).mono ?_);(case side1=>repeat (first|exact (C_below HR0_1.out HB.out)|(with_reducible refine C_alloc ?_ _)|(with_reducible refine C_drewN ?_ _)|(with_reducible refine C_drew ?_)));(case side2=>exact HC0_1.out);(case side3=>repeat (first|exact (C_below HR0_2.out HB.out)|(with_reducible refine C_alloc ?_ _)|(with_reducible refine C_drewN ?_ _)|(with_reducible refine C_drew ?_)));(case side4=>exact HC0_2.out);rintro e w14 ⟨rfl,hb⟩;refine ⟨_,rfl,?_⟩;have n0_:=Aside0.mk (blk_below (g:=gb250) (o:=.cells #[.int .i64 a0_0,.slice A0_1 l0_1.length c0_1,.slice A0_2 l0_2.length c0_2] 24 (0,0)) (by (with_reducible repeat (first|apply blk_drewN|apply blk_drew|apply blk_alloc));exact BK250.out) hb);have n1_:=Aside0.mk (below_step (by repeat (first|(with_reducible first|exact HB.out|apply below_alloc|apply pw_below_drewN|apply below_drew1|refine below_set ?_ GE250.out)|exact HB.out)) hb);clear BK250;clear HB;have BK250:=n0_;have HB:=n1_;clear n0_ n1_;(try clear hb);(try clear hb2);(try clear hk);(try clear hi);have hcz15_0 : w14.cell? ⟨gb250,0,none⟩ = some (.int .i64 a0_0):=(blk_cell BK250.out 0).trans rfl;have hcz15_1 : w14.cell? ⟨gb250,1,none⟩ = some (.slice A0_1 l0_1.length c0_1):=(blk_cell BK250.out 1).trans rfl;have hcz15_2 : w14.cell? ⟨gb250,2,none⟩ = some (.slice A0_2 l0_2.length c0_2):=(blk_cell BK250.out 2).trans rfl;have hfz15_0:=blk_frozen BK250.out 0;have hfz15_1:=blk_frozen BK250.out 1;have hfz15_2:=blk_frozen BK250.out 2)|((with_reducible refine gate_callee (f:=13) rfl ?_);refine goesL_ (some 24) rfl rfl Try.func13 (by kernel_rfl) rfl #[.agg #[.int .i64 a0_0,.slice A0_1 l0_1.length c0_1,.slice A0_2 l0_2.length c0_2]] rfl (by (try simp only [List.map_toArray,List.map_cons,List.map_nil]);first|done|rfl|(simp only [List.length_drop,List.length_take];rfl)) ?_;(with_reducible refine (laws_toWire.calls k a0_0 _ _ l0_1 _ _ l0_2 t252 t253 t256 _ ?side1 ?side2 ?side3 ?side4 A7.out).mono ?_);(case side1=>repeat (first|exact (C_below HR0_1.out HB.out)|(with_reducible refine C_alloc ?_ _)|(with_reducible refine C_drewN ?_ _)|(with_reducible refine C_drew ?_)));(case side2=>exact HC0_1.out);(case side3=>repeat (first|exact (C_below HR0_2.out HB.out)|(with_reducible refine C_alloc ?_ _)|(with_reducible refine C_drewN ?_ _)|(with_reducible refine C_drew ?_)));(case side4=>exact HC0_2.out);rintro e w16 ⟨v254,v257,rfl,ho0,ho1,hb⟩;refine ⟨_,rfl,?_⟩;have n0_:=Aside0.mk (R_lower ho0 (below_size (by repeat (first|(with_reducible first|exact HB.out|apply below_alloc|apply pw_below_drewN|apply below_drew1|refine below_set ?_ GE250.out)|exact HB.out))));have n1_:=Aside0.mk (R_lower ho1 (below_size (by repeat (first|(with_reducible first|exact HB.out|apply below_alloc|apply pw_below_drewN|apply below_drew1|refine below_set ?_ GE250.out)|exact HB.out))));have n2_:=Aside0.mk (blk_below (g:=gb250) (o:=.cells #[.int .i64 a0_0,.slice A0_1 l0_1.length c0_1,.slice A0_2 l0_2.length c0_2] 24 (0,0)) (by (with_reducible repeat (first|apply blk_drewN|apply blk_drew|apply blk_alloc));exact BK250.out) hb);have n3_:=Aside0.mk (below_step (by repeat (first|(with_reducible first|exact HB.out|apply below_alloc|apply pw_below_drewN|apply below_drew1|refine below_set ?_ GE250.out)|exact HB.out)) hb);clear BK250;clear HB;have HO255:=n0_;have HO258:=n1_;have BK250:=n2_;have HB:=n3_;clear n0_ n1_ n2_ n3_;(try clear hb);(try clear hb2);(try clear hk);(try clear hi);(try clear ho0);(try clear ho1);obtain ⟨Ao17,co17,eo17⟩:=R_slice HO255.out;subst eo17;obtain ⟨Ao18,co18,eo18⟩:=R_slice HO258.out;subst eo18)|((with_reducible refine gate_callee (f:=29) rfl ?_);refine goesL_ (some 25) rfl rfl Try.func29 (by kernel_rfl) rfl #[.agg #[.int .i64 t252,.slice Ao17 t253.length co17,.slice Ao18 t256.length co18]] rfl (by (try simp only [List.map_toArray,List.map_cons,List.map_nil]);first|done|rfl|(simp only [List.length_drop,List.length_take];rfl)) ?_;(with_reducible refine (spec_FallsOf.calls k t252 _ _ t253 _ _ t256 t259 t262 t265 _ ?side1 ?side2 ?side3 ?side4 A8.out).mono ?_);(case side1=>repeat (first|exact (R_reads' HO255.out).2.2|(with_reducible refine C_alloc ?_ _)|(with_reducible refine C_drewN ?_ _)|(with_reducible refine C_drew ?_)));(case side2=>exact (R_reads' HO255.out).2.1);(case side3=>repeat (first|exact (R_reads' HO258.out).2.2|(with_reducible refine C_alloc ?_ _)|(with_reducible refine C_drewN ?_ _)|(with_reducible refine C_drew ?_)));(case side4=>exact (R_reads' HO258.out).2.1);rintro e w19 ⟨v260,v263,rfl,ho0,ho1,hb⟩;refine ⟨_,rfl,?_⟩;have n0_:=Aside0.mk (R_mono (R_told (R_told (R_old (by (with_reducible repeat (first|apply R_alloc|apply R_drewN|apply R_drew));exact HO255.out) hb) (R_base ho0)) (R_base ho1)) (fun _ h_=>h_.1));have n1_:=Aside0.mk (R_mono (R_told (R_told (R_old (by (with_reducible repeat (first|apply R_alloc|apply R_drewN|apply R_drew));exact HO258.out) hb) (R_base ho0)) (R_base ho1)) (fun _ h_=>h_.1));have n2_:=Aside0.mk (R_lower (R_new' (R_new' ho0 (R_lt (by (with_reducible repeat (first|apply R_alloc|apply R_drewN|apply R_drew));exact HO255.out))) (R_lt (by (with_reducible repeat (first|apply R_alloc|apply R_drewN|apply R_drew));exact HO258.out))) (below_size (by repeat (first|(with_reducible first|exact HB.out|apply below_alloc|apply pw_below_drewN|apply below_drew1|refine below_set ?_ GE250.out)|exact HB.out))));have n3_:=Aside0.mk (R_lower (R_new' (R_new' ho1 (R_lt (by (with_reducible repeat (first|apply R_alloc|apply R_drewN|apply R_drew));exact HO255.out))) (R_lt (by (with_reducible repeat (first|apply R_alloc|apply R_drewN|apply R_drew));exact HO258.out))) (below_size (by repeat (first|(with_reducible first|exact HB.out|apply below_alloc|apply pw_below_drewN|apply below_drew1|refine below_set ?_ GE250.out)|exact HB.out))));have n4_:=Aside0.mk (blk_below (g:=gb250) (o:=.cells #[.int .i64 a0_0,.slice A0_1 l0_1.length c0_1,.slice A0_2 l0_2.length c0_2] 24 (0,0)) (by (with_reducible repeat (first|apply blk_drewN|apply blk_drew|apply blk_alloc));exact BK250.out) hb);have n5_:=Aside0.mk (below_step (by repeat (first|(with_reducible first|exact HB.out|apply below_alloc|apply pw_below_drewN|apply below_drew1|refine below_set ?_ GE250.out)|exact HB.out)) hb);clear HO255;clear HO258;clear BK250;clear HB;have HO255:=n0_;have HO258:=n1_;have HO261:=n2_;have HO264:=n3_;have BK250:=n4_;have HB:=n5_;clear n0_ n1_ n2_ n3_ n4_ n5_;(try clear hb);(try clear hb2);(try clear hk);(try clear hi);(try clear ho0);(try clear ho1);have hcz20_0 : w19.cell? ⟨gb250,0,none⟩ = some (.int .i64 a0_0):=(blk_cell BK250.out 0).trans rfl;have hcz20_1 : w19.cell? ⟨gb250,1,none⟩ = some (.slice A0_1 l0_1.length c0_1):=(blk_cell BK250.out 1).trans rfl;have hcz20_2 : w19.cell? ⟨gb250,2,none⟩ = some (.slice A0_2 l0_2.length c0_2):=(blk_cell BK250.out 2).trans rfl;have hfz20_0:=blk_frozen BK250.out 0;have hfz20_1:=blk_frozen BK250.out 1;have hfz20_2:=blk_frozen BK250.out 2)|((with_reducible refine gate_callee (f:=13) rfl ?_);refine goesL_ (some 30) rfl rfl Try.func13 (by kernel_rfl) rfl #[.agg #[.int .i64 a0_0,.slice A0_1 l0_1.length c0_1,.slice A0_2 l0_2.length c0_2]] rfl (by (try simp only [List.map_toArray,List.map_cons,List.map_nil]);first|done|rfl|(simp only [List.length_drop,List.length_take];rfl)) ?_;(with_reducible refine (laws_toWire.calls k a0_0 _ _ l0_1 _ _ l0_2 t266 t267 t270 _ ?side1 ?side2 ?side3 ?side4 A9.out).mono ?_);(case side1=>repeat (first|exact (C_below HR0_1.out HB.out)|(with_reducible refine C_alloc ?_ _)|(with_reducible refine C_drewN ?_ _)|(with_reducible refine C_drew ?_)));(case side2=>exact HC0_1.out);(case side3=>repeat (first|exact (C_below HR0_2.out HB.out)|(with_reducible refine C_alloc ?_ _)|(with_reducible refine C_drewN ?_ _)|(with_reducible refine C_drew ?_)));(case side4=>exact HC0_2.out);rintro e w21 ⟨v268,v271,rfl,ho0,ho1,hb⟩;refine ⟨_,rfl,?_⟩;have n0_:=Aside0.mk (R_mono (R_told (R_told (R_old (by (with_reducible repeat (first|apply R_alloc|apply R_drewN|apply R_drew));exact HO255.out) hb) (R_base ho0)) (R_base ho1)) (fun _ h_=>h_.1));have n1_:=Aside0.mk (R_mono (R_told (R_told (R_old (by (with_reducible repeat (first|apply R_alloc|apply R_drewN|apply R_drew));exact HO258.out) hb) (R_base ho0)) (R_base ho1)) (fun _ h_=>h_.1));have n2_:=Aside0.mk (R_mono (R_told (R_told (R_old (by (with_reducible repeat (first|apply R_alloc|apply R_drewN|apply R_drew));exact HO261.out) hb) (R_base ho0)) (R_base ho1)) (fun _ h_=>h_.1));have n3_:=Aside0.mk (R_mono (R_told (R_told (R_old (by (with_reducible repeat (first|apply R_alloc|apply R_drewN|apply R_drew));exact HO264.out) hb) (R_base ho0)) (R_base ho1)) (fun _ h_=>h_.1));have n4_:=Aside0.mk (R_lower (R_new' (R_new' (R_new' (R_new' ho0 (R_lt (by (with_reducible repeat (first|apply R_alloc|apply R_drewN|apply R_drew));exact HO255.out))) (R_lt (by (with_reducible repeat (first|apply R_alloc|apply R_drewN|apply R_drew));exact HO258.out))) (R_lt (by (with_reducible repeat (first|apply R_alloc|apply R_drewN|apply R_drew));exact HO261.out))) (R_lt (by (with_reducible repeat (first|apply R_alloc|apply R_drewN|apply R_drew));exact HO264.out))) (below_size (by repeat (first|(with_reducible first|exact HB.out|apply below_alloc|apply pw_below_drewN|apply below_drew1|refine below_set ?_ GE250.out)|exact HB.out))));have n5_:=Aside0.mk (R_lower (R_new' (R_new' (R_new' (R_new' ho1 (R_lt (by (with_reducible repeat (first|apply R_alloc|apply R_drewN|apply R_drew));exact HO255.out))) (R_lt (by (with_reducible repeat (first|apply R_alloc|apply R_drewN|apply R_drew));exact HO258.out))) (R_lt (by (with_reducible repeat (first|apply R_alloc|apply R_drewN|apply R_drew));exact HO261.out))) (R_lt (by (with_reducible repeat (first|apply R_alloc|apply R_drewN|apply R_drew));exact HO264.out))) (below_size (by repeat (first|(with_reducible first|exact HB.out|apply below_alloc|apply pw_below_drewN|apply below_drew1|refine below_set ?_ GE250.out)|exact HB.out))));have n6_:=Aside0.mk (blk_below (g:=gb250) (o:=.cells #[.int .i64 a0_0,.slice A0_1 l0_1.length c0_1,.slice A0_2 l0_2.length c0_2] 24 (0,0)) (by (with_reducible repeat (first|apply blk_drewN|apply blk_drew|apply blk_alloc));exact BK250.out) hb);have n7_:=Aside0.mk (below_step (by repeat (first|(with_reducible first|exact HB.out|apply below_alloc|apply pw_below_drewN|apply below_drew1|refine below_set ?_ GE250.out)|exact HB.out)) hb);clear HO255;clear HO258;clear HO261;clear HO264;clear BK250;clear HB;have HO255:=n0_;have HO258:=n1_;have HO261:=n2_;have HO264:=n3_;have HO269:=n4_;have HO272:=n5_;have BK250:=n6_;have HB:=n7_;clear n0_ n1_ n2_ n3_ n4_ n5_ n6_ n7_;(try clear hb);(try clear hb2);(try clear hk);(try clear hi);(try clear ho0);(try clear ho1))|((with_reducible refine gate_dst (N:=7) rfl ?_);refine box_event ?hg (N:=7) ?hd (cs:=#[.int .i64 0,.slice none 0 0,.slice none 0 0]) (t:=27) ?hr ?_;(case hd=>rfl);(case hg=>rfl);(case hr=>first|(go_simp;done)|(go_simp;rfl));intro gb273 hg w22 hbox hb;have n0_:=Aside0.mk (R_below (by (with_reducible repeat (first|apply R_alloc|apply R_drewN|apply R_drew));exact HO255.out) hb);have n1_:=Aside0.mk (R_below (by (with_reducible repeat (first|apply R_alloc|apply R_drewN|apply R_drew));exact HO258.out) hb);have n2_:=Aside0.mk (R_below (by (with_reducible repeat (first|apply R_alloc|apply R_drewN|apply R_drew));exact HO261.out) hb);have n3_:=Aside0.mk (R_below (by (with_reducible repeat (first|apply R_alloc|apply R_drewN|apply R_drew));exact HO264.out) hb);have n4_:=Aside0.mk (R_below (by (with_reducible repeat (first|apply R_alloc|apply R_drewN|apply R_drew));exact HO269.out) hb);have n5_:=Aside0.mk (R_below (by (with_reducible repeat (first|apply R_alloc|apply R_drewN|apply R_drew));exact HO272.out) hb);have n6_:=Aside0.mk (blk_below (g:=gb250) (o:=.cells #[.int .i64 a0_0,.slice A0_1 l0_1.length c0_1,.slice A0_2 l0_2.length c0_2] 24 (0,0)) (by (with_reducible repeat (first|apply blk_drewN|apply blk_drew|apply blk_alloc));exact BK250.out) hb);have n7_:=Aside0.mk (below_step (by repeat (first|(with_reducible first|exact HB.out|apply below_alloc|apply pw_below_drewN|apply below_drew1|refine below_set ?_ GE250.out)|exact HB.out)) hb);have n8_:=Aside0.mk (hbox);have n9_:=Aside0.mk ((by rw [hg];exact (below_size (by repeat (first|(with_reducible first|exact HB.out|apply below_alloc|apply pw_below_drewN|apply below_drew1|refine below_set ?_ GE250.out)|exact HB.out))) : w.heap.size ≤ gb273));have n10_:=Aside0.mk ((by rw [hg];exact (below_size (by repeat (first|(with_reducible first|exact HB.out|apply below_alloc|apply pw_below_drewN|apply below_drew1|refine below_set ?_ GE250.out)|exact HB.out))) : w.heap.size ≤ gb273));have n11_:=Aside0.mk ((by rw [hg];exact Nat.ne_of_lt (blk_lt (g:=gb250) (by (with_reducible repeat (first|apply blk_drewN|apply blk_drew|apply blk_alloc));exact BK250.out)) : gb250 ≠ gb273));have n12_:=Aside0.mk ((by rw [hg];exact Nat.ne_of_gt (blk_lt (g:=gb250) (by (with_reducible repeat (first|apply blk_drewN|apply blk_drew|apply blk_alloc));exact BK250.out)) : gb273 ≠ gb250));clear HO255;clear HO258;clear HO261;clear HO264;clear HO269;clear HO272;clear BK250;clear HB;have HO255:=n0_;have HO258:=n1_;have HO261:=n2_;have HO264:=n3_;have HO269:=n4_;have HO272:=n5_;have BK250:=n6_;have HB:=n7_;have BK273:=n8_;have GW273:=n9_;have GE273:=n10_;have NB250_273:=n11_;have NB273_250:=n12_;clear n0_ n1_ n2_ n3_ n4_ n5_ n6_ n7_ n8_ n9_ n10_ n11_ n12_;clear hb hbox hg;have hnb23:=NB273_250.out;have hnc23:=NB250_273.out;have hcz24_0 : w22.cell? ⟨gb273,0,none⟩ = some (.int .i64 0):=(blk_cell BK273.out 0).trans rfl;have hcz24_1 : w22.cell? ⟨gb273,1,none⟩ = some (.slice none 0 0):=(blk_cell BK273.out 1).trans rfl;have hcz24_2 : w22.cell? ⟨gb273,2,none⟩ = some (.slice none 0 0):=(blk_cell BK273.out 2).trans rfl;have hfz24_0:=blk_frozen BK273.out 0;have hfz24_1:=blk_frozen BK273.out 1;have hfz24_2:=blk_frozen BK273.out 2;obtain ⟨Ao25,co25,eo25⟩:=R_slice HO269.out;subst eo25;obtain ⟨Ao26,co26,eo26⟩:=R_slice HO272.out;subst eo26)|((with_reducible refine gate_callee (f:=30) rfl ?_);refine goesL_ (some 33) rfl rfl Try.func30 (by kernel_rfl) rfl #[.agg #[.int .i64 t266,.slice Ao25 t267.length co25,.slice Ao26 t270.length co26]] rfl (by (try simp only [List.map_toArray,List.map_cons,List.map_nil]);first|done|rfl|(simp only [List.length_drop,List.length_take];rfl)) ?_;(with_reducible refine (impl_FallsOf.calls k t266 _ _ t267 _ _ t270 t274 t277 t280 _ ?side1 ?side2 ?side3 ?side4 A10.out).mono ?_);(case side1=>refine (R_reads' (e:=3) (base:=w.heap.size) (ok:=fun k_=>((((some k_ ≠ (.slice Ao26 t270.length co26 : Value).ownBlock ∧ some k_ ≠ (.slice Ao17 t253.length co17 : Value).ownBlock) ∧ some k_ ≠ (.slice Ao18 t256.length co18 : Value).ownBlock) ∧ some k_ ≠ (v260 : Value).ownBlock) ∧ some k_ ≠ (v263 : Value).ownBlock)) (n:=t267.length) (c:=co25) ?_).2.2;exact (by (with_reducible repeat (first|apply R_alloc|apply R_drewN|apply R_drew));exact (R_mono (R_far (p:=⟨gb273,2,none⟩) (R_far (p:=⟨gb273,1,none⟩) (R_far (p:=⟨gb273,0,none⟩) (R_types HO269.out BK273.out (by decide)) (fun _ hk=>hk.2) (.int .i64 t266)) (fun _ hk=>hk.2) (.slice Ao25 t267.length co25)) (fun _ hk=>hk.2) (.slice Ao26 t270.length co26)) (fun _ h_=>h_.1))));(case side2=>exact (R_reads' HO269.out).2.1);(case side3=>refine (R_reads' (e:=3) (base:=w.heap.size) (ok:=fun k_=>((((some k_ ≠ (.slice Ao25 t267.length co25 : Value).ownBlock ∧ some k_ ≠ (.slice Ao17 t253.length co17 : Value).ownBlock) ∧ some k_ ≠ (.slice Ao18 t256.length co18 : Value).ownBlock) ∧ some k_ ≠ (v260 : Value).ownBlock) ∧ some k_ ≠ (v263 : Value).ownBlock)) (n:=t270.length) (c:=co26) ?_).2.2;exact (by (with_reducible repeat (first|apply R_alloc|apply R_drewN|apply R_drew));exact (R_mono (R_far (p:=⟨gb273,2,none⟩) (R_far (p:=⟨gb273,1,none⟩) (R_far (p:=⟨gb273,0,none⟩) (R_types HO272.out BK273.out (by decide)) (fun _ hk=>hk.2) (.int .i64 t266)) (fun _ hk=>hk.2) (.slice Ao25 t267.length co25)) (fun _ hk=>hk.2) (.slice Ao26 t270.length co26)) (fun _ h_=>h_.1))));(case side4=>exact (R_reads' HO272.out).2.1);rintro e w27 ⟨v275,v278,rfl,ho0,ho1,hb⟩;refine ⟨_,rfl,?_⟩;have n0_:=Aside0.mk (R_mono (R_told (R_told (R_old (by (with_reducible repeat (first|apply R_alloc|apply R_drewN|apply R_drew));exact (R_mono (R_far (p:=⟨gb273,2,none⟩) (R_far (p:=⟨gb273,1,none⟩) (R_far (p:=⟨gb273,0,none⟩) (R_types HO255.out BK273.out (by decide)) (fun _ hk=>hk.2) (.int .i64 t266)) (fun _ hk=>hk.2) (.slice Ao25 t267.length co25)) (fun _ hk=>hk.2) (.slice Ao26 t270.length co26)) (fun _ h_=>h_.1))) hb) (R_base ho0)) (R_base ho1)) (fun _ h_=>h_.1));have n1_:=Aside0.mk (R_mono (R_told (R_told (R_old (by (with_reducible repeat (first|apply R_alloc|apply R_drewN|apply R_drew));exact (R_mono (R_far (p:=⟨gb273,2,none⟩) (R_far (p:=⟨gb273,1,none⟩) (R_far (p:=⟨gb273,0,none⟩) (R_types HO258.out BK273.out (by decide)) (fun _ hk=>hk.2) (.int .i64 t266)) (fun _ hk=>hk.2) (.slice Ao25 t267.length co25)) (fun _ hk=>hk.2) (.slice Ao26 t270.length co26)) (fun _ h_=>h_.1))) hb) (R_base ho0)) (R_base ho1)) (fun _ h_=>h_.1));have n2_:=Aside0.mk (R_mono (R_told (R_told (R_old (by (with_reducible repeat (first|apply R_alloc|apply R_drewN|apply R_drew));exact (R_mono (R_far (p:=⟨gb273,2,none⟩) (R_far (p:=⟨gb273,1,none⟩) (R_far (p:=⟨gb273,0,none⟩) (R_types HO261.out BK273.out (by decide)) (fun _ hk=>hk.2) (.int .i64 t266)) (fun _ hk=>hk.2) (.slice Ao25 t267.length co25)) (fun _ hk=>hk.2) (.slice Ao26 t270.length co26)) (fun _ h_=>h_.1))) hb) (R_base ho0)) (R_base ho1)) (fun _ h_=>h_.1));have n3_:=Aside0.mk (R_mono (R_told (R_told (R_old (by (with_reducible repeat (first|apply R_alloc|apply R_drewN|apply R_drew));exact (R_mono (R_far (p:=⟨gb273,2,none⟩) (R_far (p:=⟨gb273,1,none⟩) (R_far (p:=⟨gb273,0,none⟩) (R_types HO264.out BK273.out (by decide)) (fun _ hk=>hk.2) (.int .i64 t266)) (fun _ hk=>hk.2) (.slice Ao25 t267.length co25)) (fun _ hk=>hk.2) (.slice Ao26 t270.length co26)) (fun _ h_=>h_.1))) hb) (R_base ho0)) (R_base ho1)) (fun _ h_=>h_.1));have n4_:=Aside0.mk (R_mono (R_told (R_told (R_old (by (with_reducible repeat (first|apply R_alloc|apply R_drewN|apply R_drew));exact (R_mono (R_far (p:=⟨gb273,2,none⟩) (R_far (p:=⟨gb273,1,none⟩) (R_far (p:=⟨gb273,0,none⟩) (R_types HO269.out BK273.out (by decide)) (fun _ hk=>hk.2) (.int .i64 t266)) (fun _ hk=>hk.2) (.slice Ao25 t267.length co25)) (fun _ hk=>hk.2) (.slice Ao26 t270.length co26)) (fun _ h_=>h_.1))) hb) (R_base ho0)) (R_base ho1)) (fun _ h_=>h_.1));have n5_:=Aside0.mk (R_mono (R_told (R_told (R_old (by (with_reducible repeat (first|apply R_alloc|apply R_drewN|apply R_drew));exact (R_mono (R_far (p:=⟨gb273,2,none⟩) (R_far (p:=⟨gb273,1,none⟩) (R_far (p:=⟨gb273,0,none⟩) (R_types HO272.out BK273.out (by decide)) (fun _ hk=>hk.2) (.int .i64 t266)) (fun _ hk=>hk.2) (.slice Ao25 t267.length co25)) (fun _ hk=>hk.2) (.slice Ao26 t270.length co26)) (fun _ h_=>h_.1))) hb) (R_base ho0)) (R_base ho1)) (fun _ h_=>h_.1));have n6_:=Aside0.mk (R_lower (R_new' (R_new' (R_new' (R_new' (R_new' (R_new' ho0 (R_lt (by (with_reducible repeat (first|apply R_alloc|apply R_drewN|apply R_drew));exact (R_mono (R_far (p:=⟨gb273,2,none⟩) (R_far (p:=⟨gb273,1,none⟩) (R_far (p:=⟨gb273,0,none⟩) (R_types HO255.out BK273.out (by decide)) (fun _ hk=>hk.2) (.int .i64 t266)) (fun _ hk=>hk.2) (.slice Ao25 t267.length co25)) (fun _ hk=>hk.2) (.slice Ao26 t270.length co26)) (fun _ h_=>h_.1))))) (R_lt (by (with_reducible repeat (first|apply R_alloc|apply R_drewN|apply R_drew));exact (R_mono (R_far (p:=⟨gb273,2,none⟩) (R_far (p:=⟨gb273,1,none⟩) (R_far (p:=⟨gb273,0,none⟩) (R_types HO258.out BK273.out (by decide)) (fun _ hk=>hk.2) (.int .i64 t266)) (fun _ hk=>hk.2) (.slice Ao25 t267.length co25)) (fun _ hk=>hk.2) (.slice Ao26 t270.length co26)) (fun _ h_=>h_.1))))) (R_lt (by (with_reducible repeat (first|apply R_alloc|apply R_drewN|apply R_drew));exact (R_mono (R_far (p:=⟨gb273,2,none⟩) (R_far (p:=⟨gb273,1,none⟩) (R_far (p:=⟨gb273,0,none⟩) (R_types HO261.out BK273.out (by decide)) (fun _ hk=>hk.2) (.int .i64 t266)) (fun _ hk=>hk.2) (.slice Ao25 t267.length co25)) (fun _ hk=>hk.2) (.slice Ao26 t270.length co26)) (fun _ h_=>h_.1))))) (R_lt (by (with_reducible repeat (first|apply R_alloc|apply R_drewN|apply R_drew));exact (R_mono (R_far (p:=⟨gb273,2,none⟩) (R_far (p:=⟨gb273,1,none⟩) (R_far (p:=⟨gb273,0,none⟩) (R_types HO264.out BK273.out (by decide)) (fun _ hk=>hk.2) (.int .i64 t266)) (fun _ hk=>hk.2) (.slice Ao25 t267.length co25)) (fun _ hk=>hk.2) (.slice Ao26 t270.length co26)) (fun _ h_=>h_.1))))) (R_lt (by (with_reducible repeat (first|apply R_alloc|apply R_drewN|apply R_drew));exact (R_mono (R_far (p:=⟨gb273,2,none⟩) (R_far (p:=⟨gb273,1,none⟩) (R_far (p:=⟨gb273,0,none⟩) (R_types HO269.out BK273.out (by decide)) (fun _ hk=>hk.2) (.int .i64 t266)) (fun _ hk=>hk.2) (.slice Ao25 t267.length co25)) (fun _ hk=>hk.2) (.slice Ao26 t270.length co26)) (fun _ h_=>h_.1))))) (R_lt (by (with_reducible repeat (first|apply R_alloc|apply R_drewN|apply R_drew));exact (R_mono (R_far (p:=⟨gb273,2,none⟩) (R_far (p:=⟨gb273,1,none⟩) (R_far (p:=⟨gb273,0,none⟩) (R_types HO272.out BK273.out (by decide)) (fun _ hk=>hk.2) (.int .i64 t266)) (fun _ hk=>hk.2) (.slice Ao25 t267.length co25)) (fun _ hk=>hk.2) (.slice Ao26 t270.length co26)) (fun _ h_=>h_.1))))) (below_size (by repeat (first|(with_reducible first|exact HB.out|apply below_alloc|apply pw_below_drewN|apply below_drew1|refine below_set ?_ GE250.out|refine below_set ?_ GE273.out)|exact HB.out))));have n7_:=Aside0.mk (R_lower (R_new' (R_new' (R_new' (R_new' (R_new' (R_new' ho1 (R_lt (by (with_reducible repeat (first|apply R_alloc|apply R_drewN|apply R_drew));exact (R_mono (R_far (p:=⟨gb273,2,none⟩) (R_far (p:=⟨gb273,1,none⟩) (R_far (p:=⟨gb273,0,none⟩) (R_types HO255.out BK273.out (by decide)) (fun _ hk=>hk.2) (.int .i64 t266)) (fun _ hk=>hk.2) (.slice Ao25 t267.length co25)) (fun _ hk=>hk.2) (.slice Ao26 t270.length co26)) (fun _ h_=>h_.1))))) (R_lt (by (with_reducible repeat (first|apply R_alloc|apply R_drewN|apply R_drew));exact (R_mono (R_far (p:=⟨gb273,2,none⟩) (R_far (p:=⟨gb273,1,none⟩) (R_far (p:=⟨gb273,0,none⟩) (R_types HO258.out BK273.out (by decide)) (fun _ hk=>hk.2) (.int .i64 t266)) (fun _ hk=>hk.2) (.slice Ao25 t267.length co25)) (fun _ hk=>hk.2) (.slice Ao26 t270.length co26)) (fun _ h_=>h_.1))))) (R_lt (by (with_reducible repeat (first|apply R_alloc|apply R_drewN|apply R_drew));exact (R_mono (R_far (p:=⟨gb273,2,none⟩) (R_far (p:=⟨gb273,1,none⟩) (R_far (p:=⟨gb273,0,none⟩) (R_types HO261.out BK273.out (by decide)) (fun _ hk=>hk.2) (.int .i64 t266)) (fun _ hk=>hk.2) (.slice Ao25 t267.length co25)) (fun _ hk=>hk.2) (.slice Ao26 t270.length co26)) (fun _ h_=>h_.1))))) (R_lt (by (with_reducible repeat (first|apply R_alloc|apply R_drewN|apply R_drew));exact (R_mono (R_far (p:=⟨gb273,2,none⟩) (R_far (p:=⟨gb273,1,none⟩) (R_far (p:=⟨gb273,0,none⟩) (R_types HO264.out BK273.out (by decide)) (fun _ hk=>hk.2) (.int .i64 t266)) (fun _ hk=>hk.2) (.slice Ao25 t267.length co25)) (fun _ hk=>hk.2) (.slice Ao26 t270.length co26)) (fun _ h_=>h_.1))))) (R_lt (by (with_reducible repeat (first|apply R_alloc|apply R_drewN|apply R_drew));exact (R_mono (R_far (p:=⟨gb273,2,none⟩) (R_far (p:=⟨gb273,1,none⟩) (R_far (p:=⟨gb273,0,none⟩) (R_types HO269.out BK273.out (by decide)) (fun _ hk=>hk.2) (.int .i64 t266)) (fun _ hk=>hk.2) (.slice Ao25 t267.length co25)) (fun _ hk=>hk.2) (.slice Ao26 t270.length co26)) (fun _ h_=>h_.1))))) (R_lt (by (with_reducible repeat (first|apply R_alloc|apply R_drewN|apply R_drew));exact (R_mono (R_far (p:=⟨gb273,2,none⟩) (R_far (p:=⟨gb273,1,none⟩) (R_far (p:=⟨gb273,0,none⟩) (R_types HO272.out BK273.out (by decide)) (fun _ hk=>hk.2) (.int .i64 t266)) (fun _ hk=>hk.2) (.slice Ao25 t267.length co25)) (fun _ hk=>hk.2) (.slice Ao26 t270.length co26)) (fun _ h_=>h_.1))))) (below_size (by repeat (first|(with_reducible first|exact HB.out|apply below_alloc|apply pw_below_drewN|apply below_drew1|refine below_set ?_ GE250.out|refine below_set ?_ GE273.out)|exact HB.out))));have n8_:=Aside0.mk (blk_below (g:=gb250) (o:=.cells #[.int .i64 a0_0,.slice A0_1 l0_1.length c0_1,.slice A0_2 l0_2.length c0_2] 24 (0,0)) (by (with_reducible repeat (first|apply blk_drewN|apply blk_drew|apply blk_alloc));refine blk_far ?_ NB250_273.out _;(with_reducible repeat (first|apply blk_drewN|apply blk_drew|apply blk_alloc));refine blk_far ?_ NB250_273.out _;(with_reducible repeat (first|apply blk_drewN|apply blk_drew|apply blk_alloc));refine blk_far ?_ NB250_273.out _;(with_reducible repeat (first|apply blk_drewN|apply blk_drew|apply blk_alloc));exact BK250.out) hb);have n9_:=Aside0.mk (blk_below (g:=gb273) (o:=.cells #[.int .i64 t266,.slice Ao25 t267.length co25,.slice Ao26 t270.length co26] 27 (0,0)) (by (with_reducible repeat (first|apply blk_drewN|apply blk_drew|apply blk_alloc));refine blk_put (cs:=#[.int .i64 t266,.slice Ao25 t267.length co25,.slice none 0 0]) ?_ 2 _ rfl;(with_reducible repeat (first|apply blk_drewN|apply blk_drew|apply blk_alloc));refine blk_put (cs:=#[.int .i64 t266,.slice none 0 0,.slice none 0 0]) ?_ 1 _ rfl;(with_reducible repeat (first|apply blk_drewN|apply blk_drew|apply blk_alloc));refine blk_put (cs:=#[.int .i64 0,.slice none 0 0,.slice none 0 0]) ?_ 0 _ rfl;(with_reducible repeat (first|apply blk_drewN|apply blk_drew|apply blk_alloc));exact BK273.out) hb);have n10_:=Aside0.mk (below_step (by repeat (first|(with_reducible first|exact HB.out|apply below_alloc|apply pw_below_drewN|apply below_drew1|refine below_set ?_ GE250.out|refine below_set ?_ GE273.out)|exact HB.out)) hb);clear HO255;clear HO258;clear HO261;clear HO264;clear HO269;clear HO272;clear BK250;clear BK273;clear HB;have HO255:=n0_;have HO258:=n1_;have HO261:=n2_;have HO264:=n3_;have HO269:=n4_;have HO272:=n5_;have HO276:=n6_;have HO279:=n7_;have BK250:=n8_;have BK273:=n9_;have HB:=n10_;clear n0_ n1_ n2_ n3_ n4_ n5_ n6_ n7_ n8_ n9_ n10_;(try clear hb);(try clear hb2);(try clear hk);(try clear hi);(try clear ho0);(try clear ho1)))
 (try simp only [Act.put,List.setIfInBounds_toArray,List.set_cons_zero,List.set_cons_succ])
 go_cut [51] (fun v51 wc=>∃ (kq : Nat) (x51_10 : Bool),v51 = .bool x51_10 ∧ Aside0 (laws_FnExactFallsOf.j0 kq t259 t262 t265 t274 t277 t280 x51_10 a0_0 l0_1 l0_2 t266 t267 t270 = some r) ∧ Aside0 (kq ≤ k) ∧ Aside0 (Kd.R (Kd.int .i64) 3 wc w.heap.size (fun k_=>some k_ ≠ (v263 : Value).ownBlock ∧ some k_ ≠ (v275 : Value).ownBlock ∧ some k_ ≠ (v278 : Value).ownBlock ∧ some k_ ≠ ((.slice Ao25 t267.length co25) : Value).ownBlock ∧ some k_ ≠ ((.slice Ao26 t270.length co26) : Value).ownBlock) v260 t259) ∧ Aside0 (Kd.R (Kd.int .i64) 3 wc w.heap.size (fun k_=>some k_ ≠ (v260 : Value).ownBlock ∧ some k_ ≠ (v275 : Value).ownBlock ∧ some k_ ≠ (v278 : Value).ownBlock ∧ some k_ ≠ ((.slice Ao25 t267.length co25) : Value).ownBlock ∧ some k_ ≠ ((.slice Ao26 t270.length co26) : Value).ownBlock) v263 t262) ∧ Aside0 (Kd.R (Kd.int .i64) 3 wc w.heap.size (fun k_=>some k_ ≠ (v260 : Value).ownBlock ∧ some k_ ≠ (v263 : Value).ownBlock ∧ some k_ ≠ (v278 : Value).ownBlock ∧ some k_ ≠ ((.slice Ao25 t267.length co25) : Value).ownBlock ∧ some k_ ≠ ((.slice Ao26 t270.length co26) : Value).ownBlock) v275 t274) ∧ Aside0 (Kd.R (Kd.int .i64) 3 wc w.heap.size (fun k_=>some k_ ≠ (v260 : Value).ownBlock ∧ some k_ ≠ (v263 : Value).ownBlock ∧ some k_ ≠ (v275 : Value).ownBlock ∧ some k_ ≠ ((.slice Ao25 t267.length co25) : Value).ownBlock ∧ some k_ ≠ ((.slice Ao26 t270.length co26) : Value).ownBlock) v278 t277) ∧ Aside0 (Kd.R (Kd.int .i64) 3 wc w.heap.size (fun k_=>some k_ ≠ (v260 : Value).ownBlock ∧ some k_ ≠ (v263 : Value).ownBlock ∧ some k_ ≠ (v275 : Value).ownBlock ∧ some k_ ≠ (v278 : Value).ownBlock ∧ some k_ ≠ ((.slice Ao26 t270.length co26) : Value).ownBlock) (.slice Ao25 t267.length co25) t267) ∧ Aside0 (Kd.R (Kd.int .i64) 3 wc w.heap.size (fun k_=>some k_ ≠ (v260 : Value).ownBlock ∧ some k_ ≠ (v263 : Value).ownBlock ∧ some k_ ≠ (v275 : Value).ownBlock ∧ some k_ ≠ (v278 : Value).ownBlock ∧ some k_ ≠ ((.slice Ao25 t267.length co25) : Value).ownBlock) (.slice Ao26 t270.length co26) t270) ∧ Aside0 (wc.heap[gb250]? = some (.cells #[.int .i64 a0_0,(.slice A0_1 l0_1.length c0_1),(.slice A0_2 l0_2.length c0_2)] 24 (0,0))) ∧ Aside0 (wc.heap[gb273]? = some (.cells #[.int .i64 t266,(.slice Ao25 t267.length co25),(.slice Ao26 t270.length co26)] 27 (0,0))) ∧ Aside0 (Below w.heap.size w wc))
 case first =>
  have H:=HC11.out
  clear HC11
  replace H:=Option.bind_eq_some_iff.mp H
  obtain ⟨t281,A280,H⟩:=H
  replace H : (if t281 = true then ((laws_eqIntS.f k t277 t262).bind fun t282=>(if t282 = true then (laws_FnExactFallsOf.j0 k t259 t262 t265 t274 t277 t280 (t280 != t265) a0_0 l0_1 l0_2 t266 t267 t270) else (laws_FnExactFallsOf.j0 k t259 t262 t265 t274 t277 t280 true a0_0 l0_1 l0_2 t266 t267 t270))) else (laws_FnExactFallsOf.j0 k t259 t262 t265 t274 t277 t280 true a0_0 l0_1 l0_2 t266 t267 t270)) = some r:=H
  have A28:=Aside0.mk A280
  clear A280
  by_cases c29 : t281 = true
  rotate_left
  ·replace c29:=Bool.eq_false_iff.mpr c29
   subst c29
   have H1 : (laws_FnExactFallsOf.j0 k t259 t262 t265 t274 t277 t280 true a0_0 l0_1 l0_2 t266 t267 t270) = some r:=by rw [if_neg (show ¬ (false = true) by decide)] at H;exact H
   clear H
   have H:=H1
   clear H1
   have H':=Aside0.mk H
   clear H
   obtain ⟨Ao40,co40,eo40⟩:=R_slice HO276.out
   subst eo40
   obtain ⟨Ao41,co41,eo41⟩:=R_slice HO261.out
   subst eo41
   go_wp2_with (first|((with_reducible refine gate_callee (f:=22) rfl ?_);refine goesL_ (some 39) rfl rfl Try.func22 (by kernel_rfl) rfl #[.slice Ao40 t274.length co40,.slice Ao41 t259.length co41] rfl (by (try simp only [List.map_toArray,List.map_cons,List.map_nil]);first|done|rfl|(simp only [List.length_drop,List.length_take];rfl)) ?_;(with_reducible refine (laws_eqIntS.calls k _ _ t274 _ _ t259 false _ ?side1 ?side2 ?side3 ?side4 A28.out).mono ?_);(case side1=>repeat (first|exact (R_reads' HO276.out).2.2|(with_reducible refine C_alloc ?_ _)|(with_reducible refine C_drewN ?_ _)|(with_reducible refine C_drew ?_)));(case side2=>exact (R_reads' HO276.out).2.1);(case side3=>repeat (first|exact (R_reads' HO261.out).2.2|(with_reducible refine C_alloc ?_ _)|(with_reducible refine C_drewN ?_ _)|(with_reducible refine C_drew ?_)));(case side4=>exact (R_reads' HO261.out).2.1);rintro e w' ⟨rfl,⟨nd,rfl⟩⟩;refine ⟨_,rfl,?_⟩))
   go_meet
   case rel=>exact ⟨_,(true),(by first|rfl|(simp;done)|(simp [*];done)),H',⟨by first|omega|exact Nat.le_refl _⟩,⟨by (with_reducible repeat (first|apply R_alloc|apply R_drewN|apply R_drew));exact R_mono HO261.out (fun _ hk=>⟨hk.1.1.1.1.1.1,⟨hk.1.2,⟨hk.2,⟨hk.1.1.1.2,hk.1.1.2⟩⟩⟩⟩)⟩,⟨by (with_reducible repeat (first|apply R_alloc|apply R_drewN|apply R_drew));exact R_mono HO264.out (fun _ hk=>⟨hk.1.1.1.1.1.1,⟨hk.1.2,⟨hk.2,⟨hk.1.1.1.2,hk.1.1.2⟩⟩⟩⟩)⟩,⟨by (with_reducible repeat (first|apply R_alloc|apply R_drewN|apply R_drew));exact R_mono HO276.out (fun _ hk=>⟨hk.1.1.1.2,⟨hk.1.1.2,⟨hk.1.1.1.1.1.1,⟨hk.1.2,hk.2⟩⟩⟩⟩)⟩,⟨by (with_reducible repeat (first|apply R_alloc|apply R_drewN|apply R_drew));exact R_mono HO279.out (fun _ hk=>⟨hk.1.1.1.2,⟨hk.1.1.2,⟨hk.1.1.1.1.1.1,⟨hk.1.2,hk.2⟩⟩⟩⟩)⟩,⟨by (with_reducible repeat (first|apply R_alloc|apply R_drewN|apply R_drew));exact R_mono HO269.out (fun _ hk=>⟨hk.1.1.1.2,⟨hk.1.1.2,⟨hk.1.2,⟨hk.2,hk.1.1.1.1.1.1⟩⟩⟩⟩)⟩,⟨by (with_reducible repeat (first|apply R_alloc|apply R_drewN|apply R_drew));exact R_mono HO272.out (fun _ hk=>⟨hk.1.1.1.2,⟨hk.1.1.2,⟨hk.1.2,⟨hk.2,hk.1.1.1.1.1.1⟩⟩⟩⟩)⟩,⟨by (with_reducible repeat (first|apply blk_drewN|apply blk_drew|apply blk_alloc));exact BK250.out⟩,⟨by (with_reducible repeat (first|apply blk_drewN|apply blk_drew|apply blk_alloc));exact BK273.out⟩,⟨by repeat (first|(with_reducible first|exact HB.out|apply below_alloc|apply pw_below_drewN|apply below_drew1|refine below_set ?_ GE250.out|refine below_set ?_ GE273.out)|exact HB.out)⟩⟩
  subst c29
  have H1 : ((laws_eqIntS.f k t277 t262).bind fun t282=>(if t282 = true then (laws_FnExactFallsOf.j0 k t259 t262 t265 t274 t277 t280 (t280 != t265) a0_0 l0_1 l0_2 t266 t267 t270) else (laws_FnExactFallsOf.j0 k t259 t262 t265 t274 t277 t280 true a0_0 l0_1 l0_2 t266 t267 t270))) = some r:=by rw [if_pos rfl] at H;exact H
  clear H
  have H:=H1
  clear H1
  replace H:=Option.bind_eq_some_iff.mp H
  obtain ⟨t282,A300,H⟩:=H
  replace H : (if t282 = true then (laws_FnExactFallsOf.j0 k t259 t262 t265 t274 t277 t280 (t280 != t265) a0_0 l0_1 l0_2 t266 t267 t270) else (laws_FnExactFallsOf.j0 k t259 t262 t265 t274 t277 t280 true a0_0 l0_1 l0_2 t266 t267 t270)) = some r:=H
  have A30:=Aside0.mk A300
  clear A300
  by_cases c31 : t282 = true
  ·subst c31
   have H1 : (laws_FnExactFallsOf.j0 k t259 t262 t265 t274 t277 t280 (t280 != t265) a0_0 l0_1 l0_2 t266 t267 t270) = some r:=by rw [if_pos rfl] at H;exact H
   clear H
   have H:=H1
   clear H1
   have H':=Aside0.mk H
   clear H
   obtain ⟨Ao32,co32,eo32⟩:=R_slice HO276.out
   subst eo32
   obtain ⟨Ao33,co33,eo33⟩:=R_slice HO261.out
   subst eo33
   go_wp2_with (first|((with_reducible refine gate_callee (f:=22) rfl ?_);refine goesL_ (some 39) rfl rfl Try.func22 (by kernel_rfl) rfl #[.slice Ao32 t274.length co32,.slice Ao33 t259.length co33] rfl (by (try simp only [List.map_toArray,List.map_cons,List.map_nil]);first|done|rfl|(simp only [List.length_drop,List.length_take];rfl)) ?_;(with_reducible refine (laws_eqIntS.calls k _ _ t274 _ _ t259 true _ ?side1 ?side2 ?side3 ?side4 A28.out).mono ?_);(case side1=>repeat (first|exact (R_reads' HO276.out).2.2|(with_reducible refine C_alloc ?_ _)|(with_reducible refine C_drewN ?_ _)|(with_reducible refine C_drew ?_)));(case side2=>exact (R_reads' HO276.out).2.1);(case side3=>repeat (first|exact (R_reads' HO261.out).2.2|(with_reducible refine C_alloc ?_ _)|(with_reducible refine C_drewN ?_ _)|(with_reducible refine C_drew ?_)));(case side4=>exact (R_reads' HO261.out).2.1);rintro e w' ⟨rfl,⟨nd,rfl⟩⟩;refine ⟨_,rfl,?_⟩;obtain ⟨Ao34,co34,eo34⟩:=R_slice HO279.out;subst eo34;obtain ⟨Ao35,co35,eo35⟩:=R_slice HO264.out;subst eo35)|(go_at_call 22;(with_reducible refine (laws_eqIntS.calls k _ _ t277 _ _ t262 true _ ?side1 ?side2 ?side3 ?side4 A30.out).mono ?_);(case side1=>repeat (first|exact (R_reads' HO279.out).2.2|(with_reducible refine C_alloc ?_ _)|(with_reducible refine C_drewN ?_ _)|(with_reducible refine C_drew ?_)));(case side2=>exact (R_reads' HO279.out).2.1);(case side3=>repeat (first|exact (R_reads' HO264.out).2.2|(with_reducible refine C_alloc ?_ _)|(with_reducible refine C_drewN ?_ _)|(with_reducible refine C_drew ?_)));(case side4=>exact (R_reads' HO264.out).2.1);rintro e w' ⟨rfl,⟨nd,rfl⟩⟩))
   go_meet
   case rel=>exact ⟨_,((t280 != t265)),(by first|rfl|(simp;done)|(simp [*];done)),H',⟨by first|omega|exact Nat.le_refl _⟩,⟨by (with_reducible repeat (first|apply R_alloc|apply R_drewN|apply R_drew));exact R_mono HO261.out (fun _ hk=>⟨hk.1.1.1.1.1.1,⟨hk.1.2,⟨hk.2,⟨hk.1.1.1.2,hk.1.1.2⟩⟩⟩⟩)⟩,⟨by (with_reducible repeat (first|apply R_alloc|apply R_drewN|apply R_drew));exact R_mono HO264.out (fun _ hk=>⟨hk.1.1.1.1.1.1,⟨hk.1.2,⟨hk.2,⟨hk.1.1.1.2,hk.1.1.2⟩⟩⟩⟩)⟩,⟨by (with_reducible repeat (first|apply R_alloc|apply R_drewN|apply R_drew));exact R_mono HO276.out (fun _ hk=>⟨hk.1.1.1.2,⟨hk.1.1.2,⟨hk.1.1.1.1.1.1,⟨hk.1.2,hk.2⟩⟩⟩⟩)⟩,⟨by (with_reducible repeat (first|apply R_alloc|apply R_drewN|apply R_drew));exact R_mono HO279.out (fun _ hk=>⟨hk.1.1.1.2,⟨hk.1.1.2,⟨hk.1.1.1.1.1.1,⟨hk.1.2,hk.2⟩⟩⟩⟩)⟩,⟨by (with_reducible repeat (first|apply R_alloc|apply R_drewN|apply R_drew));exact R_mono HO269.out (fun _ hk=>⟨hk.1.1.1.2,⟨hk.1.1.2,⟨hk.1.2,⟨hk.2,hk.1.1.1.1.1.1⟩⟩⟩⟩)⟩,⟨by (with_reducible repeat (first|apply R_alloc|apply R_drewN|apply R_drew));exact R_mono HO272.out (fun _ hk=>⟨hk.1.1.1.2,⟨hk.1.1.2,⟨hk.1.2,⟨hk.2,hk.1.1.1.1.1.1⟩⟩⟩⟩)⟩,⟨by (with_reducible repeat (first|apply blk_drewN|apply blk_drew|apply blk_alloc));exact BK250.out⟩,⟨by (with_reducible repeat (first|apply blk_drewN|apply blk_drew|apply blk_alloc));exact BK273.out⟩,⟨by repeat (first|(with_reducible first|exact HB.out|apply below_alloc|apply pw_below_drewN|apply below_drew1|refine below_set ?_ GE250.out|refine below_set ?_ GE273.out)|exact HB.out)⟩⟩
  replace c31:=Bool.eq_false_iff.mpr c31
  subst c31
  have H1 : (laws_FnExactFallsOf.j0 k t259 t262 t265 t274 t277 t280 true a0_0 l0_1 l0_2 t266 t267 t270) = some r:=by rw [if_neg (show ¬ (false = true) by decide)] at H;exact H
  clear H
  have H:=H1
  clear H1
  have H':=Aside0.mk H
  clear H
  obtain ⟨Ao36,co36,eo36⟩:=R_slice HO276.out
  subst eo36
  obtain ⟨Ao37,co37,eo37⟩:=R_slice HO261.out
  subst eo37
  go_wp2_with (first|((with_reducible refine gate_callee (f:=22) rfl ?_);refine goesL_ (some 39) rfl rfl Try.func22 (by kernel_rfl) rfl #[.slice Ao36 t274.length co36,.slice Ao37 t259.length co37] rfl (by (try simp only [List.map_toArray,List.map_cons,List.map_nil]);first|done|rfl|(simp only [List.length_drop,List.length_take];rfl)) ?_;(with_reducible refine (laws_eqIntS.calls k _ _ t274 _ _ t259 true _ ?side1 ?side2 ?side3 ?side4 A28.out).mono ?_);(case side1=>repeat (first|exact (R_reads' HO276.out).2.2|(with_reducible refine C_alloc ?_ _)|(with_reducible refine C_drewN ?_ _)|(with_reducible refine C_drew ?_)));(case side2=>exact (R_reads' HO276.out).2.1);(case side3=>repeat (first|exact (R_reads' HO261.out).2.2|(with_reducible refine C_alloc ?_ _)|(with_reducible refine C_drewN ?_ _)|(with_reducible refine C_drew ?_)));(case side4=>exact (R_reads' HO261.out).2.1);rintro e w' ⟨rfl,⟨nd,rfl⟩⟩;refine ⟨_,rfl,?_⟩;obtain ⟨Ao38,co38,eo38⟩:=R_slice HO279.out;subst eo38;obtain ⟨Ao39,co39,eo39⟩:=R_slice HO264.out;subst eo39)|(go_at_call 22;(with_reducible refine (laws_eqIntS.calls k _ _ t277 _ _ t262 false _ ?side1 ?side2 ?side3 ?side4 A30.out).mono ?_);(case side1=>repeat (first|exact (R_reads' HO279.out).2.2|(with_reducible refine C_alloc ?_ _)|(with_reducible refine C_drewN ?_ _)|(with_reducible refine C_drew ?_)));(case side2=>exact (R_reads' HO279.out).2.1);(case side3=>repeat (first|exact (R_reads' HO264.out).2.2|(with_reducible refine C_alloc ?_ _)|(with_reducible refine C_drewN ?_ _)|(with_reducible refine C_drew ?_)));(case side4=>exact (R_reads' HO264.out).2.1);rintro e w' ⟨rfl,⟨nd,rfl⟩⟩))
  go_meet
  case rel=>exact ⟨_,(true),(by first|rfl|(simp;done)|(simp [*];done)),H',⟨by first|omega|exact Nat.le_refl _⟩,⟨by (with_reducible repeat (first|apply R_alloc|apply R_drewN|apply R_drew));exact R_mono HO261.out (fun _ hk=>⟨hk.1.1.1.1.1.1,⟨hk.1.2,⟨hk.2,⟨hk.1.1.1.2,hk.1.1.2⟩⟩⟩⟩)⟩,⟨by (with_reducible repeat (first|apply R_alloc|apply R_drewN|apply R_drew));exact R_mono HO264.out (fun _ hk=>⟨hk.1.1.1.1.1.1,⟨hk.1.2,⟨hk.2,⟨hk.1.1.1.2,hk.1.1.2⟩⟩⟩⟩)⟩,⟨by (with_reducible repeat (first|apply R_alloc|apply R_drewN|apply R_drew));exact R_mono HO276.out (fun _ hk=>⟨hk.1.1.1.2,⟨hk.1.1.2,⟨hk.1.1.1.1.1.1,⟨hk.1.2,hk.2⟩⟩⟩⟩)⟩,⟨by (with_reducible repeat (first|apply R_alloc|apply R_drewN|apply R_drew));exact R_mono HO279.out (fun _ hk=>⟨hk.1.1.1.2,⟨hk.1.1.2,⟨hk.1.1.1.1.1.1,⟨hk.1.2,hk.2⟩⟩⟩⟩)⟩,⟨by (with_reducible repeat (first|apply R_alloc|apply R_drewN|apply R_drew));exact R_mono HO269.out (fun _ hk=>⟨hk.1.1.1.2,⟨hk.1.1.2,⟨hk.1.2,⟨hk.2,hk.1.1.1.1.1.1⟩⟩⟩⟩)⟩,⟨by (with_reducible repeat (first|apply R_alloc|apply R_drewN|apply R_drew));exact R_mono HO272.out (fun _ hk=>⟨hk.1.1.1.2,⟨hk.1.1.2,⟨hk.1.2,⟨hk.2,hk.1.1.1.1.1.1⟩⟩⟩⟩)⟩,⟨by (with_reducible repeat (first|apply blk_drewN|apply blk_drew|apply blk_alloc));exact BK250.out⟩,⟨by (with_reducible repeat (first|apply blk_drewN|apply blk_drew|apply blk_alloc));exact BK273.out⟩,⟨by repeat (first|(with_reducible first|exact HB.out|apply below_alloc|apply pw_below_drewN|apply below_drew1|refine below_set ?_ GE250.out|refine below_set ?_ GE273.out)|exact HB.out)⟩⟩
 clear HC11
 try clear c1
 try clear c2
 try clear p2
 try clear c3
 try clear c3b0
 try clear c8
 try clear c11
 try clear c13
 try clear c22
 try clear c23
 try clear c29
 try clear c30
 try clear c31
 try clear hcz13_0
 try clear hcz13_1
 try clear hcz13_2
 try clear hcz15_0
 try clear hcz15_1
 try clear hcz15_2
 try clear hcz20_0
 try clear hcz20_1
 try clear hcz20_2
 try clear hcz24_0
 try clear hcz24_1
 try clear hcz24_2
 try clear hcz5_0
 try clear hcz5_1
 try clear hcz5_2
 try clear hfz13_0
 try clear hfz13_1
 try clear hfz13_2
 try clear hfz15_0
 try clear hfz15_1
 try clear hfz15_2
 try clear hfz20_0
 try clear hfz20_1
 try clear hfz20_2
 try clear hfz24_0
 try clear hfz24_1
 try clear hfz24_2
 try clear hfz5_0
 try clear hfz5_1
 try clear hfz5_2
 obtain ⟨kq,x51_10,rfl,HA,HJ10,HO_4,HO_5,HO_8,HO_9,HO_274001,HO_274002,BK250,BK273,HB⟩:=hcut
 cases kq with
 | zero=>exact absurd HA.out (by simp [laws_FnExactFallsOf.j0])
 | succ kj10 =>
  have H:=HA.out
  clear HA
  simp only [laws_FnExactFallsOf.j0] at H
  by_cases c42 : x51_10 = true
  ·subst c42
   have H1 : (some false) = some r:=by rw [if_pos rfl] at H;exact H
   clear H
   have H:=H1
   clear H1
   obtain rfl:=Option.some.inj H
   go_wp2
   go_ret
   exact ⟨by first|rfl|(simp [errW_none,errW_some] <;> rfl)|(simp [*,errW_none,errW_some] <;> rfl),by repeat (first|(with_reducible first|exact HB.out|apply below_alloc|apply pw_below_drewN|apply below_drew1|refine below_set ?_ GE250.out|refine below_set ?_ GE273.out)|exact HB.out)⟩
  replace c42:=Bool.eq_false_iff.mpr c42
  subst c42
  have H1 : ((laws_toWire.f kj10 a0_0 l0_1 l0_2).bind fun bt283=>((laws_eqWire.f kj10 t266 t267 t270 bt283.1 bt283.2.1 bt283.2.2).bind fun t290=>(if t290 = true then ((laws_markWire.f kj10 t266 t267 t270 1).bind fun bt291=>(if bt291.1 < 0 then (laws_FnExactFallsOf.j1 kj10 t259 t262 t265 t274 t277 true a0_0 l0_1 l0_2) else ((laws_eqIntS.f kj10 t274 t259).bind fun t294=>(if t294 = true then ((laws_eqIntS.f kj10 t277 t262).bind fun t295=>(if t295 = true then (laws_FnExactFallsOf.j1 kj10 t259 t262 t265 t274 t277 (t280 != t265) a0_0 l0_1 l0_2) else (laws_FnExactFallsOf.j1 kj10 t259 t262 t265 t274 t277 true a0_0 l0_1 l0_2))) else (laws_FnExactFallsOf.j1 kj10 t259 t262 t265 t274 t277 true a0_0 l0_1 l0_2))))) else (some false)))) = some r:=by rw [if_neg (show ¬ (false = true) by decide)] at H;exact H
  clear H
  have H:=H1
  clear H1
  replace H:=Option.bind_eq_some_iff.mp H
  obtain ⟨⟨t283,t284,t287⟩,A430,H⟩:=H
  replace H : ((laws_eqWire.f kj10 t266 t267 t270 t283 t284 t287).bind fun t290=>(if t290 = true then ((laws_markWire.f kj10 t266 t267 t270 1).bind fun bt291=>(if bt291.1 < 0 then (laws_FnExactFallsOf.j1 kj10 t259 t262 t265 t274 t277 true a0_0 l0_1 l0_2) else ((laws_eqIntS.f kj10 t274 t259).bind fun t294=>(if t294 = true then ((laws_eqIntS.f kj10 t277 t262).bind fun t295=>(if t295 = true then (laws_FnExactFallsOf.j1 kj10 t259 t262 t265 t274 t277 (t280 != t265) a0_0 l0_1 l0_2) else (laws_FnExactFallsOf.j1 kj10 t259 t262 t265 t274 t277 true a0_0 l0_1 l0_2))) else (laws_FnExactFallsOf.j1 kj10 t259 t262 t265 t274 t277 true a0_0 l0_1 l0_2))))) else (some false))) = some r:=H
  have A43:=Aside0.mk A430
  clear A430
  replace H:=Option.bind_eq_some_iff.mp H
  obtain ⟨t290,A440,H⟩:=H
  replace H : (if t290 = true then ((laws_markWire.f kj10 t266 t267 t270 1).bind fun bt291=>(if bt291.1 < 0 then (laws_FnExactFallsOf.j1 kj10 t259 t262 t265 t274 t277 true a0_0 l0_1 l0_2) else ((laws_eqIntS.f kj10 t274 t259).bind fun t294=>(if t294 = true then ((laws_eqIntS.f kj10 t277 t262).bind fun t295=>(if t295 = true then (laws_FnExactFallsOf.j1 kj10 t259 t262 t265 t274 t277 (t280 != t265) a0_0 l0_1 l0_2) else (laws_FnExactFallsOf.j1 kj10 t259 t262 t265 t274 t277 true a0_0 l0_1 l0_2))) else (laws_FnExactFallsOf.j1 kj10 t259 t262 t265 t274 t277 true a0_0 l0_1 l0_2))))) else (some false)) = some r:=H
  have A44:=Aside0.mk A440
  clear A440
  by_cases c45 : t290 = true
  rotate_left
  ·replace c45:=Bool.eq_false_iff.mpr c45
   subst c45
   have H1 : (some false) = some r:=by rw [if_neg (show ¬ (false = true) by decide)] at H;exact H
   clear H
   have H:=H1
   clear H1
   obtain rfl:=Option.some.inj H
   try go_wp2
   have n0_:=Aside0.mk (R_drew HO_4.out)
   have n1_:=Aside0.mk (R_drew HO_5.out)
   have n2_:=Aside0.mk (R_drew HO_8.out)
   have n3_:=Aside0.mk (R_drew HO_9.out)
   have n4_:=Aside0.mk (R_drew HO_274001.out)
   have n5_:=Aside0.mk (R_drew HO_274002.out)
   have n6_:=Aside0.mk (blk_drew BK250.out)
   have n7_:=Aside0.mk (blk_drew BK273.out)
   have n8_:=Aside0.mk (below_drew1 HB.out)
   clear HO_4
   clear HO_5
   clear HO_8
   clear HO_9
   clear HO_274001
   clear HO_274002
   clear BK250
   clear BK273
   clear HB
   have HO_4:=n0_
   have HO_5:=n1_
   have HO_8:=n2_
   have HO_9:=n3_
   have HO_274001:=n4_
   have HO_274002:=n5_
   have BK250:=n6_
   have BK273:=n7_
   have HB:=n8_
   clear n0_ n1_ n2_ n3_ n4_ n5_ n6_ n7_ n8_
   refine start_ (n:=5) (S:=fun w'=>w'.cell? ⟨gb273,0,none⟩ = some (.int .i64 t266) ∧ w'.cell? ⟨gb273,1,none⟩ = some (.slice Ao25 t267.length co25) ∧ w'.cell? ⟨gb273,2,none⟩ = some (.slice Ao26 t270.length co26) ∧ w'.cell? ⟨gb250,0,none⟩ = some (.int .i64 a0_0) ∧ w'.cell? ⟨gb250,1,none⟩ = some (.slice A0_1 l0_1.length c0_1) ∧ w'.cell? ⟨gb250,2,none⟩ = some (.slice A0_2 l0_2.length c0_2)) (ds:=[]) #[false,false,false,false,false] (by kernel_rfl) rfl rfl ⟨(blk_cell BK273.out 0).trans rfl,(blk_cell BK273.out 1).trans rfl,(blk_cell BK273.out 2).trans rfl,(blk_cell BK250.out 0).trans rfl,(blk_cell BK250.out 1).trans rfl,(blk_cell BK250.out 2).trans rfl⟩ (fun hHeld=>?_)
   generalize wc.drew = w124 at HO_4 HO_5 HO_8 HO_9 HO_274001 HO_274002 BK250 BK273 HB hHeld ⊢
   refine take_ (i:=0) (N:=some 52) (v:=?_) (a':=?_) #[true,false,false,false,false] rfl rfl (by kernel_rfl) (fun _ _ _ h=>h) (Or.inl ⟨by rfl,?_⟩) hHeld ?_ ?_
   rotate_left
   ·rintro w' ⟨s0,s1,s2,s3,s4,s5⟩
    go_simp
    with_reducible rfl
   rotate_left
   ·simp only [Act.put,List.setIfInBounds_toArray,List.set_cons_zero,List.set_cons_succ,i64_w,i32_w]
    rfl
   refine take_ (i:=1) (N:=some 53) (v:=?_) (a':=?_) #[true,true,false,false,false] rfl rfl (by kernel_rfl) (fun _ _ _ h=>h) (Or.inl ⟨by rfl,?_⟩) hHeld ?_ ?_
   rotate_left
   ·rintro w' ⟨s0,s1,s2,s3,s4,s5⟩
    go_simp
    with_reducible rfl
   rotate_left
   ·simp only [Act.put,List.setIfInBounds_toArray,List.set_cons_zero,List.set_cons_succ,i64_w,i32_w]
    rfl
   refine one_ (i:=2) (N:=some 54) #[true,true,true,false,false] rfl rfl (by kernel_rfl) (by decide) (fun K hK=>?_)
   refine goes_ Try.func13 (by kernel_rfl) rfl #[.agg #[.int .i64 a0_0,.slice A0_1 l0_1.length c0_1,.slice A0_2 l0_2.length c0_2]] (by rfl) rfl rfl (by (try simp only [List.map_toArray,List.map_cons,List.map_nil]);first|done|rfl|(simp only [List.length_drop,List.length_take];rfl)) ?_
   with_reducible refine (laws_toWire.calls kj10 a0_0 _ _ l0_1 _ _ l0_2 t283 t284 t287 _ ?side1 ?side2 ?side3 ?side4 A43.out).mono ?_
   (case side1=>repeat (first|exact (C_below HR0_1.out HB.out)|(with_reducible refine C_alloc ?_ _)|(with_reducible refine C_drewN ?_ _)|(with_reducible refine C_drew ?_)))
   (case side2=>exact HC0_1.out)
   (case side3=>repeat (first|exact (C_below HR0_2.out HB.out)|(with_reducible refine C_alloc ?_ _)|(with_reducible refine C_drewN ?_ _)|(with_reducible refine C_drew ?_)))
   (case side4=>exact HC0_2.out)
   rintro e w125 ⟨v285,v288,rfl,ho0,ho1,hb⟩
   refine ⟨_,rfl,?_⟩
   have n0_:=Aside0.mk (R_mono (R_told (R_told (R_old (by (with_reducible repeat (first|apply R_alloc|apply R_drewN|apply R_drew));exact HO_4.out) hb) (R_base ho0)) (R_base ho1)) (fun _ h_=>h_.1))
   have n1_:=Aside0.mk (R_mono (R_told (R_told (R_old (by (with_reducible repeat (first|apply R_alloc|apply R_drewN|apply R_drew));exact HO_5.out) hb) (R_base ho0)) (R_base ho1)) (fun _ h_=>h_.1))
   have n2_:=Aside0.mk (R_mono (R_told (R_told (R_old (by (with_reducible repeat (first|apply R_alloc|apply R_drewN|apply R_drew));exact HO_8.out) hb) (R_base ho0)) (R_base ho1)) (fun _ h_=>h_.1))
   have n3_:=Aside0.mk (R_mono (R_told (R_told (R_old (by (with_reducible repeat (first|apply R_alloc|apply R_drewN|apply R_drew));exact HO_9.out) hb) (R_base ho0)) (R_base ho1)) (fun _ h_=>h_.1))
   have n4_:=Aside0.mk (R_mono (R_told (R_told (R_old (by (with_reducible repeat (first|apply R_alloc|apply R_drewN|apply R_drew));exact HO_274001.out) hb) (R_base ho0)) (R_base ho1)) (fun _ h_=>h_.1))
   have n5_:=Aside0.mk (R_mono (R_told (R_told (R_old (by (with_reducible repeat (first|apply R_alloc|apply R_drewN|apply R_drew));exact HO_274002.out) hb) (R_base ho0)) (R_base ho1)) (fun _ h_=>h_.1))
   have n6_:=Aside0.mk (R_lower (R_new' (R_new' (R_new' (R_new' (R_new' (R_new' ho0 (R_lt (by (with_reducible repeat (first|apply R_alloc|apply R_drewN|apply R_drew));exact HO_4.out))) (R_lt (by (with_reducible repeat (first|apply R_alloc|apply R_drewN|apply R_drew));exact HO_5.out))) (R_lt (by (with_reducible repeat (first|apply R_alloc|apply R_drewN|apply R_drew));exact HO_8.out))) (R_lt (by (with_reducible repeat (first|apply R_alloc|apply R_drewN|apply R_drew));exact HO_9.out))) (R_lt (by (with_reducible repeat (first|apply R_alloc|apply R_drewN|apply R_drew));exact HO_274001.out))) (R_lt (by (with_reducible repeat (first|apply R_alloc|apply R_drewN|apply R_drew));exact HO_274002.out))) (below_size (by repeat (first|(with_reducible first|exact HB.out|apply below_alloc|apply pw_below_drewN|apply below_drew1|refine below_set ?_ GE250.out|refine below_set ?_ GE273.out)|exact HB.out))))
   have n7_:=Aside0.mk (R_lower (R_new' (R_new' (R_new' (R_new' (R_new' (R_new' ho1 (R_lt (by (with_reducible repeat (first|apply R_alloc|apply R_drewN|apply R_drew));exact HO_4.out))) (R_lt (by (with_reducible repeat (first|apply R_alloc|apply R_drewN|apply R_drew));exact HO_5.out))) (R_lt (by (with_reducible repeat (first|apply R_alloc|apply R_drewN|apply R_drew));exact HO_8.out))) (R_lt (by (with_reducible repeat (first|apply R_alloc|apply R_drewN|apply R_drew));exact HO_9.out))) (R_lt (by (with_reducible repeat (first|apply R_alloc|apply R_drewN|apply R_drew));exact HO_274001.out))) (R_lt (by (with_reducible repeat (first|apply R_alloc|apply R_drewN|apply R_drew));exact HO_274002.out))) (below_size (by repeat (first|(with_reducible first|exact HB.out|apply below_alloc|apply pw_below_drewN|apply below_drew1|refine below_set ?_ GE250.out|refine below_set ?_ GE273.out)|exact HB.out))))
   have n8_:=Aside0.mk (blk_below (g:=gb250) (o:=.cells #[.int .i64 a0_0,.slice A0_1 l0_1.length c0_1,.slice A0_2 l0_2.length c0_2] 24 (0,0)) (by (with_reducible repeat (first|apply blk_drewN|apply blk_drew|apply blk_alloc));exact BK250.out) hb)
   have n9_:=Aside0.mk (blk_below (g:=gb273) (o:=.cells #[.int .i64 t266,.slice Ao25 t267.length co25,.slice Ao26 t270.length co26] 27 (0,0)) (by (with_reducible repeat (first|apply blk_drewN|apply blk_drew|apply blk_alloc));exact BK273.out) hb)
   have n10_:=Aside0.mk (below_step (by repeat (first|(with_reducible first|exact HB.out|apply below_alloc|apply pw_below_drewN|apply below_drew1|refine below_set ?_ GE250.out|refine below_set ?_ GE273.out)|exact HB.out)) hb)
   clear HO_4
   clear HO_5
   clear HO_8
   clear HO_9
   clear HO_274001
   clear HO_274002
   clear BK250
   clear BK273
   clear HB
   have HO_4:=n0_
   have HO_5:=n1_
   have HO_8:=n2_
   have HO_9:=n3_
   have HO_274001:=n4_
   have HO_274002:=n5_
   have HO286:=n6_
   have HO289:=n7_
   have BK250:=n8_
   have BK273:=n9_
   have HB:=n10_
   clear n0_ n1_ n2_ n3_ n4_ n5_ n6_ n7_ n8_ n9_ n10_
   (try clear hb)
   (try clear hb2)
   (try clear hk)
   (try clear hi)
   (try clear ho0)
   (try clear ho1)
   obtain ⟨Ao126,co126,eo126⟩:=R_slice HO286.out
   (first|subst eo126|(injection eo126 with f1_ f2_ f3_;have f4_:=f1_.symm;have f5_:=f3_.symm;clear f1_ f2_ f3_;subst f4_;subst f5_))
   obtain ⟨Ao127,co127,eo127⟩:=R_slice HO289.out
   (first|subst eo127|(injection eo127 with f1_ f2_ f3_;have f4_:=f1_.symm;have f5_:=f3_.symm;clear f1_ f2_ f3_;subst f4_;subst f5_))
   refine hK.out _ _ ⟨(blk_cell BK273.out 0).trans rfl,(blk_cell BK273.out 1).trans rfl,(blk_cell BK273.out 2).trans rfl,(blk_cell BK250.out 0).trans rfl,(blk_cell BK250.out 1).trans rfl,(blk_cell BK250.out 2).trans rfl⟩ (fun hHeld=>?_)
   clear hK K
   refine norm_ (a':=?_) ?_ ?_
   rotate_left
   ·show Act.put _ (some 54) _ = _
    simp only [Act.put,List.setIfInBounds_toArray,List.set_cons_zero,List.set_cons_succ,i64_w,i32_w]
    rfl
   refine one_ (i:=3) (N:=some 55) #[true,true,true,true,false] rfl rfl (by kernel_rfl) (by decide) (fun K hK=>?_)
   refine goes_ Try.func15 (by kernel_rfl) rfl #[.agg #[.int .i64 t266,.slice Ao25 t267.length co25,.slice Ao26 t270.length co26],.agg #[.int .i64 t283,.slice Ao126 t284.length co126,.slice Ao127 t287.length co127]] (by rfl) rfl rfl (by (try simp only [List.map_toArray,List.map_cons,List.map_nil]);first|done|rfl|(simp only [List.length_drop,List.length_take];rfl)) ?_
   with_reducible refine (laws_eqWire.calls kj10 t266 _ _ t267 _ _ t270 t283 _ _ t284 _ _ t287 false _ ?side1 ?side2 ?side3 ?side4 ?side5 ?side6 ?side7 ?side8 A44.out).mono ?_
   (case side1=>repeat (first|exact (R_reads' HO_274001.out).2.2|(with_reducible refine C_alloc ?_ _)|(with_reducible refine C_drewN ?_ _)|(with_reducible refine C_drew ?_)))
   (case side2=>exact (R_reads' HO_274001.out).2.1)
   (case side3=>repeat (first|exact (R_reads' HO_274002.out).2.2|(with_reducible refine C_alloc ?_ _)|(with_reducible refine C_drewN ?_ _)|(with_reducible refine C_drew ?_)))
   (case side4=>exact (R_reads' HO_274002.out).2.1)
   (case side5=>repeat (first|exact (R_reads' HO286.out).2.2|(with_reducible refine C_alloc ?_ _)|(with_reducible refine C_drewN ?_ _)|(with_reducible refine C_drew ?_)))
   (case side6=>exact (R_reads' HO286.out).2.1)
   (case side7=>repeat (first|exact (R_reads' HO289.out).2.2|(with_reducible refine C_alloc ?_ _)|(with_reducible refine C_drewN ?_ _)|(with_reducible refine C_drew ?_)))
   (case side8=>exact (R_reads' HO289.out).2.1)
   rintro e w128 ⟨rfl,hb⟩
   refine ⟨_,rfl,?_⟩
   have n0_:=Aside0.mk (R_below (by (with_reducible repeat (first|apply R_alloc|apply R_drewN|apply R_drew));exact HO_4.out) hb)
   have n1_:=Aside0.mk (R_below (by (with_reducible repeat (first|apply R_alloc|apply R_drewN|apply R_drew));exact HO_5.out) hb)
   have n2_:=Aside0.mk (R_below (by (with_reducible repeat (first|apply R_alloc|apply R_drewN|apply R_drew));exact HO_8.out) hb)
   have n3_:=Aside0.mk (R_below (by (with_reducible repeat (first|apply R_alloc|apply R_drewN|apply R_drew));exact HO_9.out) hb)
   have n4_:=Aside0.mk (R_below (by (with_reducible repeat (first|apply R_alloc|apply R_drewN|apply R_drew));exact HO_274001.out) hb)
   have n5_:=Aside0.mk (R_below (by (with_reducible repeat (first|apply R_alloc|apply R_drewN|apply R_drew));exact HO_274002.out) hb)
   have n6_:=Aside0.mk (R_below (by (with_reducible repeat (first|apply R_alloc|apply R_drewN|apply R_drew));exact HO286.out) hb)
   have n7_:=Aside0.mk (R_below (by (with_reducible repeat (first|apply R_alloc|apply R_drewN|apply R_drew));exact HO289.out) hb)
   have n8_:=Aside0.mk (blk_below (g:=gb250) (o:=.cells #[.int .i64 a0_0,.slice A0_1 l0_1.length c0_1,.slice A0_2 l0_2.length c0_2] 24 (0,0)) (by (with_reducible repeat (first|apply blk_drewN|apply blk_drew|apply blk_alloc));exact BK250.out) hb)
   have n9_:=Aside0.mk (blk_below (g:=gb273) (o:=.cells #[.int .i64 t266,.slice Ao25 t267.length co25,.slice Ao26 t270.length co26] 27 (0,0)) (by (with_reducible repeat (first|apply blk_drewN|apply blk_drew|apply blk_alloc));exact BK273.out) hb)
   have n10_:=Aside0.mk (below_step (by repeat (first|(with_reducible first|exact HB.out|apply below_alloc|apply pw_below_drewN|apply below_drew1|refine below_set ?_ GE250.out|refine below_set ?_ GE273.out)|exact HB.out)) hb)
   clear HO_4
   clear HO_5
   clear HO_8
   clear HO_9
   clear HO_274001
   clear HO_274002
   clear HO286
   clear HO289
   clear BK250
   clear BK273
   clear HB
   have HO_4:=n0_
   have HO_5:=n1_
   have HO_8:=n2_
   have HO_9:=n3_
   have HO_274001:=n4_
   have HO_274002:=n5_
   have HO286:=n6_
   have HO289:=n7_
   have BK250:=n8_
   have BK273:=n9_
   have HB:=n10_
   clear n0_ n1_ n2_ n3_ n4_ n5_ n6_ n7_ n8_ n9_ n10_
   (try clear hb)
   (try clear hb2)
   (try clear hk)
   (try clear hi)
   refine hK.out _ _ ⟨(blk_cell BK273.out 0).trans rfl,(blk_cell BK273.out 1).trans rfl,(blk_cell BK273.out 2).trans rfl,(blk_cell BK250.out 0).trans rfl,(blk_cell BK250.out 1).trans rfl,(blk_cell BK250.out 2).trans rfl⟩ (fun hHeld=>?_)
   clear hK K
   refine norm_ (a':=?_) ?_ ?_
   rotate_left
   ·show Act.put _ (some 55) _ = _
    simp only [Act.put,List.setIfInBounds_toArray,List.set_cons_zero,List.set_cons_succ,i64_w,i32_w]
    rfl
   refine pure_ (i:=4) (N:=some 56) (v:=?_) (a':=?_) #[true,true,true,true,true] rfl rfl (by kernel_rfl) (fun _ _ _ h=>h) (Or.inl ⟨by rfl,?_⟩) ?_ ?_
   rotate_left
   ·intro w'
    go_simp
    with_reducible rfl
   rotate_left
   ·simp only [Act.put,List.setIfInBounds_toArray,List.set_cons_zero,List.set_cons_succ,i64_w,i32_w]
    rfl
   refine done_ (by kernel_rfl) ?_
   try go_wp2
   go_ret
   exact ⟨by first|rfl|(simp [errW_none,errW_some] <;> rfl)|(simp [*,errW_none,errW_some] <;> rfl),by repeat (first|(with_reducible first|exact HB.out|apply below_alloc|apply pw_below_drewN|apply below_drew1|refine below_set ?_ GE250.out|refine below_set ?_ GE273.out)|exact HB.out)⟩
  subst c45
  have H1 : ((laws_markWire.f kj10 t266 t267 t270 1).bind fun bt291=>(if bt291.1 < 0 then (laws_FnExactFallsOf.j1 kj10 t259 t262 t265 t274 t277 true a0_0 l0_1 l0_2) else ((laws_eqIntS.f kj10 t274 t259).bind fun t294=>(if t294 = true then ((laws_eqIntS.f kj10 t277 t262).bind fun t295=>(if t295 = true then (laws_FnExactFallsOf.j1 kj10 t259 t262 t265 t274 t277 (t280 != t265) a0_0 l0_1 l0_2) else (laws_FnExactFallsOf.j1 kj10 t259 t262 t265 t274 t277 true a0_0 l0_1 l0_2))) else (laws_FnExactFallsOf.j1 kj10 t259 t262 t265 t274 t277 true a0_0 l0_1 l0_2))))) = some r:=by rw [if_pos rfl] at H;exact H
  clear H
  have H:=H1
  clear H1
  replace H:=Option.bind_eq_some_iff.mp H
  obtain ⟨⟨t291,t292,t293⟩,A460,H⟩:=H
  replace H : (if t291 < 0 then (laws_FnExactFallsOf.j1 kj10 t259 t262 t265 t274 t277 true a0_0 l0_1 l0_2) else ((laws_eqIntS.f kj10 t274 t259).bind fun t294=>(if t294 = true then ((laws_eqIntS.f kj10 t277 t262).bind fun t295=>(if t295 = true then (laws_FnExactFallsOf.j1 kj10 t259 t262 t265 t274 t277 (t280 != t265) a0_0 l0_1 l0_2) else (laws_FnExactFallsOf.j1 kj10 t259 t262 t265 t274 t277 true a0_0 l0_1 l0_2))) else (laws_FnExactFallsOf.j1 kj10 t259 t262 t265 t274 t277 true a0_0 l0_1 l0_2)))) = some r:=H
  have A46:=Aside0.mk A460
  clear A460
  have HC47:=Aside0.mk H
  clear H
  try go_wp2
  have n0_:=Aside0.mk (R_drew HO_4.out)
  have n1_:=Aside0.mk (R_drew HO_5.out)
  have n2_:=Aside0.mk (R_drew HO_8.out)
  have n3_:=Aside0.mk (R_drew HO_9.out)
  have n4_:=Aside0.mk (R_drew HO_274001.out)
  have n5_:=Aside0.mk (R_drew HO_274002.out)
  have n6_:=Aside0.mk (blk_drew BK250.out)
  have n7_:=Aside0.mk (blk_drew BK273.out)
  have n8_:=Aside0.mk (below_drew1 HB.out)
  clear HO_4
  clear HO_5
  clear HO_8
  clear HO_9
  clear HO_274001
  clear HO_274002
  clear BK250
  clear BK273
  clear HB
  have HO_4:=n0_
  have HO_5:=n1_
  have HO_8:=n2_
  have HO_9:=n3_
  have HO_274001:=n4_
  have HO_274002:=n5_
  have BK250:=n6_
  have BK273:=n7_
  have HB:=n8_
  clear n0_ n1_ n2_ n3_ n4_ n5_ n6_ n7_ n8_
  refine start_ (n:=5) (S:=fun w'=>w'.cell? ⟨gb273,0,none⟩ = some (.int .i64 t266) ∧ w'.cell? ⟨gb273,1,none⟩ = some (.slice Ao25 t267.length co25) ∧ w'.cell? ⟨gb273,2,none⟩ = some (.slice Ao26 t270.length co26) ∧ w'.cell? ⟨gb250,0,none⟩ = some (.int .i64 a0_0) ∧ w'.cell? ⟨gb250,1,none⟩ = some (.slice A0_1 l0_1.length c0_1) ∧ w'.cell? ⟨gb250,2,none⟩ = some (.slice A0_2 l0_2.length c0_2)) (ds:=[]) #[false,false,false,false,false] (by kernel_rfl) rfl rfl ⟨(blk_cell BK273.out 0).trans rfl,(blk_cell BK273.out 1).trans rfl,(blk_cell BK273.out 2).trans rfl,(blk_cell BK250.out 0).trans rfl,(blk_cell BK250.out 1).trans rfl,(blk_cell BK250.out 2).trans rfl⟩ (fun hHeld=>?_)
  generalize wc.drew = w48 at HO_4 HO_5 HO_8 HO_9 HO_274001 HO_274002 BK250 BK273 HB hHeld ⊢
  refine take_ (i:=0) (N:=some 52) (v:=?_) (a':=?_) #[true,false,false,false,false] rfl rfl (by kernel_rfl) (fun _ _ _ h=>h) (Or.inl ⟨by rfl,?_⟩) hHeld ?_ ?_
  rotate_left
  ·rintro w' ⟨s0,s1,s2,s3,s4,s5⟩
   go_simp
   with_reducible rfl
  rotate_left
  ·simp only [Act.put,List.setIfInBounds_toArray,List.set_cons_zero,List.set_cons_succ,i64_w,i32_w]
   rfl
  refine take_ (i:=1) (N:=some 53) (v:=?_) (a':=?_) #[true,true,false,false,false] rfl rfl (by kernel_rfl) (fun _ _ _ h=>h) (Or.inl ⟨by rfl,?_⟩) hHeld ?_ ?_
  rotate_left
  ·rintro w' ⟨s0,s1,s2,s3,s4,s5⟩
   go_simp
   with_reducible rfl
  rotate_left
  ·simp only [Act.put,List.setIfInBounds_toArray,List.set_cons_zero,List.set_cons_succ,i64_w,i32_w]
   rfl
  refine one_ (i:=2) (N:=some 54) #[true,true,true,false,false] rfl rfl (by kernel_rfl) (by decide) (fun K hK=>?_)
  refine goes_ Try.func13 (by kernel_rfl) rfl #[.agg #[.int .i64 a0_0,.slice A0_1 l0_1.length c0_1,.slice A0_2 l0_2.length c0_2]] (by rfl) rfl rfl (by (try simp only [List.map_toArray,List.map_cons,List.map_nil]);first|done|rfl|(simp only [List.length_drop,List.length_take];rfl)) ?_
  with_reducible refine (laws_toWire.calls kj10 a0_0 _ _ l0_1 _ _ l0_2 t283 t284 t287 _ ?side1 ?side2 ?side3 ?side4 A43.out).mono ?_
  (case side1=>repeat (first|exact (C_below HR0_1.out HB.out)|(with_reducible refine C_alloc ?_ _)|(with_reducible refine C_drewN ?_ _)|(with_reducible refine C_drew ?_)))
  (case side2=>exact HC0_1.out)
  (case side3=>repeat (first|exact (C_below HR0_2.out HB.out)|(with_reducible refine C_alloc ?_ _)|(with_reducible refine C_drewN ?_ _)|(with_reducible refine C_drew ?_)))
  (case side4=>exact HC0_2.out)
  rintro e w49 ⟨v285,v288,rfl,ho0,ho1,hb⟩
  refine ⟨_,rfl,?_⟩
  have n0_:=Aside0.mk (R_mono (R_told (R_told (R_old (by (with_reducible repeat (first|apply R_alloc|apply R_drewN|apply R_drew));exact HO_4.out) hb) (R_base ho0)) (R_base ho1)) (fun _ h_=>h_.1))
  have n1_:=Aside0.mk (R_mono (R_told (R_told (R_old (by (with_reducible repeat (first|apply R_alloc|apply R_drewN|apply R_drew));exact HO_5.out) hb) (R_base ho0)) (R_base ho1)) (fun _ h_=>h_.1))
  have n2_:=Aside0.mk (R_mono (R_told (R_told (R_old (by (with_reducible repeat (first|apply R_alloc|apply R_drewN|apply R_drew));exact HO_8.out) hb) (R_base ho0)) (R_base ho1)) (fun _ h_=>h_.1))
  have n3_:=Aside0.mk (R_mono (R_told (R_told (R_old (by (with_reducible repeat (first|apply R_alloc|apply R_drewN|apply R_drew));exact HO_9.out) hb) (R_base ho0)) (R_base ho1)) (fun _ h_=>h_.1))
  have n4_:=Aside0.mk (R_mono (R_told (R_told (R_old (by (with_reducible repeat (first|apply R_alloc|apply R_drewN|apply R_drew));exact HO_274001.out) hb) (R_base ho0)) (R_base ho1)) (fun _ h_=>h_.1))
  have n5_:=Aside0.mk (R_mono (R_told (R_told (R_old (by (with_reducible repeat (first|apply R_alloc|apply R_drewN|apply R_drew));exact HO_274002.out) hb) (R_base ho0)) (R_base ho1)) (fun _ h_=>h_.1))
  have n6_:=Aside0.mk (R_lower (R_new' (R_new' (R_new' (R_new' (R_new' (R_new' ho0 (R_lt (by (with_reducible repeat (first|apply R_alloc|apply R_drewN|apply R_drew));exact HO_4.out))) (R_lt (by (with_reducible repeat (first|apply R_alloc|apply R_drewN|apply R_drew));exact HO_5.out))) (R_lt (by (with_reducible repeat (first|apply R_alloc|apply R_drewN|apply R_drew));exact HO_8.out))) (R_lt (by (with_reducible repeat (first|apply R_alloc|apply R_drewN|apply R_drew));exact HO_9.out))) (R_lt (by (with_reducible repeat (first|apply R_alloc|apply R_drewN|apply R_drew));exact HO_274001.out))) (R_lt (by (with_reducible repeat (first|apply R_alloc|apply R_drewN|apply R_drew));exact HO_274002.out))) (below_size (by repeat (first|(with_reducible first|exact HB.out|apply below_alloc|apply pw_below_drewN|apply below_drew1|refine below_set ?_ GE250.out|refine below_set ?_ GE273.out)|exact HB.out))))
  have n7_:=Aside0.mk (R_lower (R_new' (R_new' (R_new' (R_new' (R_new' (R_new' ho1 (R_lt (by (with_reducible repeat (first|apply R_alloc|apply R_drewN|apply R_drew));exact HO_4.out))) (R_lt (by (with_reducible repeat (first|apply R_alloc|apply R_drewN|apply R_drew));exact HO_5.out))) (R_lt (by (with_reducible repeat (first|apply R_alloc|apply R_drewN|apply R_drew));exact HO_8.out))) (R_lt (by (with_reducible repeat (first|apply R_alloc|apply R_drewN|apply R_drew));exact HO_9.out))) (R_lt (by (with_reducible repeat (first|apply R_alloc|apply R_drewN|apply R_drew));exact HO_274001.out))) (R_lt (by (with_reducible repeat (first|apply R_alloc|apply R_drewN|apply R_drew));exact HO_274002.out))) (below_size (by repeat (first|(with_reducible first|exact HB.out|apply below_alloc|apply pw_below_drewN|apply below_drew1|refine below_set ?_ GE250.out|refine below_set ?_ GE273.out)|exact HB.out))))
  have n8_:=Aside0.mk (blk_below (g:=gb250) (o:=.cells #[.int .i64 a0_0,.slice A0_1 l0_1.length c0_1,.slice A0_2 l0_2.length c0_2] 24 (0,0)) (by (with_reducible repeat (first|apply blk_drewN|apply blk_drew|apply blk_alloc));exact BK250.out) hb)
  have n9_:=Aside0.mk (blk_below (g:=gb273) (o:=.cells #[.int .i64 t266,.slice Ao25 t267.length co25,.slice Ao26 t270.length co26] 27 (0,0)) (by (with_reducible repeat (first|apply blk_drewN|apply blk_drew|apply blk_alloc));exact BK273.out) hb)
  have n10_:=Aside0.mk (below_step (by repeat (first|(with_reducible first|exact HB.out|apply below_alloc|apply pw_below_drewN|apply below_drew1|refine below_set ?_ GE250.out|refine below_set ?_ GE273.out)|exact HB.out)) hb)
  clear HO_4
  clear HO_5
  clear HO_8
  clear HO_9
  clear HO_274001
  clear HO_274002
  clear BK250
  clear BK273
  clear HB
  have HO_4:=n0_
  have HO_5:=n1_
  have HO_8:=n2_
  have HO_9:=n3_
  have HO_274001:=n4_
  have HO_274002:=n5_
  have HO286:=n6_
  have HO289:=n7_
  have BK250:=n8_
  have BK273:=n9_
  have HB:=n10_
  clear n0_ n1_ n2_ n3_ n4_ n5_ n6_ n7_ n8_ n9_ n10_
  (try clear hb)
  (try clear hb2)
  (try clear hk)
  (try clear hi)
  (try clear ho0)
  (try clear ho1)
  obtain ⟨Ao50,co50,eo50⟩:=R_slice HO286.out
  (first|subst eo50|(injection eo50 with f1_ f2_ f3_;have f4_:=f1_.symm;have f5_:=f3_.symm;clear f1_ f2_ f3_;subst f4_;subst f5_))
  obtain ⟨Ao51,co51,eo51⟩:=R_slice HO289.out
  (first|subst eo51|(injection eo51 with f1_ f2_ f3_;have f4_:=f1_.symm;have f5_:=f3_.symm;clear f1_ f2_ f3_;subst f4_;subst f5_))
  refine hK.out _ _ ⟨(blk_cell BK273.out 0).trans rfl,(blk_cell BK273.out 1).trans rfl,(blk_cell BK273.out 2).trans rfl,(blk_cell BK250.out 0).trans rfl,(blk_cell BK250.out 1).trans rfl,(blk_cell BK250.out 2).trans rfl⟩ (fun hHeld=>?_)
  clear hK K
  refine norm_ (a':=?_) ?_ ?_
  rotate_left
  ·show Act.put _ (some 54) _ = _
   simp only [Act.put,List.setIfInBounds_toArray,List.set_cons_zero,List.set_cons_succ,i64_w,i32_w]
   rfl
  refine one_ (i:=3) (N:=some 55) #[true,true,true,true,false] rfl rfl (by kernel_rfl) (by decide) (fun K hK=>?_)
  refine goes_ Try.func15 (by kernel_rfl) rfl #[.agg #[.int .i64 t266,.slice Ao25 t267.length co25,.slice Ao26 t270.length co26],.agg #[.int .i64 t283,.slice Ao50 t284.length co50,.slice Ao51 t287.length co51]] (by rfl) rfl rfl (by (try simp only [List.map_toArray,List.map_cons,List.map_nil]);first|done|rfl|(simp only [List.length_drop,List.length_take];rfl)) ?_
  with_reducible refine (laws_eqWire.calls kj10 t266 _ _ t267 _ _ t270 t283 _ _ t284 _ _ t287 true _ ?side1 ?side2 ?side3 ?side4 ?side5 ?side6 ?side7 ?side8 A44.out).mono ?_
  (case side1=>repeat (first|exact (R_reads' HO_274001.out).2.2|(with_reducible refine C_alloc ?_ _)|(with_reducible refine C_drewN ?_ _)|(with_reducible refine C_drew ?_)))
  (case side2=>exact (R_reads' HO_274001.out).2.1)
  (case side3=>repeat (first|exact (R_reads' HO_274002.out).2.2|(with_reducible refine C_alloc ?_ _)|(with_reducible refine C_drewN ?_ _)|(with_reducible refine C_drew ?_)))
  (case side4=>exact (R_reads' HO_274002.out).2.1)
  (case side5=>repeat (first|exact (R_reads' HO286.out).2.2|(with_reducible refine C_alloc ?_ _)|(with_reducible refine C_drewN ?_ _)|(with_reducible refine C_drew ?_)))
  (case side6=>exact (R_reads' HO286.out).2.1)
  (case side7=>repeat (first|exact (R_reads' HO289.out).2.2|(with_reducible refine C_alloc ?_ _)|(with_reducible refine C_drewN ?_ _)|(with_reducible refine C_drew ?_)))
  (case side8=>exact (R_reads' HO289.out).2.1)
  rintro e w52 ⟨rfl,hb⟩
  refine ⟨_,rfl,?_⟩
  have n0_:=Aside0.mk (R_below (by (with_reducible repeat (first|apply R_alloc|apply R_drewN|apply R_drew));exact HO_4.out) hb)
  have n1_:=Aside0.mk (R_below (by (with_reducible repeat (first|apply R_alloc|apply R_drewN|apply R_drew));exact HO_5.out) hb)
  have n2_:=Aside0.mk (R_below (by (with_reducible repeat (first|apply R_alloc|apply R_drewN|apply R_drew));exact HO_8.out) hb)
  have n3_:=Aside0.mk (R_below (by (with_reducible repeat (first|apply R_alloc|apply R_drewN|apply R_drew));exact HO_9.out) hb)
  have n4_:=Aside0.mk (R_below (by (with_reducible repeat (first|apply R_alloc|apply R_drewN|apply R_drew));exact HO_274001.out) hb)
  have n5_:=Aside0.mk (R_below (by (with_reducible repeat (first|apply R_alloc|apply R_drewN|apply R_drew));exact HO_274002.out) hb)
  have n6_:=Aside0.mk (R_below (by (with_reducible repeat (first|apply R_alloc|apply R_drewN|apply R_drew));exact HO286.out) hb)
  have n7_:=Aside0.mk (R_below (by (with_reducible repeat (first|apply R_alloc|apply R_drewN|apply R_drew));exact HO289.out) hb)
  have n8_:=Aside0.mk (blk_below (g:=gb250) (o:=.cells #[.int .i64 a0_0,.slice A0_1 l0_1.length c0_1,.slice A0_2 l0_2.length c0_2] 24 (0,0)) (by (with_reducible repeat (first|apply blk_drewN|apply blk_drew|apply blk_alloc));exact BK250.out) hb)
  have n9_:=Aside0.mk (blk_below (g:=gb273) (o:=.cells #[.int .i64 t266,.slice Ao25 t267.length co25,.slice Ao26 t270.length co26] 27 (0,0)) (by (with_reducible repeat (first|apply blk_drewN|apply blk_drew|apply blk_alloc));exact BK273.out) hb)
  have n10_:=Aside0.mk (below_step (by repeat (first|(with_reducible first|exact HB.out|apply below_alloc|apply pw_below_drewN|apply below_drew1|refine below_set ?_ GE250.out|refine below_set ?_ GE273.out)|exact HB.out)) hb)
  clear HO_4
  clear HO_5
  clear HO_8
  clear HO_9
  clear HO_274001
  clear HO_274002
  clear HO286
  clear HO289
  clear BK250
  clear BK273
  clear HB
  have HO_4:=n0_
  have HO_5:=n1_
  have HO_8:=n2_
  have HO_9:=n3_
  have HO_274001:=n4_
  have HO_274002:=n5_
  have HO286:=n6_
  have HO289:=n7_
  have BK250:=n8_
  have BK273:=n9_
  have HB:=n10_
  clear n0_ n1_ n2_ n3_ n4_ n5_ n6_ n7_ n8_ n9_ n10_
  (try clear hb)
  (try clear hb2)
  (try clear hk)
  (try clear hi)
  refine hK.out _ _ ⟨(blk_cell BK273.out 0).trans rfl,(blk_cell BK273.out 1).trans rfl,(blk_cell BK273.out 2).trans rfl,(blk_cell BK250.out 0).trans rfl,(blk_cell BK250.out 1).trans rfl,(blk_cell BK250.out 2).trans rfl⟩ (fun hHeld=>?_)
  clear hK K
  refine norm_ (a':=?_) ?_ ?_
  rotate_left
  ·show Act.put _ (some 55) _ = _
   simp only [Act.put,List.setIfInBounds_toArray,List.set_cons_zero,List.set_cons_succ,i64_w,i32_w]
   rfl
  refine pure_ (i:=4) (N:=some 56) (v:=?_) (a':=?_) #[true,true,true,true,true] rfl rfl (by kernel_rfl) (fun _ _ _ h=>h) (Or.inl ⟨by rfl,?_⟩) ?_ ?_
  rotate_left
  ·intro w'
   go_simp
   with_reducible rfl
  rotate_left
  ·simp only [Act.put,List.setIfInBounds_toArray,List.set_cons_zero,List.set_cons_succ,i64_w,i32_w]
   rfl
  refine done_ (by kernel_rfl) ?_
  have hnb53:=NB273_250.out
  have hnc53:=NB250_273.out
  have hcz54_0 : w52.cell? ⟨gb273,0,none⟩ = some (.int .i64 t266):=(blk_cell BK273.out 0).trans rfl
  have hcz54_1 : w52.cell? ⟨gb273,1,none⟩ = some (.slice Ao25 t267.length co25):=(blk_cell BK273.out 1).trans rfl
  have hcz54_2 : w52.cell? ⟨gb273,2,none⟩ = some (.slice Ao26 t270.length co26):=(blk_cell BK273.out 2).trans rfl
  have hfz54_0:=blk_frozen BK273.out 0
  have hfz54_1:=blk_frozen BK273.out 1
  have hfz54_2:=blk_frozen BK273.out 2
  go_upto_region 14 with (first|((with_reducible refine gate_callee (f:=23) rfl ?_);refine goesL_ (some 59) rfl rfl Try.func23 (by kernel_rfl) rfl #[.agg #[.int .i64 t266,.slice Ao25 t267.length co25,.slice Ao26 t270.length co26],.int .i64 1] rfl (by (try simp only [List.map_toArray,List.map_cons,List.map_nil]);first|done|rfl|(simp only [List.length_drop,List.length_take];rfl)) ?_;(with_reducible refine (laws_markWire.calls kj10 t266 (fun k_=>some k_ = (.slice Ao25 t267.length co25 : Value).ownBlock) (.slice Ao25 t267.length co25) t267 (fun k_=>some k_ = (.slice Ao26 t270.length co26 : Value).ownBlock) (.slice Ao26 t270.length co26) t270 1 t291 t292 t293 w _ ?side1 ?side2 ?side3 ?side4 ?side5 A46.out).mono ?_);(case side1=>repeat (first|(with_reducible first|exact HB.out|apply below_alloc|apply pw_below_drewN|apply below_drew1|refine below_set ?_ GE250.out|refine below_set ?_ GE273.out)|exact HB.out));(case side2=>exact R_tight rfl HO_274001.out);(case side3=>exact fun k_ e_=>(HO_274001.out.1 k_ e_.symm).1.1.2.2.2.2);(case side4=>exact R_tight rfl HO_274002.out);(case side5=>exact fun k_ e_=>(HO_274002.out.1 k_ e_.symm).1.1.2.2.2.2);rintro e w55 ⟨rfl,hy0,hy1,hb,hkp⟩;refine ⟨_,rfl,?_⟩;have n0_:=Aside0.mk (R_mono (ok':=fun k_=>some k_ ≠ (v263 : Value).ownBlock ∧ some k_ ≠ (v275 : Value).ownBlock ∧ some k_ ≠ (v278 : Value).ownBlock ∧ some k_ ≠ (.slice Ao25 t267.length co25 : Value).ownBlock ∧ some k_ ≠ (.slice Ao26 t270.length co26 : Value).ownBlock ∧ some k_ ≠ (.slice Ao50 t284.length co50 : Value).ownBlock ∧ some k_ ≠ (.slice Ao51 t287.length co51 : Value).ownBlock) (R_keptB (HO_4.out) hkp (fun k_ hk_ hs_=>Or.elim hs_ (fun e_=>(hk_.1.1.2.2.2.1) e_) (fun e_=>(hk_.1.1.2.2.2.2) e_))) (fun k_ hk_=>⟨hk_.1.1.1.1,hk_.1.1.1.2.1,hk_.1.1.1.2.2.1,hk_.1.1.1.2.2.2.1,hk_.1.1.1.2.2.2.2,hk_.1.1.2,hk_.1.2⟩));have n1_:=Aside0.mk (R_mono (ok':=fun k_=>some k_ ≠ (v260 : Value).ownBlock ∧ some k_ ≠ (v275 : Value).ownBlock ∧ some k_ ≠ (v278 : Value).ownBlock ∧ some k_ ≠ (.slice Ao25 t267.length co25 : Value).ownBlock ∧ some k_ ≠ (.slice Ao26 t270.length co26 : Value).ownBlock ∧ some k_ ≠ (.slice Ao50 t284.length co50 : Value).ownBlock ∧ some k_ ≠ (.slice Ao51 t287.length co51 : Value).ownBlock) (R_keptB (HO_5.out) hkp (fun k_ hk_ hs_=>Or.elim hs_ (fun e_=>(hk_.1.1.2.2.2.1) e_) (fun e_=>(hk_.1.1.2.2.2.2) e_))) (fun k_ hk_=>⟨hk_.1.1.1.1,hk_.1.1.1.2.1,hk_.1.1.1.2.2.1,hk_.1.1.1.2.2.2.1,hk_.1.1.1.2.2.2.2,hk_.1.1.2,hk_.1.2⟩));have n2_:=Aside0.mk (R_mono (ok':=fun k_=>some k_ ≠ (v260 : Value).ownBlock ∧ some k_ ≠ (v263 : Value).ownBlock ∧ some k_ ≠ (v278 : Value).ownBlock ∧ some k_ ≠ (.slice Ao25 t267.length co25 : Value).ownBlock ∧ some k_ ≠ (.slice Ao26 t270.length co26 : Value).ownBlock ∧ some k_ ≠ (.slice Ao50 t284.length co50 : Value).ownBlock ∧ some k_ ≠ (.slice Ao51 t287.length co51 : Value).ownBlock) (R_keptB (HO_8.out) hkp (fun k_ hk_ hs_=>Or.elim hs_ (fun e_=>(hk_.1.1.2.2.2.1) e_) (fun e_=>(hk_.1.1.2.2.2.2) e_))) (fun k_ hk_=>⟨hk_.1.1.1.1,hk_.1.1.1.2.1,hk_.1.1.1.2.2.1,hk_.1.1.1.2.2.2.1,hk_.1.1.1.2.2.2.2,hk_.1.1.2,hk_.1.2⟩));have n3_:=Aside0.mk (R_mono (ok':=fun k_=>some k_ ≠ (v260 : Value).ownBlock ∧ some k_ ≠ (v263 : Value).ownBlock ∧ some k_ ≠ (v275 : Value).ownBlock ∧ some k_ ≠ (.slice Ao25 t267.length co25 : Value).ownBlock ∧ some k_ ≠ (.slice Ao26 t270.length co26 : Value).ownBlock ∧ some k_ ≠ (.slice Ao50 t284.length co50 : Value).ownBlock ∧ some k_ ≠ (.slice Ao51 t287.length co51 : Value).ownBlock) (R_keptB (HO_9.out) hkp (fun k_ hk_ hs_=>Or.elim hs_ (fun e_=>(hk_.1.1.2.2.2.1) e_) (fun e_=>(hk_.1.1.2.2.2.2) e_))) (fun k_ hk_=>⟨hk_.1.1.1.1,hk_.1.1.1.2.1,hk_.1.1.1.2.2.1,hk_.1.1.1.2.2.2.1,hk_.1.1.1.2.2.2.2,hk_.1.1.2,hk_.1.2⟩));have n4_:=Aside0.mk (R_reok rfl hy0 (fun k_ e_=>HO_274001.out.1 k_ e_));have n5_:=Aside0.mk (R_reok rfl hy1 (fun k_ e_=>HO_274002.out.1 k_ e_));have n6_:=Aside0.mk (blk_kept (by (with_reducible repeat (first|apply blk_drewN|apply blk_drew|apply blk_alloc));exact BK250.out) hkp (fun hs_=>Or.elim hs_ (fun e_=>(fun e_=>(R_ne HO_274001.out BK250.out (by decide)) e_) e_) (fun e_=>(fun e_=>(R_ne HO_274002.out BK250.out (by decide)) e_) e_)));have n7_:=Aside0.mk (blk_kept (by (with_reducible repeat (first|apply blk_drewN|apply blk_drew|apply blk_alloc));exact BK273.out) hkp (fun hs_=>Or.elim hs_ (fun e_=>(fun e_=>(R_ne HO_274001.out BK273.out (by decide)) e_) e_) (fun e_=>(fun e_=>(R_ne HO_274002.out BK273.out (by decide)) e_) e_)));have n8_:=Aside0.mk (R_mono (ok':=fun k_=>some k_ ≠ (v260 : Value).ownBlock ∧ some k_ ≠ (v263 : Value).ownBlock ∧ some k_ ≠ (v275 : Value).ownBlock ∧ some k_ ≠ (v278 : Value).ownBlock ∧ some k_ ≠ (.slice Ao25 t267.length co25 : Value).ownBlock ∧ some k_ ≠ (.slice Ao26 t270.length co26 : Value).ownBlock ∧ some k_ ≠ (.slice Ao51 t287.length co51 : Value).ownBlock) (R_keptB (HO286.out) hkp (fun k_ hk_ hs_=>Or.elim hs_ (fun e_=>(hk_.1.2) e_) (fun e_=>(hk_.2) e_))) (fun k_ hk_=>⟨hk_.1.1.1.1.1.1.2,hk_.1.1.1.1.1.2,hk_.1.1.1.1.2,hk_.1.1.1.2,hk_.1.1.2,hk_.1.2,hk_.1.1.1.1.1.1.1⟩));have n9_:=Aside0.mk (R_mono (ok':=fun k_=>some k_ ≠ (v260 : Value).ownBlock ∧ some k_ ≠ (v263 : Value).ownBlock ∧ some k_ ≠ (v275 : Value).ownBlock ∧ some k_ ≠ (v278 : Value).ownBlock ∧ some k_ ≠ (.slice Ao25 t267.length co25 : Value).ownBlock ∧ some k_ ≠ (.slice Ao26 t270.length co26 : Value).ownBlock ∧ some k_ ≠ (.slice Ao50 t284.length co50 : Value).ownBlock) (R_keptB (HO289.out) hkp (fun k_ hk_ hs_=>Or.elim hs_ (fun e_=>(hk_.1.2) e_) (fun e_=>(hk_.2) e_))) (fun k_ hk_=>⟨hk_.1.1.1.1.1.1.2,hk_.1.1.1.1.1.2,hk_.1.1.1.1.2,hk_.1.1.1.2,hk_.1.1.2,hk_.1.2,hk_.1.1.1.1.1.1.1⟩));have n10_:=Aside0.mk (hb);clear HO_4;clear HO_5;clear HO_8;clear HO_9;clear HO_274001;clear HO_274002;clear BK250;clear BK273;clear HO286;clear HO289;clear HB;have HO_4:=n0_;have HO_5:=n1_;have HO_8:=n2_;have HO_9:=n3_;have HO_274001:=n4_;have HO_274002:=n5_;have BK250:=n6_;have BK273:=n7_;have HO286:=n8_;have HO289:=n9_;have HB:=n10_;clear n0_ n1_ n2_ n3_ n4_ n5_ n6_ n7_ n8_ n9_ n10_;(try clear hb);(try clear hkp);(try clear hy0);(try clear hy1)))
  (try simp only [Act.put,List.setIfInBounds_toArray,List.set_cons_zero,List.set_cons_succ])
  go_cut [78] (fun v78 wc=>∃ (kq : Nat) (x78_46 : Bool),v78 = .bool x78_46 ∧ Aside0 (laws_FnExactFallsOf.j1 kq t259 t262 t265 t274 t277 x78_46 a0_0 l0_1 l0_2 = some r) ∧ Aside0 (kq ≤ kj10) ∧ Aside0 (Kd.R (Kd.int .i64) 3 wc w.heap.size (fun k_=>some k_ ≠ (v263 : Value).ownBlock ∧ some k_ ≠ (v275 : Value).ownBlock ∧ some k_ ≠ (v278 : Value).ownBlock ∧ some k_ ≠ ((.slice Ao25 t267.length co25) : Value).ownBlock ∧ some k_ ≠ ((.slice Ao26 t270.length co26) : Value).ownBlock) v260 t259) ∧ Aside0 (Kd.R (Kd.int .i64) 3 wc w.heap.size (fun k_=>some k_ ≠ (v260 : Value).ownBlock ∧ some k_ ≠ (v275 : Value).ownBlock ∧ some k_ ≠ (v278 : Value).ownBlock ∧ some k_ ≠ ((.slice Ao25 t267.length co25) : Value).ownBlock ∧ some k_ ≠ ((.slice Ao26 t270.length co26) : Value).ownBlock) v263 t262) ∧ Aside0 (Kd.R (Kd.int .i64) 3 wc w.heap.size (fun k_=>some k_ ≠ (v260 : Value).ownBlock ∧ some k_ ≠ (v263 : Value).ownBlock ∧ some k_ ≠ (v278 : Value).ownBlock ∧ some k_ ≠ ((.slice Ao25 t267.length co25) : Value).ownBlock ∧ some k_ ≠ ((.slice Ao26 t270.length co26) : Value).ownBlock) v275 t274) ∧ Aside0 (Kd.R (Kd.int .i64) 3 wc w.heap.size (fun k_=>some k_ ≠ (v260 : Value).ownBlock ∧ some k_ ≠ (v263 : Value).ownBlock ∧ some k_ ≠ (v275 : Value).ownBlock ∧ some k_ ≠ ((.slice Ao25 t267.length co25) : Value).ownBlock ∧ some k_ ≠ ((.slice Ao26 t270.length co26) : Value).ownBlock) v278 t277) ∧ Aside0 (Kd.R (Kd.int .i64) 3 wc w.heap.size (fun k_=>some k_ ≠ (v260 : Value).ownBlock ∧ some k_ ≠ (v263 : Value).ownBlock ∧ some k_ ≠ (v275 : Value).ownBlock ∧ some k_ ≠ (v278 : Value).ownBlock ∧ some k_ ≠ ((.slice Ao26 t270.length co26) : Value).ownBlock) (.slice Ao25 t267.length co25) t292) ∧ Aside0 (Kd.R (Kd.int .i64) 3 wc w.heap.size (fun k_=>some k_ ≠ (v260 : Value).ownBlock ∧ some k_ ≠ (v263 : Value).ownBlock ∧ some k_ ≠ (v275 : Value).ownBlock ∧ some k_ ≠ (v278 : Value).ownBlock ∧ some k_ ≠ ((.slice Ao25 t267.length co25) : Value).ownBlock) (.slice Ao26 t270.length co26) t293) ∧ Aside0 (wc.heap[gb250]? = some (.cells #[.int .i64 a0_0,(.slice A0_1 l0_1.length c0_1),(.slice A0_2 l0_2.length c0_2)] 24 (0,0))) ∧ Aside0 (wc.heap[gb273]? = some (.cells #[.int .i64 t266,(.slice Ao25 t267.length co25),(.slice Ao26 t270.length co26)] 27 (0,0))) ∧ Aside0 (Below w.heap.size w wc))
  case first =>
   have H:=HC47.out
   clear HC47
   by_cases c56 : t291 < 0
   ·rw [if_pos c56] at H
    have c56b0 : decide (t291 < 0) = true:=decide_eq_true c56
    clear c56
    (first|rw [c56b0]|(simp only [i64_w,i32_w];rw [c56b0])|skip)
    have H':=Aside0.mk H
    clear H
    go_wp2
    go_meet
    case rel=>exact ⟨_,(true),(by first|rfl|(simp;done)|(simp [*];done)),H',⟨by have:=HJ10.out;first|omega|exact Nat.le_refl _⟩,⟨by (with_reducible repeat (first|apply R_alloc|apply R_drewN|apply R_drew));exact R_mono HO_4.out (fun _ hk=>⟨hk.1,⟨hk.2.1,⟨hk.2.2.1,⟨hk.2.2.2.1,hk.2.2.2.2.1⟩⟩⟩⟩)⟩,⟨by (with_reducible repeat (first|apply R_alloc|apply R_drewN|apply R_drew));exact R_mono HO_5.out (fun _ hk=>⟨hk.1,⟨hk.2.1,⟨hk.2.2.1,⟨hk.2.2.2.1,hk.2.2.2.2.1⟩⟩⟩⟩)⟩,⟨by (with_reducible repeat (first|apply R_alloc|apply R_drewN|apply R_drew));exact R_mono HO_8.out (fun _ hk=>⟨hk.1,⟨hk.2.1,⟨hk.2.2.1,⟨hk.2.2.2.1,hk.2.2.2.2.1⟩⟩⟩⟩)⟩,⟨by (with_reducible repeat (first|apply R_alloc|apply R_drewN|apply R_drew));exact R_mono HO_9.out (fun _ hk=>⟨hk.1,⟨hk.2.1,⟨hk.2.2.1,⟨hk.2.2.2.1,hk.2.2.2.2.1⟩⟩⟩⟩)⟩,⟨by (with_reducible repeat (first|apply R_alloc|apply R_drewN|apply R_drew));exact R_mono HO_274001.out (fun _ hk=>⟨hk.1.1.1,⟨hk.1.1.2.1,⟨hk.1.1.2.2.1,⟨hk.1.1.2.2.2.1,hk.1.1.2.2.2.2⟩⟩⟩⟩)⟩,⟨by (with_reducible repeat (first|apply R_alloc|apply R_drewN|apply R_drew));exact R_mono HO_274002.out (fun _ hk=>⟨hk.1.1.1,⟨hk.1.1.2.1,⟨hk.1.1.2.2.1,⟨hk.1.1.2.2.2.1,hk.1.1.2.2.2.2⟩⟩⟩⟩)⟩,⟨by (with_reducible repeat (first|apply blk_drewN|apply blk_drew|apply blk_alloc));exact BK250.out⟩,⟨by (with_reducible repeat (first|apply blk_drewN|apply blk_drew|apply blk_alloc));exact BK273.out⟩,⟨by repeat (first|(with_reducible first|exact HB.out|apply below_alloc|apply pw_below_drewN|apply below_drew1|refine below_set ?_ GE250.out|refine below_set ?_ GE273.out)|exact HB.out)⟩⟩
   rw [if_neg c56] at H
   have c56b0 : decide (t291 < 0) = false:=decide_eq_false c56
   clear c56
   (first|rw [c56b0]|(simp only [i64_w,i32_w];rw [c56b0])|skip)
   replace H:=Option.bind_eq_some_iff.mp H
   obtain ⟨t294,A570,H⟩:=H
   replace H : (if t294 = true then ((laws_eqIntS.f kj10 t277 t262).bind fun t295=>(if t295 = true then (laws_FnExactFallsOf.j1 kj10 t259 t262 t265 t274 t277 (t280 != t265) a0_0 l0_1 l0_2) else (laws_FnExactFallsOf.j1 kj10 t259 t262 t265 t274 t277 true a0_0 l0_1 l0_2))) else (laws_FnExactFallsOf.j1 kj10 t259 t262 t265 t274 t277 true a0_0 l0_1 l0_2)) = some r:=H
   have A57:=Aside0.mk A570
   clear A570
   by_cases c58 : t294 = true
   rotate_left
   ·replace c58:=Bool.eq_false_iff.mpr c58
    subst c58
    have H1 : (laws_FnExactFallsOf.j1 kj10 t259 t262 t265 t274 t277 true a0_0 l0_1 l0_2) = some r:=by rw [if_neg (show ¬ (false = true) by decide)] at H;exact H
    clear H
    have H:=H1
    clear H1
    have H':=Aside0.mk H
    clear H
    obtain ⟨Ao69,co69,eo69⟩:=R_slice HO_8.out
    subst eo69
    obtain ⟨Ao70,co70,eo70⟩:=R_slice HO_4.out
    subst eo70
    go_wp2_with (first|(go_at_call 22;(with_reducible refine (laws_eqIntS.calls kj10 _ _ t274 _ _ t259 false _ ?side1 ?side2 ?side3 ?side4 A57.out).mono ?_);(case side1=>repeat (first|exact (R_reads' HO_8.out).2.2|(with_reducible refine C_alloc ?_ _)|(with_reducible refine C_drewN ?_ _)|(with_reducible refine C_drew ?_)));(case side2=>exact (R_reads' HO_8.out).2.1);(case side3=>repeat (first|exact (R_reads' HO_4.out).2.2|(with_reducible refine C_alloc ?_ _)|(with_reducible refine C_drewN ?_ _)|(with_reducible refine C_drew ?_)));(case side4=>exact (R_reads' HO_4.out).2.1);rintro e w' ⟨rfl,⟨nd,rfl⟩⟩))
    go_meet
    case rel=>exact ⟨_,(true),(by first|rfl|(simp;done)|(simp [*];done)),H',⟨by have:=HJ10.out;first|omega|exact Nat.le_refl _⟩,⟨by (with_reducible repeat (first|apply R_alloc|apply R_drewN|apply R_drew));exact R_mono HO_4.out (fun _ hk=>⟨hk.1,⟨hk.2.1,⟨hk.2.2.1,⟨hk.2.2.2.1,hk.2.2.2.2.1⟩⟩⟩⟩)⟩,⟨by (with_reducible repeat (first|apply R_alloc|apply R_drewN|apply R_drew));exact R_mono HO_5.out (fun _ hk=>⟨hk.1,⟨hk.2.1,⟨hk.2.2.1,⟨hk.2.2.2.1,hk.2.2.2.2.1⟩⟩⟩⟩)⟩,⟨by (with_reducible repeat (first|apply R_alloc|apply R_drewN|apply R_drew));exact R_mono HO_8.out (fun _ hk=>⟨hk.1,⟨hk.2.1,⟨hk.2.2.1,⟨hk.2.2.2.1,hk.2.2.2.2.1⟩⟩⟩⟩)⟩,⟨by (with_reducible repeat (first|apply R_alloc|apply R_drewN|apply R_drew));exact R_mono HO_9.out (fun _ hk=>⟨hk.1,⟨hk.2.1,⟨hk.2.2.1,⟨hk.2.2.2.1,hk.2.2.2.2.1⟩⟩⟩⟩)⟩,⟨by (with_reducible repeat (first|apply R_alloc|apply R_drewN|apply R_drew));exact R_mono HO_274001.out (fun _ hk=>⟨hk.1.1.1,⟨hk.1.1.2.1,⟨hk.1.1.2.2.1,⟨hk.1.1.2.2.2.1,hk.1.1.2.2.2.2⟩⟩⟩⟩)⟩,⟨by (with_reducible repeat (first|apply R_alloc|apply R_drewN|apply R_drew));exact R_mono HO_274002.out (fun _ hk=>⟨hk.1.1.1,⟨hk.1.1.2.1,⟨hk.1.1.2.2.1,⟨hk.1.1.2.2.2.1,hk.1.1.2.2.2.2⟩⟩⟩⟩)⟩,⟨by (with_reducible repeat (first|apply blk_drewN|apply blk_drew|apply blk_alloc));exact BK250.out⟩,⟨by (with_reducible repeat (first|apply blk_drewN|apply blk_drew|apply blk_alloc));exact BK273.out⟩,⟨by repeat (first|(with_reducible first|exact HB.out|apply below_alloc|apply pw_below_drewN|apply below_drew1|refine below_set ?_ GE250.out|refine below_set ?_ GE273.out)|exact HB.out)⟩⟩
   subst c58
   have H1 : ((laws_eqIntS.f kj10 t277 t262).bind fun t295=>(if t295 = true then (laws_FnExactFallsOf.j1 kj10 t259 t262 t265 t274 t277 (t280 != t265) a0_0 l0_1 l0_2) else (laws_FnExactFallsOf.j1 kj10 t259 t262 t265 t274 t277 true a0_0 l0_1 l0_2))) = some r:=by rw [if_pos rfl] at H;exact H
   clear H
   have H:=H1
   clear H1
   replace H:=Option.bind_eq_some_iff.mp H
   obtain ⟨t295,A590,H⟩:=H
   replace H : (if t295 = true then (laws_FnExactFallsOf.j1 kj10 t259 t262 t265 t274 t277 (t280 != t265) a0_0 l0_1 l0_2) else (laws_FnExactFallsOf.j1 kj10 t259 t262 t265 t274 t277 true a0_0 l0_1 l0_2)) = some r:=H
   have A59:=Aside0.mk A590
   clear A590
   by_cases c60 : t295 = true
   ·subst c60
    have H1 : (laws_FnExactFallsOf.j1 kj10 t259 t262 t265 t274 t277 (t280 != t265) a0_0 l0_1 l0_2) = some r:=by rw [if_pos rfl] at H;exact H
    clear H
    have H:=H1
    clear H1
    have H':=Aside0.mk H
    clear H
    obtain ⟨Ao61,co61,eo61⟩:=R_slice HO_8.out
    subst eo61
    obtain ⟨Ao62,co62,eo62⟩:=R_slice HO_4.out
    subst eo62
    go_wp2_with (first|(go_at_call 22;(with_reducible refine (laws_eqIntS.calls kj10 _ _ t274 _ _ t259 true _ ?side1 ?side2 ?side3 ?side4 A57.out).mono ?_);(case side1=>repeat (first|exact (R_reads' HO_8.out).2.2|(with_reducible refine C_alloc ?_ _)|(with_reducible refine C_drewN ?_ _)|(with_reducible refine C_drew ?_)));(case side2=>exact (R_reads' HO_8.out).2.1);(case side3=>repeat (first|exact (R_reads' HO_4.out).2.2|(with_reducible refine C_alloc ?_ _)|(with_reducible refine C_drewN ?_ _)|(with_reducible refine C_drew ?_)));(case side4=>exact (R_reads' HO_4.out).2.1);rintro e w' ⟨rfl,⟨nd,rfl⟩⟩;obtain ⟨Ao63,co63,eo63⟩:=R_slice HO_9.out;subst eo63;obtain ⟨Ao64,co64,eo64⟩:=R_slice HO_5.out;subst eo64)|(go_at_call 22;(with_reducible refine (laws_eqIntS.calls kj10 _ _ t277 _ _ t262 true _ ?side1 ?side2 ?side3 ?side4 A59.out).mono ?_);(case side1=>repeat (first|exact (R_reads' HO_9.out).2.2|(with_reducible refine C_alloc ?_ _)|(with_reducible refine C_drewN ?_ _)|(with_reducible refine C_drew ?_)));(case side2=>exact (R_reads' HO_9.out).2.1);(case side3=>repeat (first|exact (R_reads' HO_5.out).2.2|(with_reducible refine C_alloc ?_ _)|(with_reducible refine C_drewN ?_ _)|(with_reducible refine C_drew ?_)));(case side4=>exact (R_reads' HO_5.out).2.1);rintro e w' ⟨rfl,⟨nd,rfl⟩⟩))
    go_meet
    case rel=>exact ⟨_,((t280 != t265)),(by first|rfl|(simp;done)|(simp [*];done)),H',⟨by have:=HJ10.out;first|omega|exact Nat.le_refl _⟩,⟨by (with_reducible repeat (first|apply R_alloc|apply R_drewN|apply R_drew));exact R_mono HO_4.out (fun _ hk=>⟨hk.1,⟨hk.2.1,⟨hk.2.2.1,⟨hk.2.2.2.1,hk.2.2.2.2.1⟩⟩⟩⟩)⟩,⟨by (with_reducible repeat (first|apply R_alloc|apply R_drewN|apply R_drew));exact R_mono HO_5.out (fun _ hk=>⟨hk.1,⟨hk.2.1,⟨hk.2.2.1,⟨hk.2.2.2.1,hk.2.2.2.2.1⟩⟩⟩⟩)⟩,⟨by (with_reducible repeat (first|apply R_alloc|apply R_drewN|apply R_drew));exact R_mono HO_8.out (fun _ hk=>⟨hk.1,⟨hk.2.1,⟨hk.2.2.1,⟨hk.2.2.2.1,hk.2.2.2.2.1⟩⟩⟩⟩)⟩,⟨by (with_reducible repeat (first|apply R_alloc|apply R_drewN|apply R_drew));exact R_mono HO_9.out (fun _ hk=>⟨hk.1,⟨hk.2.1,⟨hk.2.2.1,⟨hk.2.2.2.1,hk.2.2.2.2.1⟩⟩⟩⟩)⟩,⟨by (with_reducible repeat (first|apply R_alloc|apply R_drewN|apply R_drew));exact R_mono HO_274001.out (fun _ hk=>⟨hk.1.1.1,⟨hk.1.1.2.1,⟨hk.1.1.2.2.1,⟨hk.1.1.2.2.2.1,hk.1.1.2.2.2.2⟩⟩⟩⟩)⟩,⟨by (with_reducible repeat (first|apply R_alloc|apply R_drewN|apply R_drew));exact R_mono HO_274002.out (fun _ hk=>⟨hk.1.1.1,⟨hk.1.1.2.1,⟨hk.1.1.2.2.1,⟨hk.1.1.2.2.2.1,hk.1.1.2.2.2.2⟩⟩⟩⟩)⟩,⟨by (with_reducible repeat (first|apply blk_drewN|apply blk_drew|apply blk_alloc));exact BK250.out⟩,⟨by (with_reducible repeat (first|apply blk_drewN|apply blk_drew|apply blk_alloc));exact BK273.out⟩,⟨by repeat (first|(with_reducible first|exact HB.out|apply below_alloc|apply pw_below_drewN|apply below_drew1|refine below_set ?_ GE250.out|refine below_set ?_ GE273.out)|exact HB.out)⟩⟩
   replace c60:=Bool.eq_false_iff.mpr c60
   subst c60
   have H1 : (laws_FnExactFallsOf.j1 kj10 t259 t262 t265 t274 t277 true a0_0 l0_1 l0_2) = some r:=by rw [if_neg (show ¬ (false = true) by decide)] at H;exact H
   clear H
   have H:=H1
   clear H1
   have H':=Aside0.mk H
   clear H
   obtain ⟨Ao65,co65,eo65⟩:=R_slice HO_8.out
   subst eo65
   obtain ⟨Ao66,co66,eo66⟩:=R_slice HO_4.out
   subst eo66
   go_wp2_with (first|(go_at_call 22;(with_reducible refine (laws_eqIntS.calls kj10 _ _ t274 _ _ t259 true _ ?side1 ?side2 ?side3 ?side4 A57.out).mono ?_);(case side1=>repeat (first|exact (R_reads' HO_8.out).2.2|(with_reducible refine C_alloc ?_ _)|(with_reducible refine C_drewN ?_ _)|(with_reducible refine C_drew ?_)));(case side2=>exact (R_reads' HO_8.out).2.1);(case side3=>repeat (first|exact (R_reads' HO_4.out).2.2|(with_reducible refine C_alloc ?_ _)|(with_reducible refine C_drewN ?_ _)|(with_reducible refine C_drew ?_)));(case side4=>exact (R_reads' HO_4.out).2.1);rintro e w' ⟨rfl,⟨nd,rfl⟩⟩;obtain ⟨Ao67,co67,eo67⟩:=R_slice HO_9.out;subst eo67;obtain ⟨Ao68,co68,eo68⟩:=R_slice HO_5.out;subst eo68)|(go_at_call 22;(with_reducible refine (laws_eqIntS.calls kj10 _ _ t277 _ _ t262 false _ ?side1 ?side2 ?side3 ?side4 A59.out).mono ?_);(case side1=>repeat (first|exact (R_reads' HO_9.out).2.2|(with_reducible refine C_alloc ?_ _)|(with_reducible refine C_drewN ?_ _)|(with_reducible refine C_drew ?_)));(case side2=>exact (R_reads' HO_9.out).2.1);(case side3=>repeat (first|exact (R_reads' HO_5.out).2.2|(with_reducible refine C_alloc ?_ _)|(with_reducible refine C_drewN ?_ _)|(with_reducible refine C_drew ?_)));(case side4=>exact (R_reads' HO_5.out).2.1);rintro e w' ⟨rfl,⟨nd,rfl⟩⟩))
   go_meet
   case rel=>exact ⟨_,(true),(by first|rfl|(simp;done)|(simp [*];done)),H',⟨by have:=HJ10.out;first|omega|exact Nat.le_refl _⟩,⟨by (with_reducible repeat (first|apply R_alloc|apply R_drewN|apply R_drew));exact R_mono HO_4.out (fun _ hk=>⟨hk.1,⟨hk.2.1,⟨hk.2.2.1,⟨hk.2.2.2.1,hk.2.2.2.2.1⟩⟩⟩⟩)⟩,⟨by (with_reducible repeat (first|apply R_alloc|apply R_drewN|apply R_drew));exact R_mono HO_5.out (fun _ hk=>⟨hk.1,⟨hk.2.1,⟨hk.2.2.1,⟨hk.2.2.2.1,hk.2.2.2.2.1⟩⟩⟩⟩)⟩,⟨by (with_reducible repeat (first|apply R_alloc|apply R_drewN|apply R_drew));exact R_mono HO_8.out (fun _ hk=>⟨hk.1,⟨hk.2.1,⟨hk.2.2.1,⟨hk.2.2.2.1,hk.2.2.2.2.1⟩⟩⟩⟩)⟩,⟨by (with_reducible repeat (first|apply R_alloc|apply R_drewN|apply R_drew));exact R_mono HO_9.out (fun _ hk=>⟨hk.1,⟨hk.2.1,⟨hk.2.2.1,⟨hk.2.2.2.1,hk.2.2.2.2.1⟩⟩⟩⟩)⟩,⟨by (with_reducible repeat (first|apply R_alloc|apply R_drewN|apply R_drew));exact R_mono HO_274001.out (fun _ hk=>⟨hk.1.1.1,⟨hk.1.1.2.1,⟨hk.1.1.2.2.1,⟨hk.1.1.2.2.2.1,hk.1.1.2.2.2.2⟩⟩⟩⟩)⟩,⟨by (with_reducible repeat (first|apply R_alloc|apply R_drewN|apply R_drew));exact R_mono HO_274002.out (fun _ hk=>⟨hk.1.1.1,⟨hk.1.1.2.1,⟨hk.1.1.2.2.1,⟨hk.1.1.2.2.2.1,hk.1.1.2.2.2.2⟩⟩⟩⟩)⟩,⟨by (with_reducible repeat (first|apply blk_drewN|apply blk_drew|apply blk_alloc));exact BK250.out⟩,⟨by (with_reducible repeat (first|apply blk_drewN|apply blk_drew|apply blk_alloc));exact BK273.out⟩,⟨by repeat (first|(with_reducible first|exact HB.out|apply below_alloc|apply pw_below_drewN|apply below_drew1|refine below_set ?_ GE250.out|refine below_set ?_ GE273.out)|exact HB.out)⟩⟩
  clear HC47
  try clear c1
  try clear c2
  try clear p2
  try clear c3
  try clear c3b0
  try clear c4
  try clear c5
  try clear c6
  try clear c8
  try clear c11
  try clear c13
  try clear c15
  try clear c22
  try clear c23
  try clear c29
  try clear c30
  try clear c31
  try clear c42
  try clear c45
  try clear c53
  try clear c56
  try clear c56b0
  try clear c58
  try clear c60
  try clear hcz13_0
  try clear hcz13_1
  try clear hcz13_2
  try clear hcz15_0
  try clear hcz15_1
  try clear hcz15_2
  try clear hcz20_0
  try clear hcz20_1
  try clear hcz20_2
  try clear hcz24_0
  try clear hcz24_1
  try clear hcz24_2
  try clear hcz54_0
  try clear hcz54_1
  try clear hcz54_2
  try clear hcz5_0
  try clear hcz5_1
  try clear hcz5_2
  try clear hfz13_0
  try clear hfz13_1
  try clear hfz13_2
  try clear hfz15_0
  try clear hfz15_1
  try clear hfz15_2
  try clear hfz20_0
  try clear hfz20_1
  try clear hfz20_2
  try clear hfz24_0
  try clear hfz24_1
  try clear hfz24_2
  try clear hfz54_0
  try clear hfz54_1
  try clear hfz54_2
  try clear hfz5_0
  try clear hfz5_1
  try clear hfz5_2
  try clear p2
  obtain ⟨kq,x78_46,rfl,HA,HJ46,HO_4,HO_5,HO_8,HO_9,HO_274001,HO_274002,BK250,BK273,HB⟩:=hcut
  have hl274001_46:=(R_reads' HO_274001.out).1
  rw [hl274001_46] at HO_274001
  (try simp only [hl274001_46])
  (try simp only [hl274001_46] at BK250)
  (try simp only [hl274001_46] at BK273)
  (try simp only [hl274001_46] at HO_4)
  (try simp only [hl274001_46] at HO_5)
  (try simp only [hl274001_46] at HO_8)
  (try simp only [hl274001_46] at HO_9)
  (try simp only [hl274001_46] at HO_274002)
  have hl274002_46:=(R_reads' HO_274002.out).1
  rw [hl274002_46] at HO_274002
  (try simp only [hl274002_46])
  (try simp only [hl274002_46] at BK250)
  (try simp only [hl274002_46] at BK273)
  (try simp only [hl274002_46] at HO_4)
  (try simp only [hl274002_46] at HO_5)
  (try simp only [hl274002_46] at HO_8)
  (try simp only [hl274002_46] at HO_9)
  (try simp only [hl274002_46] at HO_274001)
  cases kq with
  | zero=>exact absurd HA.out (by simp [laws_FnExactFallsOf.j1])
  | succ kj46 =>
   have H:=HA.out
   clear HA
   simp only [laws_FnExactFallsOf.j1] at H
   by_cases c71 : x78_46 = true
   ·subst c71
    have H1 : (some false) = some r:=by rw [if_pos rfl] at H;exact H
    clear H
    have H:=H1
    clear H1
    obtain rfl:=Option.some.inj H
    go_wp2
    go_ret
    exact ⟨by first|rfl|(simp [errW_none,errW_some] <;> rfl)|(simp [*,errW_none,errW_some] <;> rfl),by repeat (first|(with_reducible first|exact HB.out|apply below_alloc|apply pw_below_drewN|apply below_drew1|refine below_set ?_ GE250.out|refine below_set ?_ GE273.out)|exact HB.out)⟩
   replace c71:=Bool.eq_false_iff.mpr c71
   subst c71
   have H1 : ((laws_markIntS.f kj46 t274 1).bind fun bt296=>((laws_markIntS.f kj46 t277 bt296.1).bind fun bt298=>((laws_heldIntS.f kj46 bt296.2 1).bind fun t300=>(if t300 < 0 then (some false) else ((laws_heldIntS.f kj46 bt298.2 t300).bind fun t301=>(if t301 < 0 then (some false) else (if t301 = bt298.1 then ((laws_toWire.f kj46 a0_0 l0_1 l0_2).bind fun bt302=>((impl_FallsOf.f kj46 bt302.1 bt302.2.1 bt302.2.2).bind fun bt309=>((laws_eqIntS.f kj46 bt309.1 t259).bind fun t316=>(if t316 = true then ((laws_eqIntS.f kj46 bt309.2.1 t262).bind fun t317=>(if t317 = true then (laws_FnExactFallsOf.j2 kj46 bt296.2 bt298.2 bt298.1 (bt309.2.2 != t265)) else (laws_FnExactFallsOf.j2 kj46 bt296.2 bt298.2 bt298.1 true))) else (laws_FnExactFallsOf.j2 kj46 bt296.2 bt298.2 bt298.1 true))))) else (some false)))))))) = some r:=by rw [if_neg (show ¬ (false = true) by decide)] at H;exact H
   clear H
   have H:=H1
   clear H1
   replace H:=Option.bind_eq_some_iff.mp H
   obtain ⟨⟨t296,t297⟩,A720,H⟩:=H
   replace H : ((laws_markIntS.f kj46 t277 t296).bind fun bt298=>((laws_heldIntS.f kj46 t297 1).bind fun t300=>(if t300 < 0 then (some false) else ((laws_heldIntS.f kj46 bt298.2 t300).bind fun t301=>(if t301 < 0 then (some false) else (if t301 = bt298.1 then ((laws_toWire.f kj46 a0_0 l0_1 l0_2).bind fun bt302=>((impl_FallsOf.f kj46 bt302.1 bt302.2.1 bt302.2.2).bind fun bt309=>((laws_eqIntS.f kj46 bt309.1 t259).bind fun t316=>(if t316 = true then ((laws_eqIntS.f kj46 bt309.2.1 t262).bind fun t317=>(if t317 = true then (laws_FnExactFallsOf.j2 kj46 t297 bt298.2 bt298.1 (bt309.2.2 != t265)) else (laws_FnExactFallsOf.j2 kj46 t297 bt298.2 bt298.1 true))) else (laws_FnExactFallsOf.j2 kj46 t297 bt298.2 bt298.1 true))))) else (some false))))))) = some r:=H
   have A72:=Aside0.mk A720
   clear A720
   replace H:=Option.bind_eq_some_iff.mp H
   obtain ⟨⟨t298,t299⟩,A730,H⟩:=H
   replace H : ((laws_heldIntS.f kj46 t297 1).bind fun t300=>(if t300 < 0 then (some false) else ((laws_heldIntS.f kj46 t299 t300).bind fun t301=>(if t301 < 0 then (some false) else (if t301 = t298 then ((laws_toWire.f kj46 a0_0 l0_1 l0_2).bind fun bt302=>((impl_FallsOf.f kj46 bt302.1 bt302.2.1 bt302.2.2).bind fun bt309=>((laws_eqIntS.f kj46 bt309.1 t259).bind fun t316=>(if t316 = true then ((laws_eqIntS.f kj46 bt309.2.1 t262).bind fun t317=>(if t317 = true then (laws_FnExactFallsOf.j2 kj46 t297 t299 t298 (bt309.2.2 != t265)) else (laws_FnExactFallsOf.j2 kj46 t297 t299 t298 true))) else (laws_FnExactFallsOf.j2 kj46 t297 t299 t298 true))))) else (some false)))))) = some r:=H
   have A73:=Aside0.mk A730
   clear A730
   replace H:=Option.bind_eq_some_iff.mp H
   obtain ⟨t300,A740,H⟩:=H
   replace H : (if t300 < 0 then (some false) else ((laws_heldIntS.f kj46 t299 t300).bind fun t301=>(if t301 < 0 then (some false) else (if t301 = t298 then ((laws_toWire.f kj46 a0_0 l0_1 l0_2).bind fun bt302=>((impl_FallsOf.f kj46 bt302.1 bt302.2.1 bt302.2.2).bind fun bt309=>((laws_eqIntS.f kj46 bt309.1 t259).bind fun t316=>(if t316 = true then ((laws_eqIntS.f kj46 bt309.2.1 t262).bind fun t317=>(if t317 = true then (laws_FnExactFallsOf.j2 kj46 t297 t299 t298 (bt309.2.2 != t265)) else (laws_FnExactFallsOf.j2 kj46 t297 t299 t298 true))) else (laws_FnExactFallsOf.j2 kj46 t297 t299 t298 true))))) else (some false))))) = some r:=H
   have A74:=Aside0.mk A740
   clear A740
   by_cases c75 : t300 < 0
   ·rw [if_pos c75] at H
    have c75b0 : decide (t300 < 0) = true:=decide_eq_true c75
    clear c75
    obtain rfl:=Option.some.inj H
    obtain ⟨Ao76,co76,eo76⟩:=R_slice HO_8.out
    subst eo76
    go_wp2_with (first|((with_reducible refine gate_callee (f:=24) rfl ?_);refine goesL_ (some 81) rfl rfl Try.func24 (by kernel_rfl) rfl #[.slice Ao76 t274.length co76,.int .i64 1] rfl (by (try simp only [List.map_toArray,List.map_cons,List.map_nil]);first|done|rfl|(simp only [List.length_drop,List.length_take];rfl)) ?_;(with_reducible refine (laws_markIntS.calls kj46 (fun k_=>some k_ = (.slice Ao76 t274.length co76 : Value).ownBlock) (.slice Ao76 t274.length co76) t274 1 t296 t297 w _ ?side1 ?side2 A72.out).mono ?_);(case side1=>repeat (first|(with_reducible first|exact HB.out|apply below_alloc|apply pw_below_drewN|apply below_drew1|refine below_set ?_ GE250.out|refine below_set ?_ GE273.out)|exact HB.out));(case side2=>exact R_tight rfl HO_8.out);rintro e w77 ⟨rfl,hy0,hb,hkp⟩;refine ⟨_,rfl,?_⟩;have n0_:=Aside0.mk (R_mono (ok':=fun k_=>some k_ ≠ (v263 : Value).ownBlock ∧ some k_ ≠ (.slice Ao76 t274.length co76 : Value).ownBlock ∧ some k_ ≠ (v278 : Value).ownBlock ∧ some k_ ≠ (.slice Ao25 t292.length co25 : Value).ownBlock ∧ some k_ ≠ (.slice Ao26 t293.length co26 : Value).ownBlock) (R_keptB (HO_4.out) hkp (fun k_ hk_ hs_=>(hk_.2.1) hs_)) (fun k_ hk_=>⟨hk_.1.1,hk_.1.2.1,hk_.1.2.2.1,hk_.1.2.2.2.1,hk_.1.2.2.2.2⟩));have n1_:=Aside0.mk (R_mono (ok':=fun k_=>some k_ ≠ (v260 : Value).ownBlock ∧ some k_ ≠ (.slice Ao76 t274.length co76 : Value).ownBlock ∧ some k_ ≠ (v278 : Value).ownBlock ∧ some k_ ≠ (.slice Ao25 t292.length co25 : Value).ownBlock ∧ some k_ ≠ (.slice Ao26 t293.length co26 : Value).ownBlock) (R_keptB (HO_5.out) hkp (fun k_ hk_ hs_=>(hk_.2.1) hs_)) (fun k_ hk_=>⟨hk_.1.1,hk_.1.2.1,hk_.1.2.2.1,hk_.1.2.2.2.1,hk_.1.2.2.2.2⟩));have n2_:=Aside0.mk (R_reok rfl hy0 (fun k_ e_=>HO_8.out.1 k_ e_));have n3_:=Aside0.mk (R_mono (ok':=fun k_=>some k_ ≠ (v260 : Value).ownBlock ∧ some k_ ≠ (v263 : Value).ownBlock ∧ some k_ ≠ (.slice Ao76 t274.length co76 : Value).ownBlock ∧ some k_ ≠ (.slice Ao25 t292.length co25 : Value).ownBlock ∧ some k_ ≠ (.slice Ao26 t293.length co26 : Value).ownBlock) (R_keptB (HO_9.out) hkp (fun k_ hk_ hs_=>(hk_.2.2.1) hs_)) (fun k_ hk_=>⟨hk_.1.1,hk_.1.2.1,hk_.1.2.2.1,hk_.1.2.2.2.1,hk_.1.2.2.2.2⟩));have n4_:=Aside0.mk (R_mono (ok':=fun k_=>some k_ ≠ (v260 : Value).ownBlock ∧ some k_ ≠ (v263 : Value).ownBlock ∧ some k_ ≠ (.slice Ao76 t274.length co76 : Value).ownBlock ∧ some k_ ≠ (v278 : Value).ownBlock ∧ some k_ ≠ (.slice Ao26 t293.length co26 : Value).ownBlock) (R_keptB (HO_274001.out) hkp (fun k_ hk_ hs_=>(hk_.2.2.1) hs_)) (fun k_ hk_=>⟨hk_.1.1,hk_.1.2.1,hk_.1.2.2.1,hk_.1.2.2.2.1,hk_.1.2.2.2.2⟩));have n5_:=Aside0.mk (R_mono (ok':=fun k_=>some k_ ≠ (v260 : Value).ownBlock ∧ some k_ ≠ (v263 : Value).ownBlock ∧ some k_ ≠ (.slice Ao76 t274.length co76 : Value).ownBlock ∧ some k_ ≠ (v278 : Value).ownBlock ∧ some k_ ≠ (.slice Ao25 t292.length co25 : Value).ownBlock) (R_keptB (HO_274002.out) hkp (fun k_ hk_ hs_=>(hk_.2.2.1) hs_)) (fun k_ hk_=>⟨hk_.1.1,hk_.1.2.1,hk_.1.2.2.1,hk_.1.2.2.2.1,hk_.1.2.2.2.2⟩));have n6_:=Aside0.mk (blk_kept (by (with_reducible repeat (first|apply blk_drewN|apply blk_drew|apply blk_alloc));exact BK250.out) hkp (fun hs_=>(fun e_=>(R_ne HO_8.out BK250.out (by decide)) e_) hs_));have n7_:=Aside0.mk (blk_kept (by (with_reducible repeat (first|apply blk_drewN|apply blk_drew|apply blk_alloc));exact BK273.out) hkp (fun hs_=>(fun e_=>(R_ne HO_8.out BK273.out (by decide)) e_) hs_));have n8_:=Aside0.mk (hb);clear HO_4;clear HO_5;clear HO_8;clear HO_9;clear HO_274001;clear HO_274002;clear BK250;clear BK273;clear HB;have HO_4:=n0_;have HO_5:=n1_;have HO_8:=n2_;have HO_9:=n3_;have HO_274001:=n4_;have HO_274002:=n5_;have BK250:=n6_;have BK273:=n7_;have HB:=n8_;clear n0_ n1_ n2_ n3_ n4_ n5_ n6_ n7_ n8_;(try clear hb);(try clear hkp);(try clear hy0);obtain ⟨Ao78,co78,eo78⟩:=R_slice HO_9.out;subst eo78)|((with_reducible refine gate_callee (f:=24) rfl ?_);refine goesL_ (some 84) rfl rfl Try.func24 (by kernel_rfl) rfl #[.slice Ao78 t277.length co78,.int .i64 t296] rfl (by (try simp only [List.map_toArray,List.map_cons,List.map_nil]);first|done|rfl|(simp only [List.length_drop,List.length_take];rfl)) ?_;(with_reducible refine (laws_markIntS.calls kj46 (fun k_=>some k_ = (.slice Ao78 t277.length co78 : Value).ownBlock) (.slice Ao78 t277.length co78) t277 t296 t298 t299 w _ ?side1 ?side2 A73.out).mono ?_);(case side1=>repeat (first|(with_reducible first|exact HB.out|apply below_alloc|apply pw_below_drewN|apply below_drew1|refine below_set ?_ GE250.out|refine below_set ?_ GE273.out)|exact HB.out));(case side2=>exact R_tight rfl HO_9.out);rintro e w79 ⟨rfl,hy0,hb,hkp⟩;refine ⟨_,rfl,?_⟩;have n0_:=Aside0.mk (R_mono (ok':=fun k_=>some k_ ≠ (v263 : Value).ownBlock ∧ some k_ ≠ (.slice Ao76 t274.length co76 : Value).ownBlock ∧ some k_ ≠ (.slice Ao78 t277.length co78 : Value).ownBlock ∧ some k_ ≠ (.slice Ao25 t292.length co25 : Value).ownBlock ∧ some k_ ≠ (.slice Ao26 t293.length co26 : Value).ownBlock) (R_keptB (HO_4.out) hkp (fun k_ hk_ hs_=>(hk_.2.2.1) hs_)) (fun k_ hk_=>⟨hk_.1.1,hk_.1.2.1,hk_.1.2.2.1,hk_.1.2.2.2.1,hk_.1.2.2.2.2⟩));have n1_:=Aside0.mk (R_mono (ok':=fun k_=>some k_ ≠ (v260 : Value).ownBlock ∧ some k_ ≠ (.slice Ao76 t274.length co76 : Value).ownBlock ∧ some k_ ≠ (.slice Ao78 t277.length co78 : Value).ownBlock ∧ some k_ ≠ (.slice Ao25 t292.length co25 : Value).ownBlock ∧ some k_ ≠ (.slice Ao26 t293.length co26 : Value).ownBlock) (R_keptB (HO_5.out) hkp (fun k_ hk_ hs_=>(hk_.2.2.1) hs_)) (fun k_ hk_=>⟨hk_.1.1,hk_.1.2.1,hk_.1.2.2.1,hk_.1.2.2.2.1,hk_.1.2.2.2.2⟩));have n2_:=Aside0.mk (R_mono (ok':=fun k_=>some k_ ≠ (v260 : Value).ownBlock ∧ some k_ ≠ (v263 : Value).ownBlock ∧ some k_ ≠ (.slice Ao78 t277.length co78 : Value).ownBlock ∧ some k_ ≠ (.slice Ao25 t292.length co25 : Value).ownBlock ∧ some k_ ≠ (.slice Ao26 t293.length co26 : Value).ownBlock) (R_keptB (HO_8.out) hkp (fun k_ hk_ hs_=>(hk_.2.2.1) hs_)) (fun k_ hk_=>⟨hk_.1.1,hk_.1.2.1,hk_.1.2.2.1,hk_.1.2.2.2.1,hk_.1.2.2.2.2⟩));have n3_:=Aside0.mk (R_reok rfl hy0 (fun k_ e_=>HO_9.out.1 k_ e_));have n4_:=Aside0.mk (R_mono (ok':=fun k_=>some k_ ≠ (v260 : Value).ownBlock ∧ some k_ ≠ (v263 : Value).ownBlock ∧ some k_ ≠ (.slice Ao76 t274.length co76 : Value).ownBlock ∧ some k_ ≠ (.slice Ao78 t277.length co78 : Value).ownBlock ∧ some k_ ≠ (.slice Ao26 t293.length co26 : Value).ownBlock) (R_keptB (HO_274001.out) hkp (fun k_ hk_ hs_=>(hk_.2.2.2.1) hs_)) (fun k_ hk_=>⟨hk_.1.1,hk_.1.2.1,hk_.1.2.2.1,hk_.1.2.2.2.1,hk_.1.2.2.2.2⟩));have n5_:=Aside0.mk (R_mono (ok':=fun k_=>some k_ ≠ (v260 : Value).ownBlock ∧ some k_ ≠ (v263 : Value).ownBlock ∧ some k_ ≠ (.slice Ao76 t274.length co76 : Value).ownBlock ∧ some k_ ≠ (.slice Ao78 t277.length co78 : Value).ownBlock ∧ some k_ ≠ (.slice Ao25 t292.length co25 : Value).ownBlock) (R_keptB (HO_274002.out) hkp (fun k_ hk_ hs_=>(hk_.2.2.2.1) hs_)) (fun k_ hk_=>⟨hk_.1.1,hk_.1.2.1,hk_.1.2.2.1,hk_.1.2.2.2.1,hk_.1.2.2.2.2⟩));have n6_:=Aside0.mk (blk_kept (by (with_reducible repeat (first|apply blk_drewN|apply blk_drew|apply blk_alloc));exact BK250.out) hkp (fun hs_=>(fun e_=>(R_ne HO_9.out BK250.out (by decide)) e_) hs_));have n7_:=Aside0.mk (blk_kept (by (with_reducible repeat (first|apply blk_drewN|apply blk_drew|apply blk_alloc));exact BK273.out) hkp (fun hs_=>(fun e_=>(R_ne HO_9.out BK273.out (by decide)) e_) hs_));have n8_:=Aside0.mk (hb);clear HO_4;clear HO_5;clear HO_8;clear HO_9;clear HO_274001;clear HO_274002;clear BK250;clear BK273;clear HB;have HO_4:=n0_;have HO_5:=n1_;have HO_8:=n2_;have HO_9:=n3_;have HO_274001:=n4_;have HO_274002:=n5_;have BK250:=n6_;have BK273:=n7_;have HB:=n8_;clear n0_ n1_ n2_ n3_ n4_ n5_ n6_ n7_ n8_;(try clear hb);(try clear hkp);(try clear hy0))|((with_reducible refine gate_callee (f:=25) rfl ?_);refine goesL_ (some 87) rfl rfl Try.func25 (by kernel_rfl) rfl #[.slice Ao76 t297.length co76,.int .i64 1] rfl (by (try simp only [List.map_toArray,List.map_cons,List.map_nil]);first|done|(rw [show t297.length = t274.length from (R_reads' HO_8.out).1.symm] <;> rfl)|rfl|(simp only [List.length_drop,List.length_take];rfl)) ?_;(with_reducible refine (laws_heldIntS.calls kj46 _ _ t297 1 t300 _ ?side1 ?side2 A74.out).mono ?_);(case side1=>repeat (first|exact (R_reads' HO_8.out).2.2|(with_reducible refine C_alloc ?_ _)|(with_reducible refine C_drewN ?_ _)|(with_reducible refine C_drew ?_)));(case side2=>rw [show t297.length = t274.length from (R_reads' HO_8.out).1.symm];exact (R_reads' HO_8.out).2.1);rintro e w' ⟨rfl,⟨nd,rfl⟩⟩;refine ⟨_,rfl,?_⟩))
    go_ret
    exact ⟨by first|rfl|(simp [errW_none,errW_some] <;> rfl)|(simp [*,errW_none,errW_some] <;> rfl),by repeat (first|(with_reducible first|exact HB.out|apply below_alloc|apply pw_below_drewN|apply below_drew1|refine below_set ?_ GE250.out|refine below_set ?_ GE273.out)|exact HB.out)⟩
   rw [if_neg c75] at H
   have c75b0 : decide (t300 < 0) = false:=decide_eq_false c75
   clear c75
   replace H:=Option.bind_eq_some_iff.mp H
   obtain ⟨t301,A800,H⟩:=H
   replace H : (if t301 < 0 then (some false) else (if t301 = t298 then ((laws_toWire.f kj46 a0_0 l0_1 l0_2).bind fun bt302=>((impl_FallsOf.f kj46 bt302.1 bt302.2.1 bt302.2.2).bind fun bt309=>((laws_eqIntS.f kj46 bt309.1 t259).bind fun t316=>(if t316 = true then ((laws_eqIntS.f kj46 bt309.2.1 t262).bind fun t317=>(if t317 = true then (laws_FnExactFallsOf.j2 kj46 t297 t299 t298 (bt309.2.2 != t265)) else (laws_FnExactFallsOf.j2 kj46 t297 t299 t298 true))) else (laws_FnExactFallsOf.j2 kj46 t297 t299 t298 true))))) else (some false))) = some r:=H
   have A80:=Aside0.mk A800
   clear A800
   by_cases c81 : t301 < 0
   ·rw [if_pos c81] at H
    have c81b0 : decide (t301 < 0) = true:=decide_eq_true c81
    clear c81
    obtain rfl:=Option.some.inj H
    obtain ⟨Ao82,co82,eo82⟩:=R_slice HO_8.out
    subst eo82
    go_wp2_with (first|((with_reducible refine gate_callee (f:=24) rfl ?_);refine goesL_ (some 81) rfl rfl Try.func24 (by kernel_rfl) rfl #[.slice Ao82 t274.length co82,.int .i64 1] rfl (by (try simp only [List.map_toArray,List.map_cons,List.map_nil]);first|done|rfl|(simp only [List.length_drop,List.length_take];rfl)) ?_;(with_reducible refine (laws_markIntS.calls kj46 (fun k_=>some k_ = (.slice Ao82 t274.length co82 : Value).ownBlock) (.slice Ao82 t274.length co82) t274 1 t296 t297 w _ ?side1 ?side2 A72.out).mono ?_);(case side1=>repeat (first|(with_reducible first|exact HB.out|apply below_alloc|apply pw_below_drewN|apply below_drew1|refine below_set ?_ GE250.out|refine below_set ?_ GE273.out)|exact HB.out));(case side2=>exact R_tight rfl HO_8.out);rintro e w83 ⟨rfl,hy0,hb,hkp⟩;refine ⟨_,rfl,?_⟩;have n0_:=Aside0.mk (R_mono (ok':=fun k_=>some k_ ≠ (v263 : Value).ownBlock ∧ some k_ ≠ (.slice Ao82 t274.length co82 : Value).ownBlock ∧ some k_ ≠ (v278 : Value).ownBlock ∧ some k_ ≠ (.slice Ao25 t292.length co25 : Value).ownBlock ∧ some k_ ≠ (.slice Ao26 t293.length co26 : Value).ownBlock) (R_keptB (HO_4.out) hkp (fun k_ hk_ hs_=>(hk_.2.1) hs_)) (fun k_ hk_=>⟨hk_.1.1,hk_.1.2.1,hk_.1.2.2.1,hk_.1.2.2.2.1,hk_.1.2.2.2.2⟩));have n1_:=Aside0.mk (R_mono (ok':=fun k_=>some k_ ≠ (v260 : Value).ownBlock ∧ some k_ ≠ (.slice Ao82 t274.length co82 : Value).ownBlock ∧ some k_ ≠ (v278 : Value).ownBlock ∧ some k_ ≠ (.slice Ao25 t292.length co25 : Value).ownBlock ∧ some k_ ≠ (.slice Ao26 t293.length co26 : Value).ownBlock) (R_keptB (HO_5.out) hkp (fun k_ hk_ hs_=>(hk_.2.1) hs_)) (fun k_ hk_=>⟨hk_.1.1,hk_.1.2.1,hk_.1.2.2.1,hk_.1.2.2.2.1,hk_.1.2.2.2.2⟩));have n2_:=Aside0.mk (R_reok rfl hy0 (fun k_ e_=>HO_8.out.1 k_ e_));have n3_:=Aside0.mk (R_mono (ok':=fun k_=>some k_ ≠ (v260 : Value).ownBlock ∧ some k_ ≠ (v263 : Value).ownBlock ∧ some k_ ≠ (.slice Ao82 t274.length co82 : Value).ownBlock ∧ some k_ ≠ (.slice Ao25 t292.length co25 : Value).ownBlock ∧ some k_ ≠ (.slice Ao26 t293.length co26 : Value).ownBlock) (R_keptB (HO_9.out) hkp (fun k_ hk_ hs_=>(hk_.2.2.1) hs_)) (fun k_ hk_=>⟨hk_.1.1,hk_.1.2.1,hk_.1.2.2.1,hk_.1.2.2.2.1,hk_.1.2.2.2.2⟩));have n4_:=Aside0.mk (R_mono (ok':=fun k_=>some k_ ≠ (v260 : Value).ownBlock ∧ some k_ ≠ (v263 : Value).ownBlock ∧ some k_ ≠ (.slice Ao82 t274.length co82 : Value).ownBlock ∧ some k_ ≠ (v278 : Value).ownBlock ∧ some k_ ≠ (.slice Ao26 t293.length co26 : Value).ownBlock) (R_keptB (HO_274001.out) hkp (fun k_ hk_ hs_=>(hk_.2.2.1) hs_)) (fun k_ hk_=>⟨hk_.1.1,hk_.1.2.1,hk_.1.2.2.1,hk_.1.2.2.2.1,hk_.1.2.2.2.2⟩));have n5_:=Aside0.mk (R_mono (ok':=fun k_=>some k_ ≠ (v260 : Value).ownBlock ∧ some k_ ≠ (v263 : Value).ownBlock ∧ some k_ ≠ (.slice Ao82 t274.length co82 : Value).ownBlock ∧ some k_ ≠ (v278 : Value).ownBlock ∧ some k_ ≠ (.slice Ao25 t292.length co25 : Value).ownBlock) (R_keptB (HO_274002.out) hkp (fun k_ hk_ hs_=>(hk_.2.2.1) hs_)) (fun k_ hk_=>⟨hk_.1.1,hk_.1.2.1,hk_.1.2.2.1,hk_.1.2.2.2.1,hk_.1.2.2.2.2⟩));have n6_:=Aside0.mk (blk_kept (by (with_reducible repeat (first|apply blk_drewN|apply blk_drew|apply blk_alloc));exact BK250.out) hkp (fun hs_=>(fun e_=>(R_ne HO_8.out BK250.out (by decide)) e_) hs_));have n7_:=Aside0.mk (blk_kept (by (with_reducible repeat (first|apply blk_drewN|apply blk_drew|apply blk_alloc));exact BK273.out) hkp (fun hs_=>(fun e_=>(R_ne HO_8.out BK273.out (by decide)) e_) hs_));have n8_:=Aside0.mk (hb);clear HO_4;clear HO_5;clear HO_8;clear HO_9;clear HO_274001;clear HO_274002;clear BK250;clear BK273;clear HB;have HO_4:=n0_;have HO_5:=n1_;have HO_8:=n2_;have HO_9:=n3_;have HO_274001:=n4_;have HO_274002:=n5_;have BK250:=n6_;have BK273:=n7_;have HB:=n8_;clear n0_ n1_ n2_ n3_ n4_ n5_ n6_ n7_ n8_;(try clear hb);(try clear hkp);(try clear hy0);obtain ⟨Ao84,co84,eo84⟩:=R_slice HO_9.out;subst eo84)|((with_reducible refine gate_callee (f:=24) rfl ?_);refine goesL_ (some 84) rfl rfl Try.func24 (by kernel_rfl) rfl #[.slice Ao84 t277.length co84,.int .i64 t296] rfl (by (try simp only [List.map_toArray,List.map_cons,List.map_nil]);first|done|rfl|(simp only [List.length_drop,List.length_take];rfl)) ?_;(with_reducible refine (laws_markIntS.calls kj46 (fun k_=>some k_ = (.slice Ao84 t277.length co84 : Value).ownBlock) (.slice Ao84 t277.length co84) t277 t296 t298 t299 w _ ?side1 ?side2 A73.out).mono ?_);(case side1=>repeat (first|(with_reducible first|exact HB.out|apply below_alloc|apply pw_below_drewN|apply below_drew1|refine below_set ?_ GE250.out|refine below_set ?_ GE273.out)|exact HB.out));(case side2=>exact R_tight rfl HO_9.out);rintro e w85 ⟨rfl,hy0,hb,hkp⟩;refine ⟨_,rfl,?_⟩;have n0_:=Aside0.mk (R_mono (ok':=fun k_=>some k_ ≠ (v263 : Value).ownBlock ∧ some k_ ≠ (.slice Ao82 t274.length co82 : Value).ownBlock ∧ some k_ ≠ (.slice Ao84 t277.length co84 : Value).ownBlock ∧ some k_ ≠ (.slice Ao25 t292.length co25 : Value).ownBlock ∧ some k_ ≠ (.slice Ao26 t293.length co26 : Value).ownBlock) (R_keptB (HO_4.out) hkp (fun k_ hk_ hs_=>(hk_.2.2.1) hs_)) (fun k_ hk_=>⟨hk_.1.1,hk_.1.2.1,hk_.1.2.2.1,hk_.1.2.2.2.1,hk_.1.2.2.2.2⟩));have n1_:=Aside0.mk (R_mono (ok':=fun k_=>some k_ ≠ (v260 : Value).ownBlock ∧ some k_ ≠ (.slice Ao82 t274.length co82 : Value).ownBlock ∧ some k_ ≠ (.slice Ao84 t277.length co84 : Value).ownBlock ∧ some k_ ≠ (.slice Ao25 t292.length co25 : Value).ownBlock ∧ some k_ ≠ (.slice Ao26 t293.length co26 : Value).ownBlock) (R_keptB (HO_5.out) hkp (fun k_ hk_ hs_=>(hk_.2.2.1) hs_)) (fun k_ hk_=>⟨hk_.1.1,hk_.1.2.1,hk_.1.2.2.1,hk_.1.2.2.2.1,hk_.1.2.2.2.2⟩));have n2_:=Aside0.mk (R_mono (ok':=fun k_=>some k_ ≠ (v260 : Value).ownBlock ∧ some k_ ≠ (v263 : Value).ownBlock ∧ some k_ ≠ (.slice Ao84 t277.length co84 : Value).ownBlock ∧ some k_ ≠ (.slice Ao25 t292.length co25 : Value).ownBlock ∧ some k_ ≠ (.slice Ao26 t293.length co26 : Value).ownBlock) (R_keptB (HO_8.out) hkp (fun k_ hk_ hs_=>(hk_.2.2.1) hs_)) (fun k_ hk_=>⟨hk_.1.1,hk_.1.2.1,hk_.1.2.2.1,hk_.1.2.2.2.1,hk_.1.2.2.2.2⟩));have n3_:=Aside0.mk (R_reok rfl hy0 (fun k_ e_=>HO_9.out.1 k_ e_));have n4_:=Aside0.mk (R_mono (ok':=fun k_=>some k_ ≠ (v260 : Value).ownBlock ∧ some k_ ≠ (v263 : Value).ownBlock ∧ some k_ ≠ (.slice Ao82 t274.length co82 : Value).ownBlock ∧ some k_ ≠ (.slice Ao84 t277.length co84 : Value).ownBlock ∧ some k_ ≠ (.slice Ao26 t293.length co26 : Value).ownBlock) (R_keptB (HO_274001.out) hkp (fun k_ hk_ hs_=>(hk_.2.2.2.1) hs_)) (fun k_ hk_=>⟨hk_.1.1,hk_.1.2.1,hk_.1.2.2.1,hk_.1.2.2.2.1,hk_.1.2.2.2.2⟩));have n5_:=Aside0.mk (R_mono (ok':=fun k_=>some k_ ≠ (v260 : Value).ownBlock ∧ some k_ ≠ (v263 : Value).ownBlock ∧ some k_ ≠ (.slice Ao82 t274.length co82 : Value).ownBlock ∧ some k_ ≠ (.slice Ao84 t277.length co84 : Value).ownBlock ∧ some k_ ≠ (.slice Ao25 t292.length co25 : Value).ownBlock) (R_keptB (HO_274002.out) hkp (fun k_ hk_ hs_=>(hk_.2.2.2.1) hs_)) (fun k_ hk_=>⟨hk_.1.1,hk_.1.2.1,hk_.1.2.2.1,hk_.1.2.2.2.1,hk_.1.2.2.2.2⟩));have n6_:=Aside0.mk (blk_kept (by (with_reducible repeat (first|apply blk_drewN|apply blk_drew|apply blk_alloc));exact BK250.out) hkp (fun hs_=>(fun e_=>(R_ne HO_9.out BK250.out (by decide)) e_) hs_));have n7_:=Aside0.mk (blk_kept (by (with_reducible repeat (first|apply blk_drewN|apply blk_drew|apply blk_alloc));exact BK273.out) hkp (fun hs_=>(fun e_=>(R_ne HO_9.out BK273.out (by decide)) e_) hs_));have n8_:=Aside0.mk (hb);clear HO_4;clear HO_5;clear HO_8;clear HO_9;clear HO_274001;clear HO_274002;clear BK250;clear BK273;clear HB;have HO_4:=n0_;have HO_5:=n1_;have HO_8:=n2_;have HO_9:=n3_;have HO_274001:=n4_;have HO_274002:=n5_;have BK250:=n6_;have BK273:=n7_;have HB:=n8_;clear n0_ n1_ n2_ n3_ n4_ n5_ n6_ n7_ n8_;(try clear hb);(try clear hkp);(try clear hy0))|((with_reducible refine gate_callee (f:=25) rfl ?_);refine goesL_ (some 87) rfl rfl Try.func25 (by kernel_rfl) rfl #[.slice Ao82 t297.length co82,.int .i64 1] rfl (by (try simp only [List.map_toArray,List.map_cons,List.map_nil]);first|done|(rw [show t297.length = t274.length from (R_reads' HO_8.out).1.symm] <;> rfl)|rfl|(simp only [List.length_drop,List.length_take];rfl)) ?_;(with_reducible refine (laws_heldIntS.calls kj46 _ _ t297 1 t300 _ ?side1 ?side2 A74.out).mono ?_);(case side1=>repeat (first|exact (R_reads' HO_8.out).2.2|(with_reducible refine C_alloc ?_ _)|(with_reducible refine C_drewN ?_ _)|(with_reducible refine C_drew ?_)));(case side2=>rw [show t297.length = t274.length from (R_reads' HO_8.out).1.symm];exact (R_reads' HO_8.out).2.1);rintro e w' ⟨rfl,⟨nd,rfl⟩⟩;refine ⟨_,rfl,?_⟩)|((with_reducible refine gate_callee (f:=25) rfl ?_);refine goesL_ (some 92) rfl rfl Try.func25 (by kernel_rfl) rfl #[.slice Ao84 t299.length co84,.int .i64 t300] rfl (by (try simp only [List.map_toArray,List.map_cons,List.map_nil]);first|done|(rw [show t299.length = t277.length from (R_reads' HO_9.out).1.symm] <;> rfl)|rfl|(simp only [List.length_drop,List.length_take];rfl)) ?_;(with_reducible refine (laws_heldIntS.calls kj46 _ _ t299 t300 t301 _ ?side1 ?side2 A80.out).mono ?_);(case side1=>repeat (first|exact (R_reads' HO_9.out).2.2|(with_reducible refine C_alloc ?_ _)|(with_reducible refine C_drewN ?_ _)|(with_reducible refine C_drew ?_)));(case side2=>rw [show t299.length = t277.length from (R_reads' HO_9.out).1.symm];exact (R_reads' HO_9.out).2.1);rintro e w' ⟨rfl,⟨nd,rfl⟩⟩;refine ⟨_,rfl,?_⟩))
    go_ret
    exact ⟨by first|rfl|(simp [errW_none,errW_some] <;> rfl)|(simp [*,errW_none,errW_some] <;> rfl),by repeat (first|(with_reducible first|exact HB.out|apply below_alloc|apply pw_below_drewN|apply below_drew1|refine below_set ?_ GE250.out|refine below_set ?_ GE273.out)|exact HB.out)⟩
   rw [if_neg c81] at H
   have c81b0 : decide (t301 < 0) = false:=decide_eq_false c81
   clear c81
   by_cases c86 : t301 = t298
   rotate_left
   ·rw [if_neg c86] at H
    have c86b0 : (t301 == t298) = false:=beq_eq_false_iff_ne.mpr c86
    have c86b1 : (t301 != t298) = true:=bne_iff_ne.mpr c86
    obtain rfl:=Option.some.inj H
    obtain ⟨Ao120,co120,eo120⟩:=R_slice HO_8.out
    subst eo120
    go_wp2_with (first|((with_reducible refine gate_callee (f:=24) rfl ?_);refine goesL_ (some 81) rfl rfl Try.func24 (by kernel_rfl) rfl #[.slice Ao120 t274.length co120,.int .i64 1] rfl (by (try simp only [List.map_toArray,List.map_cons,List.map_nil]);first|done|rfl|(simp only [List.length_drop,List.length_take];rfl)) ?_;(with_reducible refine (laws_markIntS.calls kj46 (fun k_=>some k_ = (.slice Ao120 t274.length co120 : Value).ownBlock) (.slice Ao120 t274.length co120) t274 1 t296 t297 w _ ?side1 ?side2 A72.out).mono ?_);(case side1=>repeat (first|(with_reducible first|exact HB.out|apply below_alloc|apply pw_below_drewN|apply below_drew1|refine below_set ?_ GE250.out|refine below_set ?_ GE273.out)|exact HB.out));(case side2=>exact R_tight rfl HO_8.out);rintro e w121 ⟨rfl,hy0,hb,hkp⟩;refine ⟨_,rfl,?_⟩;have n0_:=Aside0.mk (R_mono (ok':=fun k_=>some k_ ≠ (v263 : Value).ownBlock ∧ some k_ ≠ (.slice Ao120 t274.length co120 : Value).ownBlock ∧ some k_ ≠ (v278 : Value).ownBlock ∧ some k_ ≠ (.slice Ao25 t292.length co25 : Value).ownBlock ∧ some k_ ≠ (.slice Ao26 t293.length co26 : Value).ownBlock) (R_keptB (HO_4.out) hkp (fun k_ hk_ hs_=>(hk_.2.1) hs_)) (fun k_ hk_=>⟨hk_.1.1,hk_.1.2.1,hk_.1.2.2.1,hk_.1.2.2.2.1,hk_.1.2.2.2.2⟩));have n1_:=Aside0.mk (R_mono (ok':=fun k_=>some k_ ≠ (v260 : Value).ownBlock ∧ some k_ ≠ (.slice Ao120 t274.length co120 : Value).ownBlock ∧ some k_ ≠ (v278 : Value).ownBlock ∧ some k_ ≠ (.slice Ao25 t292.length co25 : Value).ownBlock ∧ some k_ ≠ (.slice Ao26 t293.length co26 : Value).ownBlock) (R_keptB (HO_5.out) hkp (fun k_ hk_ hs_=>(hk_.2.1) hs_)) (fun k_ hk_=>⟨hk_.1.1,hk_.1.2.1,hk_.1.2.2.1,hk_.1.2.2.2.1,hk_.1.2.2.2.2⟩));have n2_:=Aside0.mk (R_reok rfl hy0 (fun k_ e_=>HO_8.out.1 k_ e_));have n3_:=Aside0.mk (R_mono (ok':=fun k_=>some k_ ≠ (v260 : Value).ownBlock ∧ some k_ ≠ (v263 : Value).ownBlock ∧ some k_ ≠ (.slice Ao120 t274.length co120 : Value).ownBlock ∧ some k_ ≠ (.slice Ao25 t292.length co25 : Value).ownBlock ∧ some k_ ≠ (.slice Ao26 t293.length co26 : Value).ownBlock) (R_keptB (HO_9.out) hkp (fun k_ hk_ hs_=>(hk_.2.2.1) hs_)) (fun k_ hk_=>⟨hk_.1.1,hk_.1.2.1,hk_.1.2.2.1,hk_.1.2.2.2.1,hk_.1.2.2.2.2⟩));have n4_:=Aside0.mk (R_mono (ok':=fun k_=>some k_ ≠ (v260 : Value).ownBlock ∧ some k_ ≠ (v263 : Value).ownBlock ∧ some k_ ≠ (.slice Ao120 t274.length co120 : Value).ownBlock ∧ some k_ ≠ (v278 : Value).ownBlock ∧ some k_ ≠ (.slice Ao26 t293.length co26 : Value).ownBlock) (R_keptB (HO_274001.out) hkp (fun k_ hk_ hs_=>(hk_.2.2.1) hs_)) (fun k_ hk_=>⟨hk_.1.1,hk_.1.2.1,hk_.1.2.2.1,hk_.1.2.2.2.1,hk_.1.2.2.2.2⟩));have n5_:=Aside0.mk (R_mono (ok':=fun k_=>some k_ ≠ (v260 : Value).ownBlock ∧ some k_ ≠ (v263 : Value).ownBlock ∧ some k_ ≠ (.slice Ao120 t274.length co120 : Value).ownBlock ∧ some k_ ≠ (v278 : Value).ownBlock ∧ some k_ ≠ (.slice Ao25 t292.length co25 : Value).ownBlock) (R_keptB (HO_274002.out) hkp (fun k_ hk_ hs_=>(hk_.2.2.1) hs_)) (fun k_ hk_=>⟨hk_.1.1,hk_.1.2.1,hk_.1.2.2.1,hk_.1.2.2.2.1,hk_.1.2.2.2.2⟩));have n6_:=Aside0.mk (blk_kept (by (with_reducible repeat (first|apply blk_drewN|apply blk_drew|apply blk_alloc));exact BK250.out) hkp (fun hs_=>(fun e_=>(R_ne HO_8.out BK250.out (by decide)) e_) hs_));have n7_:=Aside0.mk (blk_kept (by (with_reducible repeat (first|apply blk_drewN|apply blk_drew|apply blk_alloc));exact BK273.out) hkp (fun hs_=>(fun e_=>(R_ne HO_8.out BK273.out (by decide)) e_) hs_));have n8_:=Aside0.mk (hb);clear HO_4;clear HO_5;clear HO_8;clear HO_9;clear HO_274001;clear HO_274002;clear BK250;clear BK273;clear HB;have HO_4:=n0_;have HO_5:=n1_;have HO_8:=n2_;have HO_9:=n3_;have HO_274001:=n4_;have HO_274002:=n5_;have BK250:=n6_;have BK273:=n7_;have HB:=n8_;clear n0_ n1_ n2_ n3_ n4_ n5_ n6_ n7_ n8_;(try clear hb);(try clear hkp);(try clear hy0);obtain ⟨Ao122,co122,eo122⟩:=R_slice HO_9.out;subst eo122)|((with_reducible refine gate_callee (f:=24) rfl ?_);refine goesL_ (some 84) rfl rfl Try.func24 (by kernel_rfl) rfl #[.slice Ao122 t277.length co122,.int .i64 t296] rfl (by (try simp only [List.map_toArray,List.map_cons,List.map_nil]);first|done|rfl|(simp only [List.length_drop,List.length_take];rfl)) ?_;(with_reducible refine (laws_markIntS.calls kj46 (fun k_=>some k_ = (.slice Ao122 t277.length co122 : Value).ownBlock) (.slice Ao122 t277.length co122) t277 t296 t298 t299 w _ ?side1 ?side2 A73.out).mono ?_);(case side1=>repeat (first|(with_reducible first|exact HB.out|apply below_alloc|apply pw_below_drewN|apply below_drew1|refine below_set ?_ GE250.out|refine below_set ?_ GE273.out)|exact HB.out));(case side2=>exact R_tight rfl HO_9.out);rintro e w123 ⟨rfl,hy0,hb,hkp⟩;refine ⟨_,rfl,?_⟩;have n0_:=Aside0.mk (R_mono (ok':=fun k_=>some k_ ≠ (v263 : Value).ownBlock ∧ some k_ ≠ (.slice Ao120 t274.length co120 : Value).ownBlock ∧ some k_ ≠ (.slice Ao122 t277.length co122 : Value).ownBlock ∧ some k_ ≠ (.slice Ao25 t292.length co25 : Value).ownBlock ∧ some k_ ≠ (.slice Ao26 t293.length co26 : Value).ownBlock) (R_keptB (HO_4.out) hkp (fun k_ hk_ hs_=>(hk_.2.2.1) hs_)) (fun k_ hk_=>⟨hk_.1.1,hk_.1.2.1,hk_.1.2.2.1,hk_.1.2.2.2.1,hk_.1.2.2.2.2⟩));have n1_:=Aside0.mk (R_mono (ok':=fun k_=>some k_ ≠ (v260 : Value).ownBlock ∧ some k_ ≠ (.slice Ao120 t274.length co120 : Value).ownBlock ∧ some k_ ≠ (.slice Ao122 t277.length co122 : Value).ownBlock ∧ some k_ ≠ (.slice Ao25 t292.length co25 : Value).ownBlock ∧ some k_ ≠ (.slice Ao26 t293.length co26 : Value).ownBlock) (R_keptB (HO_5.out) hkp (fun k_ hk_ hs_=>(hk_.2.2.1) hs_)) (fun k_ hk_=>⟨hk_.1.1,hk_.1.2.1,hk_.1.2.2.1,hk_.1.2.2.2.1,hk_.1.2.2.2.2⟩));have n2_:=Aside0.mk (R_mono (ok':=fun k_=>some k_ ≠ (v260 : Value).ownBlock ∧ some k_ ≠ (v263 : Value).ownBlock ∧ some k_ ≠ (.slice Ao122 t277.length co122 : Value).ownBlock ∧ some k_ ≠ (.slice Ao25 t292.length co25 : Value).ownBlock ∧ some k_ ≠ (.slice Ao26 t293.length co26 : Value).ownBlock) (R_keptB (HO_8.out) hkp (fun k_ hk_ hs_=>(hk_.2.2.1) hs_)) (fun k_ hk_=>⟨hk_.1.1,hk_.1.2.1,hk_.1.2.2.1,hk_.1.2.2.2.1,hk_.1.2.2.2.2⟩));have n3_:=Aside0.mk (R_reok rfl hy0 (fun k_ e_=>HO_9.out.1 k_ e_));have n4_:=Aside0.mk (R_mono (ok':=fun k_=>some k_ ≠ (v260 : Value).ownBlock ∧ some k_ ≠ (v263 : Value).ownBlock ∧ some k_ ≠ (.slice Ao120 t274.length co120 : Value).ownBlock ∧ some k_ ≠ (.slice Ao122 t277.length co122 : Value).ownBlock ∧ some k_ ≠ (.slice Ao26 t293.length co26 : Value).ownBlock) (R_keptB (HO_274001.out) hkp (fun k_ hk_ hs_=>(hk_.2.2.2.1) hs_)) (fun k_ hk_=>⟨hk_.1.1,hk_.1.2.1,hk_.1.2.2.1,hk_.1.2.2.2.1,hk_.1.2.2.2.2⟩));have n5_:=Aside0.mk (R_mono (ok':=fun k_=>some k_ ≠ (v260 : Value).ownBlock ∧ some k_ ≠ (v263 : Value).ownBlock ∧ some k_ ≠ (.slice Ao120 t274.length co120 : Value).ownBlock ∧ some k_ ≠ (.slice Ao122 t277.length co122 : Value).ownBlock ∧ some k_ ≠ (.slice Ao25 t292.length co25 : Value).ownBlock) (R_keptB (HO_274002.out) hkp (fun k_ hk_ hs_=>(hk_.2.2.2.1) hs_)) (fun k_ hk_=>⟨hk_.1.1,hk_.1.2.1,hk_.1.2.2.1,hk_.1.2.2.2.1,hk_.1.2.2.2.2⟩));have n6_:=Aside0.mk (blk_kept (by (with_reducible repeat (first|apply blk_drewN|apply blk_drew|apply blk_alloc));exact BK250.out) hkp (fun hs_=>(fun e_=>(R_ne HO_9.out BK250.out (by decide)) e_) hs_));have n7_:=Aside0.mk (blk_kept (by (with_reducible repeat (first|apply blk_drewN|apply blk_drew|apply blk_alloc));exact BK273.out) hkp (fun hs_=>(fun e_=>(R_ne HO_9.out BK273.out (by decide)) e_) hs_));have n8_:=Aside0.mk (hb);clear HO_4;clear HO_5;clear HO_8;clear HO_9;clear HO_274001;clear HO_274002;clear BK250;clear BK273;clear HB;have HO_4:=n0_;have HO_5:=n1_;have HO_8:=n2_;have HO_9:=n3_;have HO_274001:=n4_;have HO_274002:=n5_;have BK250:=n6_;have BK273:=n7_;have HB:=n8_;clear n0_ n1_ n2_ n3_ n4_ n5_ n6_ n7_ n8_;(try clear hb);(try clear hkp);(try clear hy0))|((with_reducible refine gate_callee (f:=25) rfl ?_);refine goesL_ (some 87) rfl rfl Try.func25 (by kernel_rfl) rfl #[.slice Ao120 t297.length co120,.int .i64 1] rfl (by (try simp only [List.map_toArray,List.map_cons,List.map_nil]);first|done|(rw [show t297.length = t274.length from (R_reads' HO_8.out).1.symm] <;> rfl)|rfl|(simp only [List.length_drop,List.length_take];rfl)) ?_;(with_reducible refine (laws_heldIntS.calls kj46 _ _ t297 1 t300 _ ?side1 ?side2 A74.out).mono ?_);(case side1=>repeat (first|exact (R_reads' HO_8.out).2.2|(with_reducible refine C_alloc ?_ _)|(with_reducible refine C_drewN ?_ _)|(with_reducible refine C_drew ?_)));(case side2=>rw [show t297.length = t274.length from (R_reads' HO_8.out).1.symm];exact (R_reads' HO_8.out).2.1);rintro e w' ⟨rfl,⟨nd,rfl⟩⟩;refine ⟨_,rfl,?_⟩)|((with_reducible refine gate_callee (f:=25) rfl ?_);refine goesL_ (some 92) rfl rfl Try.func25 (by kernel_rfl) rfl #[.slice Ao122 t299.length co122,.int .i64 t300] rfl (by (try simp only [List.map_toArray,List.map_cons,List.map_nil]);first|done|(rw [show t299.length = t277.length from (R_reads' HO_9.out).1.symm] <;> rfl)|rfl|(simp only [List.length_drop,List.length_take];rfl)) ?_;(with_reducible refine (laws_heldIntS.calls kj46 _ _ t299 t300 t301 _ ?side1 ?side2 A80.out).mono ?_);(case side1=>repeat (first|exact (R_reads' HO_9.out).2.2|(with_reducible refine C_alloc ?_ _)|(with_reducible refine C_drewN ?_ _)|(with_reducible refine C_drew ?_)));(case side2=>rw [show t299.length = t277.length from (R_reads' HO_9.out).1.symm];exact (R_reads' HO_9.out).2.1);rintro e w' ⟨rfl,⟨nd,rfl⟩⟩;refine ⟨_,rfl,?_⟩))
    go_ret
    exact ⟨by first|rfl|(simp [errW_none,errW_some] <;> rfl)|(simp [*,errW_none,errW_some] <;> rfl),by repeat (first|(with_reducible first|exact HB.out|apply below_alloc|apply pw_below_drewN|apply below_drew1|refine below_set ?_ GE250.out|refine below_set ?_ GE273.out)|exact HB.out)⟩
   rw [if_pos c86] at H
   have c86b0 : (t301 == t298) = true:=beq_iff_eq.mpr c86
   have c86b1 : (t301 != t298) = false:=bne_eq_false_iff_eq.mpr c86
   clear c86
   replace H:=Option.bind_eq_some_iff.mp H
   obtain ⟨⟨t302,t303,t306⟩,A870,H⟩:=H
   replace H : ((impl_FallsOf.f kj46 t302 t303 t306).bind fun bt309=>((laws_eqIntS.f kj46 bt309.1 t259).bind fun t316=>(if t316 = true then ((laws_eqIntS.f kj46 bt309.2.1 t262).bind fun t317=>(if t317 = true then (laws_FnExactFallsOf.j2 kj46 t297 t299 t298 (bt309.2.2 != t265)) else (laws_FnExactFallsOf.j2 kj46 t297 t299 t298 true))) else (laws_FnExactFallsOf.j2 kj46 t297 t299 t298 true)))) = some r:=H
   have A87:=Aside0.mk A870
   clear A870
   replace H:=Option.bind_eq_some_iff.mp H
   obtain ⟨⟨t309,t312,t315⟩,A880,H⟩:=H
   replace H : ((laws_eqIntS.f kj46 t309 t259).bind fun t316=>(if t316 = true then ((laws_eqIntS.f kj46 t312 t262).bind fun t317=>(if t317 = true then (laws_FnExactFallsOf.j2 kj46 t297 t299 t298 (t315 != t265)) else (laws_FnExactFallsOf.j2 kj46 t297 t299 t298 true))) else (laws_FnExactFallsOf.j2 kj46 t297 t299 t298 true))) = some r:=H
   have A88:=Aside0.mk A880
   clear A880
   have HC89:=Aside0.mk H
   clear H
   obtain ⟨Ao90,co90,eo90⟩:=R_slice HO_8.out
   subst eo90
   go_upto_region 29 with (first|((with_reducible refine gate_callee (f:=24) rfl ?_);refine goesL_ (some 81) rfl rfl Try.func24 (by kernel_rfl) rfl #[.slice Ao90 t274.length co90,.int .i64 1] rfl (by (try simp only [List.map_toArray,List.map_cons,List.map_nil]);first|done|rfl|(simp only [List.length_drop,List.length_take];rfl)) ?_;(with_reducible refine (laws_markIntS.calls kj46 (fun k_=>some k_ = (.slice Ao90 t274.length co90 : Value).ownBlock) (.slice Ao90 t274.length co90) t274 1 t296 t297 w _ ?side1 ?side2 A72.out).mono ?_);(case side1=>repeat (first|(with_reducible first|exact HB.out|apply below_alloc|apply pw_below_drewN|apply below_drew1|refine below_set ?_ GE250.out|refine below_set ?_ GE273.out)|exact HB.out));(case side2=>exact R_tight rfl HO_8.out);rintro e w91 ⟨rfl,hy0,hb,hkp⟩;refine ⟨_,rfl,?_⟩;have n0_:=Aside0.mk (R_mono (ok':=fun k_=>some k_ ≠ (v263 : Value).ownBlock ∧ some k_ ≠ (.slice Ao90 t274.length co90 : Value).ownBlock ∧ some k_ ≠ (v278 : Value).ownBlock ∧ some k_ ≠ (.slice Ao25 t292.length co25 : Value).ownBlock ∧ some k_ ≠ (.slice Ao26 t293.length co26 : Value).ownBlock) (R_keptB (HO_4.out) hkp (fun k_ hk_ hs_=>(hk_.2.1) hs_)) (fun k_ hk_=>⟨hk_.1.1,hk_.1.2.1,hk_.1.2.2.1,hk_.1.2.2.2.1,hk_.1.2.2.2.2⟩));have n1_:=Aside0.mk (R_mono (ok':=fun k_=>some k_ ≠ (v260 : Value).ownBlock ∧ some k_ ≠ (.slice Ao90 t274.length co90 : Value).ownBlock ∧ some k_ ≠ (v278 : Value).ownBlock ∧ some k_ ≠ (.slice Ao25 t292.length co25 : Value).ownBlock ∧ some k_ ≠ (.slice Ao26 t293.length co26 : Value).ownBlock) (R_keptB (HO_5.out) hkp (fun k_ hk_ hs_=>(hk_.2.1) hs_)) (fun k_ hk_=>⟨hk_.1.1,hk_.1.2.1,hk_.1.2.2.1,hk_.1.2.2.2.1,hk_.1.2.2.2.2⟩));have n2_:=Aside0.mk (R_reok rfl hy0 (fun k_ e_=>HO_8.out.1 k_ e_));have n3_:=Aside0.mk (R_mono (ok':=fun k_=>some k_ ≠ (v260 : Value).ownBlock ∧ some k_ ≠ (v263 : Value).ownBlock ∧ some k_ ≠ (.slice Ao90 t274.length co90 : Value).ownBlock ∧ some k_ ≠ (.slice Ao25 t292.length co25 : Value).ownBlock ∧ some k_ ≠ (.slice Ao26 t293.length co26 : Value).ownBlock) (R_keptB (HO_9.out) hkp (fun k_ hk_ hs_=>(hk_.2.2.1) hs_)) (fun k_ hk_=>⟨hk_.1.1,hk_.1.2.1,hk_.1.2.2.1,hk_.1.2.2.2.1,hk_.1.2.2.2.2⟩));have n4_:=Aside0.mk (R_mono (ok':=fun k_=>some k_ ≠ (v260 : Value).ownBlock ∧ some k_ ≠ (v263 : Value).ownBlock ∧ some k_ ≠ (.slice Ao90 t274.length co90 : Value).ownBlock ∧ some k_ ≠ (v278 : Value).ownBlock ∧ some k_ ≠ (.slice Ao26 t293.length co26 : Value).ownBlock) (R_keptB (HO_274001.out) hkp (fun k_ hk_ hs_=>(hk_.2.2.1) hs_)) (fun k_ hk_=>⟨hk_.1.1,hk_.1.2.1,hk_.1.2.2.1,hk_.1.2.2.2.1,hk_.1.2.2.2.2⟩));have n5_:=Aside0.mk (R_mono (ok':=fun k_=>some k_ ≠ (v260 : Value).ownBlock ∧ some k_ ≠ (v263 : Value).ownBlock ∧ some k_ ≠ (.slice Ao90 t274.length co90 : Value).ownBlock ∧ some k_ ≠ (v278 : Value).ownBlock ∧ some k_ ≠ (.slice Ao25 t292.length co25 : Value).ownBlock) (R_keptB (HO_274002.out) hkp (fun k_ hk_ hs_=>(hk_.2.2.1) hs_)) (fun k_ hk_=>⟨hk_.1.1,hk_.1.2.1,hk_.1.2.2.1,hk_.1.2.2.2.1,hk_.1.2.2.2.2⟩));have n6_:=Aside0.mk (blk_kept (by (with_reducible repeat (first|apply blk_drewN|apply blk_drew|apply blk_alloc));exact BK250.out) hkp (fun hs_=>(fun e_=>(R_ne HO_8.out BK250.out (by decide)) e_) hs_));have n7_:=Aside0.mk (blk_kept (by (with_reducible repeat (first|apply blk_drewN|apply blk_drew|apply blk_alloc));exact BK273.out) hkp (fun hs_=>(fun e_=>(R_ne HO_8.out BK273.out (by decide)) e_) hs_));have n8_:=Aside0.mk (hb);clear HO_4;clear HO_5;clear HO_8;clear HO_9;clear HO_274001;clear HO_274002;clear BK250;clear BK273;clear HB;have HO_4:=n0_;have HO_5:=n1_;have HO_8:=n2_;have HO_9:=n3_;have HO_274001:=n4_;have HO_274002:=n5_;have BK250:=n6_;have BK273:=n7_;have HB:=n8_;clear n0_ n1_ n2_ n3_ n4_ n5_ n6_ n7_ n8_;(try clear hb);(try clear hkp);(try clear hy0);obtain ⟨Ao92,co92,eo92⟩:=R_slice HO_9.out;subst eo92)|((with_reducible refine gate_callee (f:=24) rfl ?_);refine goesL_ (some 84) rfl rfl Try.func24 (by kernel_rfl) rfl #[.slice Ao92 t277.length co92,.int .i64 t296] rfl (by (try simp only [List.map_toArray,List.map_cons,List.map_nil]);first|done|rfl|(simp only [List.length_drop,List.length_take];rfl)) ?_;(with_reducible refine (laws_markIntS.calls kj46 (fun k_=>some k_ = (.slice Ao92 t277.length co92 : Value).ownBlock) (.slice Ao92 t277.length co92) t277 t296 t298 t299 w _ ?side1 ?side2 A73.out).mono ?_);(case side1=>repeat (first|(with_reducible first|exact HB.out|apply below_alloc|apply pw_below_drewN|apply below_drew1|refine below_set ?_ GE250.out|refine below_set ?_ GE273.out)|exact HB.out));(case side2=>exact R_tight rfl HO_9.out);rintro e w93 ⟨rfl,hy0,hb,hkp⟩;refine ⟨_,rfl,?_⟩;have n0_:=Aside0.mk (R_mono (ok':=fun k_=>some k_ ≠ (v263 : Value).ownBlock ∧ some k_ ≠ (.slice Ao90 t274.length co90 : Value).ownBlock ∧ some k_ ≠ (.slice Ao92 t277.length co92 : Value).ownBlock ∧ some k_ ≠ (.slice Ao25 t292.length co25 : Value).ownBlock ∧ some k_ ≠ (.slice Ao26 t293.length co26 : Value).ownBlock) (R_keptB (HO_4.out) hkp (fun k_ hk_ hs_=>(hk_.2.2.1) hs_)) (fun k_ hk_=>⟨hk_.1.1,hk_.1.2.1,hk_.1.2.2.1,hk_.1.2.2.2.1,hk_.1.2.2.2.2⟩));have n1_:=Aside0.mk (R_mono (ok':=fun k_=>some k_ ≠ (v260 : Value).ownBlock ∧ some k_ ≠ (.slice Ao90 t274.length co90 : Value).ownBlock ∧ some k_ ≠ (.slice Ao92 t277.length co92 : Value).ownBlock ∧ some k_ ≠ (.slice Ao25 t292.length co25 : Value).ownBlock ∧ some k_ ≠ (.slice Ao26 t293.length co26 : Value).ownBlock) (R_keptB (HO_5.out) hkp (fun k_ hk_ hs_=>(hk_.2.2.1) hs_)) (fun k_ hk_=>⟨hk_.1.1,hk_.1.2.1,hk_.1.2.2.1,hk_.1.2.2.2.1,hk_.1.2.2.2.2⟩));have n2_:=Aside0.mk (R_mono (ok':=fun k_=>some k_ ≠ (v260 : Value).ownBlock ∧ some k_ ≠ (v263 : Value).ownBlock ∧ some k_ ≠ (.slice Ao92 t277.length co92 : Value).ownBlock ∧ some k_ ≠ (.slice Ao25 t292.length co25 : Value).ownBlock ∧ some k_ ≠ (.slice Ao26 t293.length co26 : Value).ownBlock) (R_keptB (HO_8.out) hkp (fun k_ hk_ hs_=>(hk_.2.2.1) hs_)) (fun k_ hk_=>⟨hk_.1.1,hk_.1.2.1,hk_.1.2.2.1,hk_.1.2.2.2.1,hk_.1.2.2.2.2⟩));have n3_:=Aside0.mk (R_reok rfl hy0 (fun k_ e_=>HO_9.out.1 k_ e_));have n4_:=Aside0.mk (R_mono (ok':=fun k_=>some k_ ≠ (v260 : Value).ownBlock ∧ some k_ ≠ (v263 : Value).ownBlock ∧ some k_ ≠ (.slice Ao90 t274.length co90 : Value).ownBlock ∧ some k_ ≠ (.slice Ao92 t277.length co92 : Value).ownBlock ∧ some k_ ≠ (.slice Ao26 t293.length co26 : Value).ownBlock) (R_keptB (HO_274001.out) hkp (fun k_ hk_ hs_=>(hk_.2.2.2.1) hs_)) (fun k_ hk_=>⟨hk_.1.1,hk_.1.2.1,hk_.1.2.2.1,hk_.1.2.2.2.1,hk_.1.2.2.2.2⟩));have n5_:=Aside0.mk (R_mono (ok':=fun k_=>some k_ ≠ (v260 : Value).ownBlock ∧ some k_ ≠ (v263 : Value).ownBlock ∧ some k_ ≠ (.slice Ao90 t274.length co90 : Value).ownBlock ∧ some k_ ≠ (.slice Ao92 t277.length co92 : Value).ownBlock ∧ some k_ ≠ (.slice Ao25 t292.length co25 : Value).ownBlock) (R_keptB (HO_274002.out) hkp (fun k_ hk_ hs_=>(hk_.2.2.2.1) hs_)) (fun k_ hk_=>⟨hk_.1.1,hk_.1.2.1,hk_.1.2.2.1,hk_.1.2.2.2.1,hk_.1.2.2.2.2⟩));have n6_:=Aside0.mk (blk_kept (by (with_reducible repeat (first|apply blk_drewN|apply blk_drew|apply blk_alloc));exact BK250.out) hkp (fun hs_=>(fun e_=>(R_ne HO_9.out BK250.out (by decide)) e_) hs_));have n7_:=Aside0.mk (blk_kept (by (with_reducible repeat (first|apply blk_drewN|apply blk_drew|apply blk_alloc));exact BK273.out) hkp (fun hs_=>(fun e_=>(R_ne HO_9.out BK273.out (by decide)) e_) hs_));have n8_:=Aside0.mk (hb);clear HO_4;clear HO_5;clear HO_8;clear HO_9;clear HO_274001;clear HO_274002;clear BK250;clear BK273;clear HB;have HO_4:=n0_;have HO_5:=n1_;have HO_8:=n2_;have HO_9:=n3_;have HO_274001:=n4_;have HO_274002:=n5_;have BK250:=n6_;have BK273:=n7_;have HB:=n8_;clear n0_ n1_ n2_ n3_ n4_ n5_ n6_ n7_ n8_;(try clear hb);(try clear hkp);(try clear hy0))|((with_reducible refine gate_callee (f:=25) rfl ?_);refine goesL_ (some 87) rfl rfl Try.func25 (by kernel_rfl) rfl #[.slice Ao90 t297.length co90,.int .i64 1] rfl (by (try simp only [List.map_toArray,List.map_cons,List.map_nil]);first|done|(rw [show t297.length = t274.length from (R_reads' HO_8.out).1.symm] <;> rfl)|rfl|(simp only [List.length_drop,List.length_take];rfl)) ?_;(with_reducible refine (laws_heldIntS.calls kj46 _ _ t297 1 t300 _ ?side1 ?side2 A74.out).mono ?_);(case side1=>repeat (first|exact (R_reads' HO_8.out).2.2|(with_reducible refine C_alloc ?_ _)|(with_reducible refine C_drewN ?_ _)|(with_reducible refine C_drew ?_)));(case side2=>rw [show t297.length = t274.length from (R_reads' HO_8.out).1.symm];exact (R_reads' HO_8.out).2.1);rintro e w' ⟨rfl,⟨nd,rfl⟩⟩;refine ⟨_,rfl,?_⟩)|((with_reducible refine gate_callee (f:=25) rfl ?_);refine goesL_ (some 92) rfl rfl Try.func25 (by kernel_rfl) rfl #[.slice Ao92 t299.length co92,.int .i64 t300] rfl (by (try simp only [List.map_toArray,List.map_cons,List.map_nil]);first|done|(rw [show t299.length = t277.length from (R_reads' HO_9.out).1.symm] <;> rfl)|rfl|(simp only [List.length_drop,List.length_take];rfl)) ?_;(with_reducible refine (laws_heldIntS.calls kj46 _ _ t299 t300 t301 _ ?side1 ?side2 A80.out).mono ?_);(case side1=>repeat (first|exact (R_reads' HO_9.out).2.2|(with_reducible refine C_alloc ?_ _)|(with_reducible refine C_drewN ?_ _)|(with_reducible refine C_drew ?_)));(case side2=>rw [show t299.length = t277.length from (R_reads' HO_9.out).1.symm];exact (R_reads' HO_9.out).2.1);rintro e w' ⟨rfl,⟨nd,rfl⟩⟩;refine ⟨_,rfl,?_⟩;have hnb94:=NB250_273.out;have hnc94:=NB273_250.out;have hcz95_0 : w93.cell? ⟨gb250,0,none⟩ = some (.int .i64 a0_0):=(blk_cell BK250.out 0).trans rfl;have hcz95_1 : w93.cell? ⟨gb250,1,none⟩ = some (.slice A0_1 l0_1.length c0_1):=(blk_cell BK250.out 1).trans rfl;have hcz95_2 : w93.cell? ⟨gb250,2,none⟩ = some (.slice A0_2 l0_2.length c0_2):=(blk_cell BK250.out 2).trans rfl;have hfz95_0:=blk_frozen BK250.out 0;have hfz95_1:=blk_frozen BK250.out 1;have hfz95_2:=blk_frozen BK250.out 2)|((with_reducible refine gate_callee (f:=13) rfl ?_);refine goesL_ (some 100) rfl rfl Try.func13 (by kernel_rfl) rfl #[.agg #[.int .i64 a0_0,.slice A0_1 l0_1.length c0_1,.slice A0_2 l0_2.length c0_2]] rfl (by (try simp only [List.map_toArray,List.map_cons,List.map_nil]);first|done|rfl|(simp only [List.length_drop,List.length_take];rfl)) ?_;(with_reducible refine (laws_toWire.calls kj46 a0_0 _ _ l0_1 _ _ l0_2 t302 t303 t306 _ ?side1 ?side2 ?side3 ?side4 A87.out).mono ?_);(case side1=>repeat (first|exact (C_below HR0_1.out (by repeat (first|(with_reducible first|exact HB.out|apply below_alloc|apply pw_below_drewN|apply below_drew1|refine below_set ?_ GE250.out|refine below_set ?_ GE273.out)|exact HB.out)))|(with_reducible refine C_alloc ?_ _)|(with_reducible refine C_drewN ?_ _)|(with_reducible refine C_drew ?_)));(case side2=>exact HC0_1.out);(case side3=>repeat (first|exact (C_below HR0_2.out (by repeat (first|(with_reducible first|exact HB.out|apply below_alloc|apply pw_below_drewN|apply below_drew1|refine below_set ?_ GE250.out|refine below_set ?_ GE273.out)|exact HB.out)))|(with_reducible refine C_alloc ?_ _)|(with_reducible refine C_drewN ?_ _)|(with_reducible refine C_drew ?_)));(case side4=>exact HC0_2.out);rintro e w96 ⟨v304,v307,rfl,ho0,ho1,hb⟩;refine ⟨_,rfl,?_⟩;have n0_:=Aside0.mk (R_mono (R_told (R_told (R_old (by (with_reducible repeat (first|apply R_alloc|apply R_drewN|apply R_drew));exact HO_4.out) hb) (R_base ho0)) (R_base ho1)) (fun _ h_=>h_.1));have n1_:=Aside0.mk (R_mono (R_told (R_told (R_old (by (with_reducible repeat (first|apply R_alloc|apply R_drewN|apply R_drew));exact HO_5.out) hb) (R_base ho0)) (R_base ho1)) (fun _ h_=>h_.1));have n2_:=Aside0.mk (R_mono (R_told (R_told (R_old (by (with_reducible repeat (first|apply R_alloc|apply R_drewN|apply R_drew));exact HO_8.out) hb) (R_base ho0)) (R_base ho1)) (fun _ h_=>h_.1));have n3_:=Aside0.mk (R_mono (R_told (R_told (R_old (by (with_reducible repeat (first|apply R_alloc|apply R_drewN|apply R_drew));exact HO_9.out) hb) (R_base ho0)) (R_base ho1)) (fun _ h_=>h_.1));have n4_:=Aside0.mk (R_mono (R_told (R_told (R_old (by (with_reducible repeat (first|apply R_alloc|apply R_drewN|apply R_drew));exact HO_274001.out) hb) (R_base ho0)) (R_base ho1)) (fun _ h_=>h_.1));have n5_:=Aside0.mk (R_mono (R_told (R_told (R_old (by (with_reducible repeat (first|apply R_alloc|apply R_drewN|apply R_drew));exact HO_274002.out) hb) (R_base ho0)) (R_base ho1)) (fun _ h_=>h_.1));have n6_:=Aside0.mk (R_lower (R_new' (R_new' (R_new' (R_new' (R_new' (R_new' ho0 (R_lt (by (with_reducible repeat (first|apply R_alloc|apply R_drewN|apply R_drew));exact HO_4.out))) (R_lt (by (with_reducible repeat (first|apply R_alloc|apply R_drewN|apply R_drew));exact HO_5.out))) (R_lt (by (with_reducible repeat (first|apply R_alloc|apply R_drewN|apply R_drew));exact HO_8.out))) (R_lt (by (with_reducible repeat (first|apply R_alloc|apply R_drewN|apply R_drew));exact HO_9.out))) (R_lt (by (with_reducible repeat (first|apply R_alloc|apply R_drewN|apply R_drew));exact HO_274001.out))) (R_lt (by (with_reducible repeat (first|apply R_alloc|apply R_drewN|apply R_drew));exact HO_274002.out))) (below_size (by repeat (first|(with_reducible first|exact HB.out|apply below_alloc|apply pw_below_drewN|apply below_drew1|refine below_set ?_ GE250.out|refine below_set ?_ GE273.out)|exact HB.out))));have n7_:=Aside0.mk (R_lower (R_new' (R_new' (R_new' (R_new' (R_new' (R_new' ho1 (R_lt (by (with_reducible repeat (first|apply R_alloc|apply R_drewN|apply R_drew));exact HO_4.out))) (R_lt (by (with_reducible repeat (first|apply R_alloc|apply R_drewN|apply R_drew));exact HO_5.out))) (R_lt (by (with_reducible repeat (first|apply R_alloc|apply R_drewN|apply R_drew));exact HO_8.out))) (R_lt (by (with_reducible repeat (first|apply R_alloc|apply R_drewN|apply R_drew));exact HO_9.out))) (R_lt (by (with_reducible repeat (first|apply R_alloc|apply R_drewN|apply R_drew));exact HO_274001.out))) (R_lt (by (with_reducible repeat (first|apply R_alloc|apply R_drewN|apply R_drew));exact HO_274002.out))) (below_size (by repeat (first|(with_reducible first|exact HB.out|apply below_alloc|apply pw_below_drewN|apply below_drew1|refine below_set ?_ GE250.out|refine below_set ?_ GE273.out)|exact HB.out))));have n8_:=Aside0.mk (blk_below (g:=gb250) (o:=.cells #[.int .i64 a0_0,.slice A0_1 l0_1.length c0_1,.slice A0_2 l0_2.length c0_2] 24 (0,0)) (by (with_reducible repeat (first|apply blk_drewN|apply blk_drew|apply blk_alloc));exact BK250.out) hb);have n9_:=Aside0.mk (blk_below (g:=gb273) (o:=.cells #[.int .i64 t266,.slice Ao25 t292.length co25,.slice Ao26 t293.length co26] 27 (0,0)) (by (with_reducible repeat (first|apply blk_drewN|apply blk_drew|apply blk_alloc));exact BK273.out) hb);have n10_:=Aside0.mk (below_step (by repeat (first|(with_reducible first|exact HB.out|apply below_alloc|apply pw_below_drewN|apply below_drew1|refine below_set ?_ GE250.out|refine below_set ?_ GE273.out)|exact HB.out)) hb);clear HO_4;clear HO_5;clear HO_8;clear HO_9;clear HO_274001;clear HO_274002;clear BK250;clear BK273;clear HB;have HO_4:=n0_;have HO_5:=n1_;have HO_8:=n2_;have HO_9:=n3_;have HO_274001:=n4_;have HO_274002:=n5_;have HO305:=n6_;have HO308:=n7_;have BK250:=n8_;have BK273:=n9_;have HB:=n10_;clear n0_ n1_ n2_ n3_ n4_ n5_ n6_ n7_ n8_ n9_ n10_;(try clear hb);(try clear hb2);(try clear hk);(try clear hi);(try clear ho0);(try clear ho1);obtain ⟨Ao97,co97,eo97⟩:=R_slice HO305.out;subst eo97;obtain ⟨Ao98,co98,eo98⟩:=R_slice HO308.out;subst eo98)|((with_reducible refine gate_callee (f:=30) rfl ?_);refine goesL_ (some 101) rfl rfl Try.func30 (by kernel_rfl) rfl #[.agg #[.int .i64 t302,.slice Ao97 t303.length co97,.slice Ao98 t306.length co98]] rfl (by (try simp only [List.map_toArray,List.map_cons,List.map_nil]);first|done|rfl|(simp only [List.length_drop,List.length_take];rfl)) ?_;(with_reducible refine (impl_FallsOf.calls kj46 t302 _ _ t303 _ _ t306 t309 t312 t315 _ ?side1 ?side2 ?side3 ?side4 A88.out).mono ?_);(case side1=>repeat (first|exact (R_reads' HO305.out).2.2|(with_reducible refine C_alloc ?_ _)|(with_reducible refine C_drewN ?_ _)|(with_reducible refine C_drew ?_)));(case side2=>exact (R_reads' HO305.out).2.1);(case side3=>repeat (first|exact (R_reads' HO308.out).2.2|(with_reducible refine C_alloc ?_ _)|(with_reducible refine C_drewN ?_ _)|(with_reducible refine C_drew ?_)));(case side4=>exact (R_reads' HO308.out).2.1);rintro e w99 ⟨v310,v313,rfl,ho0,ho1,hb⟩;refine ⟨_,rfl,?_⟩;have n0_:=Aside0.mk (R_mono (R_told (R_told (R_old (by (with_reducible repeat (first|apply R_alloc|apply R_drewN|apply R_drew));exact HO_4.out) hb) (R_base ho0)) (R_base ho1)) (fun _ h_=>h_.1));have n1_:=Aside0.mk (R_mono (R_told (R_told (R_old (by (with_reducible repeat (first|apply R_alloc|apply R_drewN|apply R_drew));exact HO_5.out) hb) (R_base ho0)) (R_base ho1)) (fun _ h_=>h_.1));have n2_:=Aside0.mk (R_mono (R_told (R_told (R_old (by (with_reducible repeat (first|apply R_alloc|apply R_drewN|apply R_drew));exact HO_8.out) hb) (R_base ho0)) (R_base ho1)) (fun _ h_=>h_.1));have n3_:=Aside0.mk (R_mono (R_told (R_told (R_old (by (with_reducible repeat (first|apply R_alloc|apply R_drewN|apply R_drew));exact HO_9.out) hb) (R_base ho0)) (R_base ho1)) (fun _ h_=>h_.1));have n4_:=Aside0.mk (R_mono (R_told (R_told (R_old (by (with_reducible repeat (first|apply R_alloc|apply R_drewN|apply R_drew));exact HO_274001.out) hb) (R_base ho0)) (R_base ho1)) (fun _ h_=>h_.1));have n5_:=Aside0.mk (R_mono (R_told (R_told (R_old (by (with_reducible repeat (first|apply R_alloc|apply R_drewN|apply R_drew));exact HO_274002.out) hb) (R_base ho0)) (R_base ho1)) (fun _ h_=>h_.1));have n6_:=Aside0.mk (R_mono (R_told (R_told (R_old (by (with_reducible repeat (first|apply R_alloc|apply R_drewN|apply R_drew));exact HO305.out) hb) (R_base ho0)) (R_base ho1)) (fun _ h_=>h_.1));have n7_:=Aside0.mk (R_mono (R_told (R_told (R_old (by (with_reducible repeat (first|apply R_alloc|apply R_drewN|apply R_drew));exact HO308.out) hb) (R_base ho0)) (R_base ho1)) (fun _ h_=>h_.1));have n8_:=Aside0.mk (R_lower (R_new' (R_new' (R_new' (R_new' (R_new' (R_new' (R_new' (R_new' ho0 (R_lt (by (with_reducible repeat (first|apply R_alloc|apply R_drewN|apply R_drew));exact HO_4.out))) (R_lt (by (with_reducible repeat (first|apply R_alloc|apply R_drewN|apply R_drew));exact HO_5.out))) (R_lt (by (with_reducible repeat (first|apply R_alloc|apply R_drewN|apply R_drew));exact HO_8.out))) (R_lt (by (with_reducible repeat (first|apply R_alloc|apply R_drewN|apply R_drew));exact HO_9.out))) (R_lt (by (with_reducible repeat (first|apply R_alloc|apply R_drewN|apply R_drew));exact HO_274001.out))) (R_lt (by (with_reducible repeat (first|apply R_alloc|apply R_drewN|apply R_drew));exact HO_274002.out))) (R_lt (by (with_reducible repeat (first|apply R_alloc|apply R_drewN|apply R_drew));exact HO305.out))) (R_lt (by (with_reducible repeat (first|apply R_alloc|apply R_drewN|apply R_drew));exact HO308.out))) (below_size (by repeat (first|(with_reducible first|exact HB.out|apply below_alloc|apply pw_below_drewN|apply below_drew1|refine below_set ?_ GE250.out|refine below_set ?_ GE273.out)|exact HB.out))));have n9_:=Aside0.mk (R_lower (R_new' (R_new' (R_new' (R_new' (R_new' (R_new' (R_new' (R_new' ho1 (R_lt (by (with_reducible repeat (first|apply R_alloc|apply R_drewN|apply R_drew));exact HO_4.out))) (R_lt (by (with_reducible repeat (first|apply R_alloc|apply R_drewN|apply R_drew));exact HO_5.out))) (R_lt (by (with_reducible repeat (first|apply R_alloc|apply R_drewN|apply R_drew));exact HO_8.out))) (R_lt (by (with_reducible repeat (first|apply R_alloc|apply R_drewN|apply R_drew));exact HO_9.out))) (R_lt (by (with_reducible repeat (first|apply R_alloc|apply R_drewN|apply R_drew));exact HO_274001.out))) (R_lt (by (with_reducible repeat (first|apply R_alloc|apply R_drewN|apply R_drew));exact HO_274002.out))) (R_lt (by (with_reducible repeat (first|apply R_alloc|apply R_drewN|apply R_drew));exact HO305.out))) (R_lt (by (with_reducible repeat (first|apply R_alloc|apply R_drewN|apply R_drew));exact HO308.out))) (below_size (by repeat (first|(with_reducible first|exact HB.out|apply below_alloc|apply pw_below_drewN|apply below_drew1|refine below_set ?_ GE250.out|refine below_set ?_ GE273.out)|exact HB.out))));have n10_:=Aside0.mk (blk_below (g:=gb250) (o:=.cells #[.int .i64 a0_0,.slice A0_1 l0_1.length c0_1,.slice A0_2 l0_2.length c0_2] 24 (0,0)) (by (with_reducible repeat (first|apply blk_drewN|apply blk_drew|apply blk_alloc));exact BK250.out) hb);have n11_:=Aside0.mk (blk_below (g:=gb273) (o:=.cells #[.int .i64 t266,.slice Ao25 t292.length co25,.slice Ao26 t293.length co26] 27 (0,0)) (by (with_reducible repeat (first|apply blk_drewN|apply blk_drew|apply blk_alloc));exact BK273.out) hb);have n12_:=Aside0.mk (below_step (by repeat (first|(with_reducible first|exact HB.out|apply below_alloc|apply pw_below_drewN|apply below_drew1|refine below_set ?_ GE250.out|refine below_set ?_ GE273.out)|exact HB.out)) hb);clear HO_4;clear HO_5;clear HO_8;clear HO_9;clear HO_274001;clear HO_274002;clear HO305;clear HO308;clear BK250;clear BK273;clear HB;have HO_4:=n0_;have HO_5:=n1_;have HO_8:=n2_;have HO_9:=n3_;have HO_274001:=n4_;have HO_274002:=n5_;have HO305:=n6_;have HO308:=n7_;have HO311:=n8_;have HO314:=n9_;have BK250:=n10_;have BK273:=n11_;have HB:=n12_;clear n0_ n1_ n2_ n3_ n4_ n5_ n6_ n7_ n8_ n9_ n10_ n11_ n12_;(try clear hb);(try clear hb2);(try clear hk);(try clear hi);(try clear ho0);(try clear ho1)))
   (try simp only [Act.put,List.setIfInBounds_toArray,List.set_cons_zero,List.set_cons_succ])
   go_cut [119] (fun v119 wc=>∃ (kq : Nat) (x119_88 : Bool),v119 = .bool x119_88 ∧ Aside0 (laws_FnExactFallsOf.j2 kq t297 t299 t298 x119_88 = some r) ∧ Aside0 (kq ≤ kj46) ∧ Aside0 (Kd.R (Kd.int .i64) 3 wc w.heap.size (fun k_=>some k_ ≠ ((.slice Ao92 t277.length co92) : Value).ownBlock ∧ some k_ ≠ ((.slice Ao25 t292.length co25) : Value).ownBlock ∧ some k_ ≠ ((.slice Ao26 t293.length co26) : Value).ownBlock) (.slice Ao90 t274.length co90) t297) ∧ Aside0 (Kd.R (Kd.int .i64) 3 wc w.heap.size (fun k_=>some k_ ≠ ((.slice Ao90 t274.length co90) : Value).ownBlock ∧ some k_ ≠ ((.slice Ao25 t292.length co25) : Value).ownBlock ∧ some k_ ≠ ((.slice Ao26 t293.length co26) : Value).ownBlock) (.slice Ao92 t277.length co92) t299) ∧ Aside0 (Kd.R (Kd.int .i64) 3 wc w.heap.size (fun k_=>some k_ ≠ ((.slice Ao90 t274.length co90) : Value).ownBlock ∧ some k_ ≠ ((.slice Ao92 t277.length co92) : Value).ownBlock ∧ some k_ ≠ ((.slice Ao26 t293.length co26) : Value).ownBlock) (.slice Ao25 t292.length co25) t292) ∧ Aside0 (Kd.R (Kd.int .i64) 3 wc w.heap.size (fun k_=>some k_ ≠ ((.slice Ao90 t274.length co90) : Value).ownBlock ∧ some k_ ≠ ((.slice Ao92 t277.length co92) : Value).ownBlock ∧ some k_ ≠ ((.slice Ao25 t292.length co25) : Value).ownBlock) (.slice Ao26 t293.length co26) t293) ∧ Aside0 (wc.heap[gb250]? = some (.cells #[.int .i64 a0_0,(.slice A0_1 l0_1.length c0_1),(.slice A0_2 l0_2.length c0_2)] 24 (0,0))) ∧ Aside0 (wc.heap[gb273]? = some (.cells #[.int .i64 t266,(.slice Ao25 t292.length co25),(.slice Ao26 t293.length co26)] 27 (0,0))) ∧ Aside0 (Below w.heap.size w wc))
   case first =>
    have H:=HC89.out
    clear HC89
    replace H:=Option.bind_eq_some_iff.mp H
    obtain ⟨t316,A1000,H⟩:=H
    replace H : (if t316 = true then ((laws_eqIntS.f kj46 t312 t262).bind fun t317=>(if t317 = true then (laws_FnExactFallsOf.j2 kj46 t297 t299 t298 (t315 != t265)) else (laws_FnExactFallsOf.j2 kj46 t297 t299 t298 true))) else (laws_FnExactFallsOf.j2 kj46 t297 t299 t298 true)) = some r:=H
    have A100:=Aside0.mk A1000
    clear A1000
    by_cases c101 : t316 = true
    rotate_left
    ·replace c101:=Bool.eq_false_iff.mpr c101
     subst c101
     have H1 : (laws_FnExactFallsOf.j2 kj46 t297 t299 t298 true) = some r:=by rw [if_neg (show ¬ (false = true) by decide)] at H;exact H
     clear H
     have H:=H1
     clear H1
     have H':=Aside0.mk H
     clear H
     obtain ⟨Ao112,co112,eo112⟩:=R_slice HO311.out
     subst eo112
     obtain ⟨Ao113,co113,eo113⟩:=R_slice HO_4.out
     subst eo113
     go_wp2_with (first|((with_reducible refine gate_callee (f:=22) rfl ?_);refine goesL_ (some 107) rfl rfl Try.func22 (by kernel_rfl) rfl #[.slice Ao112 t309.length co112,.slice Ao113 t259.length co113] rfl (by (try simp only [List.map_toArray,List.map_cons,List.map_nil]);first|done|rfl|(simp only [List.length_drop,List.length_take];rfl)) ?_;(with_reducible refine (laws_eqIntS.calls kj46 _ _ t309 _ _ t259 false _ ?side1 ?side2 ?side3 ?side4 A100.out).mono ?_);(case side1=>repeat (first|exact (R_reads' HO311.out).2.2|(with_reducible refine C_alloc ?_ _)|(with_reducible refine C_drewN ?_ _)|(with_reducible refine C_drew ?_)));(case side2=>exact (R_reads' HO311.out).2.1);(case side3=>repeat (first|exact (R_reads' HO_4.out).2.2|(with_reducible refine C_alloc ?_ _)|(with_reducible refine C_drewN ?_ _)|(with_reducible refine C_drew ?_)));(case side4=>exact (R_reads' HO_4.out).2.1);rintro e w' ⟨rfl,⟨nd,rfl⟩⟩;refine ⟨_,rfl,?_⟩))
     go_meet
     case rel=>exact ⟨_,(true),(by first|rfl|(simp;done)|(simp [*];done)),H',⟨by have:=HJ10.out;have:=HJ46.out;first|omega|exact Nat.le_refl _⟩,⟨by (try simp only [hl274001_46]);(try simp only [hl274002_46]);(with_reducible repeat (first|apply R_alloc|apply R_drewN|apply R_drew));exact R_mono HO_8.out (fun _ hk=>⟨hk.1.1.1.1.2.2.1,⟨hk.1.1.1.1.2.2.2.1,hk.1.1.1.1.2.2.2.2⟩⟩)⟩,⟨by (try simp only [hl274001_46]);(try simp only [hl274002_46]);(with_reducible repeat (first|apply R_alloc|apply R_drewN|apply R_drew));exact R_mono HO_9.out (fun _ hk=>⟨hk.1.1.1.1.2.2.1,⟨hk.1.1.1.1.2.2.2.1,hk.1.1.1.1.2.2.2.2⟩⟩)⟩,⟨by (try simp only [hl274001_46]);(try simp only [hl274002_46]);(with_reducible repeat (first|apply R_alloc|apply R_drewN|apply R_drew));exact R_mono HO_274001.out (fun _ hk=>⟨hk.1.1.1.1.2.2.1,⟨hk.1.1.1.1.2.2.2.1,hk.1.1.1.1.2.2.2.2⟩⟩)⟩,⟨by (try simp only [hl274001_46]);(try simp only [hl274002_46]);(with_reducible repeat (first|apply R_alloc|apply R_drewN|apply R_drew));exact R_mono HO_274002.out (fun _ hk=>⟨hk.1.1.1.1.2.2.1,⟨hk.1.1.1.1.2.2.2.1,hk.1.1.1.1.2.2.2.2⟩⟩)⟩,⟨by (try simp only [hl274001_46]);(try simp only [hl274002_46]);(with_reducible repeat (first|apply blk_drewN|apply blk_drew|apply blk_alloc));exact BK250.out⟩,⟨by (try simp only [hl274001_46]);(try simp only [hl274002_46]);(with_reducible repeat (first|apply blk_drewN|apply blk_drew|apply blk_alloc));exact BK273.out⟩,⟨by repeat (first|(with_reducible first|exact HB.out|apply below_alloc|apply pw_below_drewN|apply below_drew1|refine below_set ?_ GE250.out|refine below_set ?_ GE273.out)|exact HB.out)⟩⟩
    subst c101
    have H1 : ((laws_eqIntS.f kj46 t312 t262).bind fun t317=>(if t317 = true then (laws_FnExactFallsOf.j2 kj46 t297 t299 t298 (t315 != t265)) else (laws_FnExactFallsOf.j2 kj46 t297 t299 t298 true))) = some r:=by rw [if_pos rfl] at H;exact H
    clear H
    have H:=H1
    clear H1
    replace H:=Option.bind_eq_some_iff.mp H
    obtain ⟨t317,A1020,H⟩:=H
    replace H : (if t317 = true then (laws_FnExactFallsOf.j2 kj46 t297 t299 t298 (t315 != t265)) else (laws_FnExactFallsOf.j2 kj46 t297 t299 t298 true)) = some r:=H
    have A102:=Aside0.mk A1020
    clear A1020
    by_cases c103 : t317 = true
    ·subst c103
     have H1 : (laws_FnExactFallsOf.j2 kj46 t297 t299 t298 (t315 != t265)) = some r:=by rw [if_pos rfl] at H;exact H
     clear H
     have H:=H1
     clear H1
     have H':=Aside0.mk H
     clear H
     obtain ⟨Ao104,co104,eo104⟩:=R_slice HO311.out
     subst eo104
     obtain ⟨Ao105,co105,eo105⟩:=R_slice HO_4.out
     subst eo105
     go_wp2_with (first|((with_reducible refine gate_callee (f:=22) rfl ?_);refine goesL_ (some 107) rfl rfl Try.func22 (by kernel_rfl) rfl #[.slice Ao104 t309.length co104,.slice Ao105 t259.length co105] rfl (by (try simp only [List.map_toArray,List.map_cons,List.map_nil]);first|done|rfl|(simp only [List.length_drop,List.length_take];rfl)) ?_;(with_reducible refine (laws_eqIntS.calls kj46 _ _ t309 _ _ t259 true _ ?side1 ?side2 ?side3 ?side4 A100.out).mono ?_);(case side1=>repeat (first|exact (R_reads' HO311.out).2.2|(with_reducible refine C_alloc ?_ _)|(with_reducible refine C_drewN ?_ _)|(with_reducible refine C_drew ?_)));(case side2=>exact (R_reads' HO311.out).2.1);(case side3=>repeat (first|exact (R_reads' HO_4.out).2.2|(with_reducible refine C_alloc ?_ _)|(with_reducible refine C_drewN ?_ _)|(with_reducible refine C_drew ?_)));(case side4=>exact (R_reads' HO_4.out).2.1);rintro e w' ⟨rfl,⟨nd,rfl⟩⟩;refine ⟨_,rfl,?_⟩;obtain ⟨Ao106,co106,eo106⟩:=R_slice HO314.out;subst eo106;obtain ⟨Ao107,co107,eo107⟩:=R_slice HO_5.out;subst eo107)|(go_at_call 22;(with_reducible refine (laws_eqIntS.calls kj46 _ _ t312 _ _ t262 true _ ?side1 ?side2 ?side3 ?side4 A102.out).mono ?_);(case side1=>repeat (first|exact (R_reads' HO314.out).2.2|(with_reducible refine C_alloc ?_ _)|(with_reducible refine C_drewN ?_ _)|(with_reducible refine C_drew ?_)));(case side2=>exact (R_reads' HO314.out).2.1);(case side3=>repeat (first|exact (R_reads' HO_5.out).2.2|(with_reducible refine C_alloc ?_ _)|(with_reducible refine C_drewN ?_ _)|(with_reducible refine C_drew ?_)));(case side4=>exact (R_reads' HO_5.out).2.1);rintro e w' ⟨rfl,⟨nd,rfl⟩⟩))
     go_meet
     case rel=>exact ⟨_,((t315 != t265)),(by first|rfl|(simp;done)|(simp [*];done)),H',⟨by have:=HJ10.out;have:=HJ46.out;first|omega|exact Nat.le_refl _⟩,⟨by (try simp only [hl274001_46]);(try simp only [hl274002_46]);(with_reducible repeat (first|apply R_alloc|apply R_drewN|apply R_drew));exact R_mono HO_8.out (fun _ hk=>⟨hk.1.1.1.1.2.2.1,⟨hk.1.1.1.1.2.2.2.1,hk.1.1.1.1.2.2.2.2⟩⟩)⟩,⟨by (try simp only [hl274001_46]);(try simp only [hl274002_46]);(with_reducible repeat (first|apply R_alloc|apply R_drewN|apply R_drew));exact R_mono HO_9.out (fun _ hk=>⟨hk.1.1.1.1.2.2.1,⟨hk.1.1.1.1.2.2.2.1,hk.1.1.1.1.2.2.2.2⟩⟩)⟩,⟨by (try simp only [hl274001_46]);(try simp only [hl274002_46]);(with_reducible repeat (first|apply R_alloc|apply R_drewN|apply R_drew));exact R_mono HO_274001.out (fun _ hk=>⟨hk.1.1.1.1.2.2.1,⟨hk.1.1.1.1.2.2.2.1,hk.1.1.1.1.2.2.2.2⟩⟩)⟩,⟨by (try simp only [hl274001_46]);(try simp only [hl274002_46]);(with_reducible repeat (first|apply R_alloc|apply R_drewN|apply R_drew));exact R_mono HO_274002.out (fun _ hk=>⟨hk.1.1.1.1.2.2.1,⟨hk.1.1.1.1.2.2.2.1,hk.1.1.1.1.2.2.2.2⟩⟩)⟩,⟨by (try simp only [hl274001_46]);(try simp only [hl274002_46]);(with_reducible repeat (first|apply blk_drewN|apply blk_drew|apply blk_alloc));exact BK250.out⟩,⟨by (try simp only [hl274001_46]);(try simp only [hl274002_46]);(with_reducible repeat (first|apply blk_drewN|apply blk_drew|apply blk_alloc));exact BK273.out⟩,⟨by repeat (first|(with_reducible first|exact HB.out|apply below_alloc|apply pw_below_drewN|apply below_drew1|refine below_set ?_ GE250.out|refine below_set ?_ GE273.out)|exact HB.out)⟩⟩
    replace c103:=Bool.eq_false_iff.mpr c103
    subst c103
    have H1 : (laws_FnExactFallsOf.j2 kj46 t297 t299 t298 true) = some r:=by rw [if_neg (show ¬ (false = true) by decide)] at H;exact H
    clear H
    have H:=H1
    clear H1
    have H':=Aside0.mk H
    clear H
    obtain ⟨Ao108,co108,eo108⟩:=R_slice HO311.out
    subst eo108
    obtain ⟨Ao109,co109,eo109⟩:=R_slice HO_4.out
    subst eo109
    go_wp2_with (first|((with_reducible refine gate_callee (f:=22) rfl ?_);refine goesL_ (some 107) rfl rfl Try.func22 (by kernel_rfl) rfl #[.slice Ao108 t309.length co108,.slice Ao109 t259.length co109] rfl (by (try simp only [List.map_toArray,List.map_cons,List.map_nil]);first|done|rfl|(simp only [List.length_drop,List.length_take];rfl)) ?_;(with_reducible refine (laws_eqIntS.calls kj46 _ _ t309 _ _ t259 true _ ?side1 ?side2 ?side3 ?side4 A100.out).mono ?_);(case side1=>repeat (first|exact (R_reads' HO311.out).2.2|(with_reducible refine C_alloc ?_ _)|(with_reducible refine C_drewN ?_ _)|(with_reducible refine C_drew ?_)));(case side2=>exact (R_reads' HO311.out).2.1);(case side3=>repeat (first|exact (R_reads' HO_4.out).2.2|(with_reducible refine C_alloc ?_ _)|(with_reducible refine C_drewN ?_ _)|(with_reducible refine C_drew ?_)));(case side4=>exact (R_reads' HO_4.out).2.1);rintro e w' ⟨rfl,⟨nd,rfl⟩⟩;refine ⟨_,rfl,?_⟩;obtain ⟨Ao110,co110,eo110⟩:=R_slice HO314.out;subst eo110;obtain ⟨Ao111,co111,eo111⟩:=R_slice HO_5.out;subst eo111)|(go_at_call 22;(with_reducible refine (laws_eqIntS.calls kj46 _ _ t312 _ _ t262 false _ ?side1 ?side2 ?side3 ?side4 A102.out).mono ?_);(case side1=>repeat (first|exact (R_reads' HO314.out).2.2|(with_reducible refine C_alloc ?_ _)|(with_reducible refine C_drewN ?_ _)|(with_reducible refine C_drew ?_)));(case side2=>exact (R_reads' HO314.out).2.1);(case side3=>repeat (first|exact (R_reads' HO_5.out).2.2|(with_reducible refine C_alloc ?_ _)|(with_reducible refine C_drewN ?_ _)|(with_reducible refine C_drew ?_)));(case side4=>exact (R_reads' HO_5.out).2.1);rintro e w' ⟨rfl,⟨nd,rfl⟩⟩))
    go_meet
    case rel=>exact ⟨_,(true),(by first|rfl|(simp;done)|(simp [*];done)),H',⟨by have:=HJ10.out;have:=HJ46.out;first|omega|exact Nat.le_refl _⟩,⟨by (try simp only [hl274001_46]);(try simp only [hl274002_46]);(with_reducible repeat (first|apply R_alloc|apply R_drewN|apply R_drew));exact R_mono HO_8.out (fun _ hk=>⟨hk.1.1.1.1.2.2.1,⟨hk.1.1.1.1.2.2.2.1,hk.1.1.1.1.2.2.2.2⟩⟩)⟩,⟨by (try simp only [hl274001_46]);(try simp only [hl274002_46]);(with_reducible repeat (first|apply R_alloc|apply R_drewN|apply R_drew));exact R_mono HO_9.out (fun _ hk=>⟨hk.1.1.1.1.2.2.1,⟨hk.1.1.1.1.2.2.2.1,hk.1.1.1.1.2.2.2.2⟩⟩)⟩,⟨by (try simp only [hl274001_46]);(try simp only [hl274002_46]);(with_reducible repeat (first|apply R_alloc|apply R_drewN|apply R_drew));exact R_mono HO_274001.out (fun _ hk=>⟨hk.1.1.1.1.2.2.1,⟨hk.1.1.1.1.2.2.2.1,hk.1.1.1.1.2.2.2.2⟩⟩)⟩,⟨by (try simp only [hl274001_46]);(try simp only [hl274002_46]);(with_reducible repeat (first|apply R_alloc|apply R_drewN|apply R_drew));exact R_mono HO_274002.out (fun _ hk=>⟨hk.1.1.1.1.2.2.1,⟨hk.1.1.1.1.2.2.2.1,hk.1.1.1.1.2.2.2.2⟩⟩)⟩,⟨by (try simp only [hl274001_46]);(try simp only [hl274002_46]);(with_reducible repeat (first|apply blk_drewN|apply blk_drew|apply blk_alloc));exact BK250.out⟩,⟨by (try simp only [hl274001_46]);(try simp only [hl274002_46]);(with_reducible repeat (first|apply blk_drewN|apply blk_drew|apply blk_alloc));exact BK273.out⟩,⟨by repeat (first|(with_reducible first|exact HB.out|apply below_alloc|apply pw_below_drewN|apply below_drew1|refine below_set ?_ GE250.out|refine below_set ?_ GE273.out)|exact HB.out)⟩⟩
   clear HC89
   try clear c1
   try clear c2
   try clear p2
   try clear c3
   try clear c3b0
   try clear c4
   try clear c5
   try clear c6
   try clear c7
   try clear c8
   try clear c9
   try clear c10
   try clear c11
   try clear c13
   try clear c15
   try clear c22
   try clear c23
   try clear c24
   try clear c25
   try clear c29
   try clear c30
   try clear c31
   try clear c42
   try clear c45
   try clear c53
   try clear c56
   try clear c56b0
   try clear c58
   try clear c60
   try clear c71
   try clear c75
   try clear c75b0
   try clear c81
   try clear c81b0
   try clear c86
   try clear c86b0
   try clear c86b1
   try clear c94
   try clear c101
   try clear c103
   try clear hcz13_0
   try clear hcz13_1
   try clear hcz13_2
   try clear hcz15_0
   try clear hcz15_1
   try clear hcz15_2
   try clear hcz20_0
   try clear hcz20_1
   try clear hcz20_2
   try clear hcz24_0
   try clear hcz24_1
   try clear hcz24_2
   try clear hcz54_0
   try clear hcz54_1
   try clear hcz54_2
   try clear hcz5_0
   try clear hcz5_1
   try clear hcz5_2
   try clear hcz95_0
   try clear hcz95_1
   try clear hcz95_2
   try clear hfz13_0
   try clear hfz13_1
   try clear hfz13_2
   try clear hfz15_0
   try clear hfz15_1
   try clear hfz15_2
   try clear hfz20_0
   try clear hfz20_1
   try clear hfz20_2
   try clear hfz24_0
   try clear hfz24_1
   try clear hfz24_2
   try clear hfz54_0
   try clear hfz54_1
   try clear hfz54_2
   try clear hfz5_0
   try clear hfz5_1
   try clear hfz5_2
   try clear hfz95_0
   try clear hfz95_1
   try clear hfz95_2
   try clear p2
   obtain ⟨kq,x119_88,rfl,HA,HJ88,HO_8,HO_9,HO_274001,HO_274002,BK250,BK273,HB⟩:=hcut
   have hl8_88:=(R_reads' HO_8.out).1
   rw [hl8_88] at HO_8
   (try simp only [hl8_88])
   (try simp only [hl8_88] at BK250)
   (try simp only [hl8_88] at BK273)
   (try simp only [hl8_88] at HO_9)
   (try simp only [hl8_88] at HO_274001)
   (try simp only [hl8_88] at HO_274002)
   have hl9_88:=(R_reads' HO_9.out).1
   rw [hl9_88] at HO_9
   (try simp only [hl9_88])
   (try simp only [hl9_88] at BK250)
   (try simp only [hl9_88] at BK273)
   (try simp only [hl9_88] at HO_8)
   (try simp only [hl9_88] at HO_274001)
   (try simp only [hl9_88] at HO_274002)
   cases kq with
   | zero=>exact absurd HA.out (by simp [laws_FnExactFallsOf.j2])
   | succ kj88 =>
    have H:=HA.out
    clear HA
    simp only [laws_FnExactFallsOf.j2] at H
    by_cases c114 : x119_88 = true
    ·subst c114
     have H1 : (some false) = some r:=by rw [if_pos rfl] at H;exact H
     clear H
     have H:=H1
     clear H1
     obtain rfl:=Option.some.inj H
     go_wp2
     go_ret
     exact ⟨by first|rfl|(simp [errW_none,errW_some] <;> rfl)|(simp [*,errW_none,errW_some] <;> rfl),by repeat (first|(with_reducible first|exact HB.out|apply below_alloc|apply pw_below_drewN|apply below_drew1|refine below_set ?_ GE250.out|refine below_set ?_ GE273.out)|exact HB.out)⟩
    replace c114:=Bool.eq_false_iff.mpr c114
    subst c114
    have H1 : ((laws_heldIntS.f kj88 t297 1).bind fun t318=>(if t318 < 0 then (some false) else ((laws_heldIntS.f kj88 t299 t318).bind fun t319=>(if t319 < 0 then (some false) else (if t319 = t298 then (some true) else (some false)))))) = some r:=by rw [if_neg (show ¬ (false = true) by decide)] at H;exact H
    clear H
    have H:=H1
    clear H1
    replace H:=Option.bind_eq_some_iff.mp H
    obtain ⟨t318,A1150,H⟩:=H
    replace H : (if t318 < 0 then (some false) else ((laws_heldIntS.f kj88 t299 t318).bind fun t319=>(if t319 < 0 then (some false) else (if t319 = t298 then (some true) else (some false))))) = some r:=H
    have A115:=Aside0.mk A1150
    clear A1150
    by_cases c116 : t318 < 0
    ·rw [if_pos c116] at H
     have c116b0 : decide (t318 < 0) = true:=decide_eq_true c116
     clear c116
     obtain rfl:=Option.some.inj H
     go_wp2_with (first|((with_reducible refine gate_callee (f:=25) rfl ?_);refine goesL_ (some 122) rfl rfl Try.func25 (by kernel_rfl) rfl #[.slice Ao90 t297.length co90,.int .i64 1] rfl (by (try simp only [List.map_toArray,List.map_cons,List.map_nil]);first|done|rfl|(simp only [List.length_drop,List.length_take];rfl)) ?_;(with_reducible refine (laws_heldIntS.calls kj88 _ _ t297 1 t318 _ ?side1 ?side2 A115.out).mono ?_);(case side1=>repeat (first|exact (R_reads' HO_8.out).2.2|(with_reducible refine C_alloc ?_ _)|(with_reducible refine C_drewN ?_ _)|(with_reducible refine C_drew ?_)));(case side2=>exact (R_reads' HO_8.out).2.1);rintro e w' ⟨rfl,⟨nd,rfl⟩⟩;refine ⟨_,rfl,?_⟩))
     go_ret
     exact ⟨by first|rfl|(simp [errW_none,errW_some] <;> rfl)|(simp [*,errW_none,errW_some] <;> rfl),by repeat (first|(with_reducible first|exact HB.out|apply below_alloc|apply pw_below_drewN|apply below_drew1|refine below_set ?_ GE250.out|refine below_set ?_ GE273.out)|exact HB.out)⟩
    rw [if_neg c116] at H
    have c116b0 : decide (t318 < 0) = false:=decide_eq_false c116
    clear c116
    replace H:=Option.bind_eq_some_iff.mp H
    obtain ⟨t319,A1170,H⟩:=H
    replace H : (if t319 < 0 then (some false) else (if t319 = t298 then (some true) else (some false))) = some r:=H
    have A117:=Aside0.mk A1170
    clear A1170
    by_cases c118 : t319 < 0
    ·rw [if_pos c118] at H
     have c118b0 : decide (t319 < 0) = true:=decide_eq_true c118
     clear c118
     obtain rfl:=Option.some.inj H
     go_wp2_with (first|((with_reducible refine gate_callee (f:=25) rfl ?_);refine goesL_ (some 122) rfl rfl Try.func25 (by kernel_rfl) rfl #[.slice Ao90 t297.length co90,.int .i64 1] rfl (by (try simp only [List.map_toArray,List.map_cons,List.map_nil]);first|done|rfl|(simp only [List.length_drop,List.length_take];rfl)) ?_;(with_reducible refine (laws_heldIntS.calls kj88 _ _ t297 1 t318 _ ?side1 ?side2 A115.out).mono ?_);(case side1=>repeat (first|exact (R_reads' HO_8.out).2.2|(with_reducible refine C_alloc ?_ _)|(with_reducible refine C_drewN ?_ _)|(with_reducible refine C_drew ?_)));(case side2=>exact (R_reads' HO_8.out).2.1);rintro e w' ⟨rfl,⟨nd,rfl⟩⟩;refine ⟨_,rfl,?_⟩)|((with_reducible refine gate_callee (f:=25) rfl ?_);refine goesL_ (some 127) rfl rfl Try.func25 (by kernel_rfl) rfl #[.slice Ao92 t299.length co92,.int .i64 t318] rfl (by (try simp only [List.map_toArray,List.map_cons,List.map_nil]);first|done|rfl|(simp only [List.length_drop,List.length_take];rfl)) ?_;(with_reducible refine (laws_heldIntS.calls kj88 _ _ t299 t318 t319 _ ?side1 ?side2 A117.out).mono ?_);(case side1=>repeat (first|exact (R_reads' HO_9.out).2.2|(with_reducible refine C_alloc ?_ _)|(with_reducible refine C_drewN ?_ _)|(with_reducible refine C_drew ?_)));(case side2=>exact (R_reads' HO_9.out).2.1);rintro e w' ⟨rfl,⟨nd,rfl⟩⟩;refine ⟨_,rfl,?_⟩))
     go_ret
     exact ⟨by first|rfl|(simp [errW_none,errW_some] <;> rfl)|(simp [*,errW_none,errW_some] <;> rfl),by repeat (first|(with_reducible first|exact HB.out|apply below_alloc|apply pw_below_drewN|apply below_drew1|refine below_set ?_ GE250.out|refine below_set ?_ GE273.out)|exact HB.out)⟩
    rw [if_neg c118] at H
    have c118b0 : decide (t319 < 0) = false:=decide_eq_false c118
    clear c118
    by_cases c119 : t319 = t298
    rotate_left
    ·rw [if_neg c119] at H
     have c119b0 : (t319 == t298) = false:=beq_eq_false_iff_ne.mpr c119
     have c119b1 : (t319 != t298) = true:=bne_iff_ne.mpr c119
     obtain rfl:=Option.some.inj H
     go_wp2_with (first|((with_reducible refine gate_callee (f:=25) rfl ?_);refine goesL_ (some 122) rfl rfl Try.func25 (by kernel_rfl) rfl #[.slice Ao90 t297.length co90,.int .i64 1] rfl (by (try simp only [List.map_toArray,List.map_cons,List.map_nil]);first|done|rfl|(simp only [List.length_drop,List.length_take];rfl)) ?_;(with_reducible refine (laws_heldIntS.calls kj88 _ _ t297 1 t318 _ ?side1 ?side2 A115.out).mono ?_);(case side1=>repeat (first|exact (R_reads' HO_8.out).2.2|(with_reducible refine C_alloc ?_ _)|(with_reducible refine C_drewN ?_ _)|(with_reducible refine C_drew ?_)));(case side2=>exact (R_reads' HO_8.out).2.1);rintro e w' ⟨rfl,⟨nd,rfl⟩⟩;refine ⟨_,rfl,?_⟩)|((with_reducible refine gate_callee (f:=25) rfl ?_);refine goesL_ (some 127) rfl rfl Try.func25 (by kernel_rfl) rfl #[.slice Ao92 t299.length co92,.int .i64 t318] rfl (by (try simp only [List.map_toArray,List.map_cons,List.map_nil]);first|done|rfl|(simp only [List.length_drop,List.length_take];rfl)) ?_;(with_reducible refine (laws_heldIntS.calls kj88 _ _ t299 t318 t319 _ ?side1 ?side2 A117.out).mono ?_);(case side1=>repeat (first|exact (R_reads' HO_9.out).2.2|(with_reducible refine C_alloc ?_ _)|(with_reducible refine C_drewN ?_ _)|(with_reducible refine C_drew ?_)));(case side2=>exact (R_reads' HO_9.out).2.1);rintro e w' ⟨rfl,⟨nd,rfl⟩⟩;refine ⟨_,rfl,?_⟩))
     go_ret
     exact ⟨by first|rfl|(simp [errW_none,errW_some] <;> rfl)|(simp [*,errW_none,errW_some] <;> rfl),by repeat (first|(with_reducible first|exact HB.out|apply below_alloc|apply pw_below_drewN|apply below_drew1|refine below_set ?_ GE250.out|refine below_set ?_ GE273.out)|exact HB.out)⟩
    rw [if_pos c119] at H
    have c119b0 : (t319 == t298) = true:=beq_iff_eq.mpr c119
    have c119b1 : (t319 != t298) = false:=bne_eq_false_iff_eq.mpr c119
    clear c119
    obtain rfl:=Option.some.inj H
    go_wp2_with (first|((with_reducible refine gate_callee (f:=25) rfl ?_);refine goesL_ (some 122) rfl rfl Try.func25 (by kernel_rfl) rfl #[.slice Ao90 t297.length co90,.int .i64 1] rfl (by (try simp only [List.map_toArray,List.map_cons,List.map_nil]);first|done|rfl|(simp only [List.length_drop,List.length_take];rfl)) ?_;(with_reducible refine (laws_heldIntS.calls kj88 _ _ t297 1 t318 _ ?side1 ?side2 A115.out).mono ?_);(case side1=>repeat (first|exact (R_reads' HO_8.out).2.2|(with_reducible refine C_alloc ?_ _)|(with_reducible refine C_drewN ?_ _)|(with_reducible refine C_drew ?_)));(case side2=>exact (R_reads' HO_8.out).2.1);rintro e w' ⟨rfl,⟨nd,rfl⟩⟩;refine ⟨_,rfl,?_⟩)|((with_reducible refine gate_callee (f:=25) rfl ?_);refine goesL_ (some 127) rfl rfl Try.func25 (by kernel_rfl) rfl #[.slice Ao92 t299.length co92,.int .i64 t318] rfl (by (try simp only [List.map_toArray,List.map_cons,List.map_nil]);first|done|rfl|(simp only [List.length_drop,List.length_take];rfl)) ?_;(with_reducible refine (laws_heldIntS.calls kj88 _ _ t299 t318 t319 _ ?side1 ?side2 A117.out).mono ?_);(case side1=>repeat (first|exact (R_reads' HO_9.out).2.2|(with_reducible refine C_alloc ?_ _)|(with_reducible refine C_drewN ?_ _)|(with_reducible refine C_drew ?_)));(case side2=>exact (R_reads' HO_9.out).2.1);rintro e w' ⟨rfl,⟨nd,rfl⟩⟩;refine ⟨_,rfl,?_⟩))
    go_ret
    exact ⟨by first|rfl|(simp [errW_none,errW_some] <;> rfl)|(simp [*,errW_none,errW_some] <;> rfl),by repeat (first|(with_reducible first|exact HB.out|apply below_alloc|apply pw_below_drewN|apply below_drew1|refine below_set ?_ GE250.out|refine below_set ?_ GE273.out)|exact HB.out)⟩


end
end Go.Proofs.Ytciihopkgblpkaa.QFnExactFallsOf
