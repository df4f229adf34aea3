/- Functions that the law FnExactMirrorWire comes to, as Lean functions, with the proof that the Go code does what they say: written by a program of this session over the kit's print. No condition but those named. -/
import Derived.Test.YtciihopkgblpkaaQFnExactMirrorWirex0
import Derived.Test.YtciihopkgblpkaaQFnExactMirrorWirex1
import Derived.Test.YtciihopkgblpkaaQFnExactMirrorWirex3
import Derived.Test.YtciihopkgblpkaaQFnExactMirrorWirex5
import Derived.Test.YtciihopkgblpkaaQFnExactMirrorWirex6
namespace Go.Proofs.Ytciihopkgblpkaa.QFnExactMirrorWire
open Go.RowKit Go.Proofs.YtciihopkgblpkaaW.PrintWords Go.Proofs.YtciihopkgblpkaaW.PrintLast Go.Proofs.YtciihopkgblpkaaW.PrintMore
attribute [local go_sem] max2_int min2_int max_two min_two max_three min_three max_four min_four   -- for this text's walks alone
set_option linter.unusedVariables false
set_option linter.unusedSimpArgs false

/-! ### laws_FnExactMirrorWire: function 7 -/
section
open Kd
mutual
def laws_FnExactMirrorWire.j0 : Nat → Bool → Bool → Bool → Int → List Int → List Int → Int → List Int → List Int → Int → List Int → List Int → Int → List Int → List Int → Option (Bool)
 | 0,_,_,_,_,_,_,_,_,_,_,_,_,_,_,_=>none
 | k + 1,x5,x8,x40,x189000,x189001,x189002,x206000,x206001,x206002,x214000,x214001,x214002,x223000,x223001,x223002=>if x40 = true then (some false) else ((laws_toWire.f k x189000 x189001 x189002).bind fun bt224=>((laws_eqWire.f k x214000 x214001 x214002 bt224.1 bt224.2.1 bt224.2.2).bind fun t231=>(if t231 = true then ((laws_markWire.f k x214000 x214001 x214002 1).bind fun bt232=>(if bt232.1 < 0 then (laws_FnExactMirrorWire.j1 k x5 true x189000 x189001 x189002 x206000 x206001 x206002 x223000 x223001 x223002) else ((laws_eqWire.f k x223000 x223001 x223002 x206000 x206001 x206002).bind fun t235=>(if t235 = true then (laws_FnExactMirrorWire.j1 k x5 (x8 != x5) x189000 x189001 x189002 x206000 x206001 x206002 x223000 x223001 x223002) else (laws_FnExactMirrorWire.j1 k x5 true x189000 x189001 x189002 x206000 x206001 x206002 x223000 x223001 x223002))))) else (some false))))
def laws_FnExactMirrorWire.j1 : Nat → Bool → Bool → Int → List Int → List Int → Int → List Int → List Int → Int → List Int → List Int → Option (Bool)
 | 0,_,_,_,_,_,_,_,_,_,_,_=>none
 | k + 1,x5,x61,x189000,x189001,x189002,x206000,x206001,x206002,x223000,x223001,x223002=>if x61 = true then (some false) else ((laws_markWire.f k x223000 x223001 x223002 1).bind fun bt236=>((laws_heldWire.f k x223000 bt236.2.1 bt236.2.2 1).bind fun t239=>(if t239 < 0 then (some false) else (if t239 = bt236.1 then ((laws_toWire.f k x189000 x189001 x189002).bind fun bt240=>((impl_MirrorWire.f k bt240.1 bt240.2.1 bt240.2.2).bind fun bt247=>((laws_eqWire.f k bt247.1 bt247.2.1 bt247.2.2.1 x206000 x206001 x206002).bind fun t256=>(if t256 = true then (laws_FnExactMirrorWire.j2 k bt236.1 (bt247.2.2.2 != x5) x223000 bt236.2.1 bt236.2.2) else (laws_FnExactMirrorWire.j2 k bt236.1 true x223000 bt236.2.1 bt236.2.2))))) else (some false)))))
def laws_FnExactMirrorWire.j2 : Nat → Int → Bool → Int → List Int → List Int → Option (Bool)
 | 0,_,_,_,_,_=>none
 | k + 1,x10,x87,x223000,x223001,x223002=>if x87 = true then (some false) else ((laws_heldWire.f k x223000 x223001 x223002 1).bind fun t257=>(if t257 < 0 then (some false) else (if t257 = x10 then (some true) else (some false))))
end
def laws_FnExactMirrorWire.f (k : Nat) (a0_0 : Int) (l0_1 : List Int) (l0_2 : List Int) : Option (Bool):=(laws_szWire.f a0_0 l0_1 l0_2 1048576).bind fun t189=>(if t189 < 0 then (some true) else ((laws_toWire.f k a0_0 l0_1 l0_2).bind fun bt190=>((spec_MirrorWire.f k bt190.1 bt190.2.1 bt190.2.2).bind fun bt197=>((laws_toWire.f k a0_0 l0_1 l0_2).bind fun bt206=>((impl_MirrorWire.f k bt206.1 bt206.2.1 bt206.2.2).bind fun bt214=>((laws_eqWire.f k bt214.1 bt214.2.1 bt214.2.2.1 bt197.1 bt197.2.1 bt197.2.2.1).bind fun t223=>(if t223 = true then (laws_FnExactMirrorWire.j0 k bt197.2.2.2 bt214.2.2.2 (bt214.2.2.2 != bt197.2.2.2) a0_0 l0_1 l0_2 bt197.1 bt197.2.1 bt197.2.2.1 bt206.1 bt206.2.1 bt206.2.2 bt214.1 bt214.2.1 bt214.2.2.1) else (laws_FnExactMirrorWire.j0 k bt197.2.2.2 bt214.2.2.2 true a0_0 l0_1 l0_2 bt197.1 bt197.2.1 bt197.2.2.1 bt206.1 bt206.2.1 bt206.2.2 bt214.1 bt214.2.1 bt214.2.2.1))))))))
theorem laws_FnExactMirrorWire.mono_l : ∀ k,(∀ y0 y1 y2 y3 y4 y5 y6 y7 y8 y9 y10 y11 y12 y13 y14,LeO (laws_FnExactMirrorWire.j0 k y0 y1 y2 y3 y4 y5 y6 y7 y8 y9 y10 y11 y12 y13 y14) (laws_FnExactMirrorWire.j0 (k + 1) y0 y1 y2 y3 y4 y5 y6 y7 y8 y9 y10 y11 y12 y13 y14)) ∧ (∀ y0 y1 y2 y3 y4 y5 y6 y7 y8 y9 y10,LeO (laws_FnExactMirrorWire.j1 k y0 y1 y2 y3 y4 y5 y6 y7 y8 y9 y10) (laws_FnExactMirrorWire.j1 (k + 1) y0 y1 y2 y3 y4 y5 y6 y7 y8 y9 y10)) ∧ (∀ y0 y1 y2 y3 y4,LeO (laws_FnExactMirrorWire.j2 k y0 y1 y2 y3 y4) (laws_FnExactMirrorWire.j2 (k + 1) y0 y1 y2 y3 y4))
 | 0=>⟨fun _ _ _ _ _ _ _ _ _ _ _ _ _ _ _ r h=>by simp [laws_FnExactMirrorWire.j0] at h,fun _ _ _ _ _ _ _ _ _ _ _ r h=>by simp [laws_FnExactMirrorWire.j1] at h,fun _ _ _ _ _ r h=>by simp [laws_FnExactMirrorWire.j2] at h⟩
 | k + 1=>by
  obtain ⟨ih0,ih1,ih2⟩:=laws_FnExactMirrorWire.mono_l k
  refine ⟨?_,?_,?_⟩
  ·intro y0 y1 y2 y3 y4 y5 y6 y7 y8 y9 y10 y11 y12 y13 y14
   unfold laws_FnExactMirrorWire.j0
   repeat' first
   | (with_reducible exact ih0 _ _ _ _ _ _ _ _ _ _ _ _ _ _ _)
   | (with_reducible exact ih1 _ _ _ _ _ _ _ _ _ _ _)
   | (with_reducible exact ih2 _ _ _ _ _)
   | (with_reducible exact impl_MirrorWire.mono _ _ _ _)
   | (with_reducible exact laws_eqWire.mono _ _ _ _ _ _ _)
   | (with_reducible exact laws_heldWire.mono _ _ _ _ _)
   | (with_reducible exact laws_markWire.mono _ _ _ _ _)
   | (with_reducible exact laws_toWire.mono _ _ _ _)
   | (with_reducible exact spec_MirrorWire.mono _ _ _ _)
   | (with_reducible exact LeO.refl _)
   | (with_reducible exact LeO.none _)
   | (with_reducible refine LeO.ite ?_ ?_)
   | (with_reducible refine LeO.bind ?_ (fun _=>?_))
   | exact ih0 _ _ _ _ _ _ _ _ _ _ _ _ _ _ _
   | exact ih1 _ _ _ _ _ _ _ _ _ _ _
   | exact ih2 _ _ _ _ _
   | exact impl_MirrorWire.mono _ _ _ _
   | exact laws_eqWire.mono _ _ _ _ _ _ _
   | exact laws_heldWire.mono _ _ _ _ _
   | exact laws_markWire.mono _ _ _ _ _
   | exact laws_toWire.mono _ _ _ _
   | exact spec_MirrorWire.mono _ _ _ _
   | exact LeO.none _
   | refine LeO.ite ?_ ?_
   | refine LeO.bind ?_ (fun _=>?_)
  ·intro y0 y1 y2 y3 y4 y5 y6 y7 y8 y9 y10
   unfold laws_FnExactMirrorWire.j1
   repeat' first
   | (with_reducible exact ih0 _ _ _ _ _ _ _ _ _ _ _ _ _ _ _)
   | (with_reducible exact ih1 _ _ _ _ _ _ _ _ _ _ _)
   | (with_reducible exact ih2 _ _ _ _ _)
   | (with_reducible exact impl_MirrorWire.mono _ _ _ _)
   | (with_reducible exact laws_eqWire.mono _ _ _ _ _ _ _)
   | (with_reducible exact laws_heldWire.mono _ _ _ _ _)
   | (with_reducible exact laws_markWire.mono _ _ _ _ _)
   | (with_reducible exact laws_toWire.mono _ _ _ _)
   | (with_reducible exact spec_MirrorWire.mono _ _ _ _)
   | (with_reducible exact LeO.refl _)
   | (with_reducible exact LeO.none _)
   | (with_reducible refine LeO.ite ?_ ?_)
   | (with_reducible refine LeO.bind ?_ (fun _=>?_))
   | exact ih0 _ _ _ _ _ _ _ _ _ _ _ _ _ _ _
   | exact ih1 _ _ _ _ _ _ _ _ _ _ _
   | exact ih2 _ _ _ _ _
   | exact impl_MirrorWire.mono _ _ _ _
   | exact laws_eqWire.mono _ _ _ _ _ _ _
   | exact laws_heldWire.mono _ _ _ _ _
   | exact laws_markWire.mono _ _ _ _ _
   | exact laws_toWire.mono _ _ _ _
   | exact spec_MirrorWire.mono _ _ _ _
   | exact LeO.none _
   | refine LeO.ite ?_ ?_
   | refine LeO.bind ?_ (fun _=>?_)
  ·intro y0 y1 y2 y3 y4
   unfold laws_FnExactMirrorWire.j2
   repeat' first
   | (with_reducible exact ih0 _ _ _ _ _ _ _ _ _ _ _ _ _ _ _)
   | (with_reducible exact ih1 _ _ _ _ _ _ _ _ _ _ _)
   | (with_reducible exact ih2 _ _ _ _ _)
   | (with_reducible exact impl_MirrorWire.mono _ _ _ _)
   | (with_reducible exact laws_eqWire.mono _ _ _ _ _ _ _)
   | (with_reducible exact laws_heldWire.mono _ _ _ _ _)
   | (with_reducible exact laws_markWire.mono _ _ _ _ _)
   | (with_reducible exact laws_toWire.mono _ _ _ _)
   | (with_reducible exact spec_MirrorWire.mono _ _ _ _)
   | (with_reducible exact LeO.refl _)
   | (with_reducible exact LeO.none _)
   | (with_reducible refine LeO.ite ?_ ?_)
   | (with_reducible refine LeO.bind ?_ (fun _=>?_))
   | exact ih0 _ _ _ _ _ _ _ _ _ _ _ _ _ _ _
   | exact ih1 _ _ _ _ _ _ _ _ _ _ _
   | exact ih2 _ _ _ _ _
   | exact impl_MirrorWire.mono _ _ _ _
   | exact laws_eqWire.mono _ _ _ _ _ _ _
   | exact laws_heldWire.mono _ _ _ _ _
   | exact laws_markWire.mono _ _ _ _ _
   | exact laws_toWire.mono _ _ _ _
   | exact spec_MirrorWire.mono _ _ _ _
   | exact LeO.none _
   | refine LeO.ite ?_ ?_
   | refine LeO.bind ?_ (fun _=>?_)
theorem laws_FnExactMirrorWire.mono : ∀ a0 a1 a2 k,LeO (laws_FnExactMirrorWire.f k a0 a1 a2) (laws_FnExactMirrorWire.f (k + 1) a0 a1 a2):=by
 intro a0 a1 a2 k
 obtain ⟨ih0,ih1,ih2⟩:=laws_FnExactMirrorWire.mono_l k
 unfold laws_FnExactMirrorWire.f
 repeat' first
   | (with_reducible exact ih0 _ _ _ _ _ _ _ _ _ _ _ _ _ _ _)
   | (with_reducible exact ih1 _ _ _ _ _ _ _ _ _ _ _)
   | (with_reducible exact ih2 _ _ _ _ _)
   | (with_reducible exact impl_MirrorWire.mono _ _ _ _)
   | (with_reducible exact laws_eqWire.mono _ _ _ _ _ _ _)
   | (with_reducible exact laws_heldWire.mono _ _ _ _ _)
   | (with_reducible exact laws_markWire.mono _ _ _ _ _)
   | (with_reducible exact laws_toWire.mono _ _ _ _)
   | (with_reducible exact spec_MirrorWire.mono _ _ _ _)
   | (with_reducible exact LeO.refl _)
   | (with_reducible exact LeO.none _)
   | (with_reducible refine LeO.ite ?_ ?_)
   | (with_reducible refine LeO.bind ?_ (fun _=>?_))
   | exact ih0 _ _ _ _ _ _ _ _ _ _ _ _ _ _ _
   | exact ih1 _ _ _ _ _ _ _ _ _ _ _
   | exact ih2 _ _ _ _ _
   | exact impl_MirrorWire.mono _ _ _ _
   | exact laws_eqWire.mono _ _ _ _ _ _ _
   | exact laws_heldWire.mono _ _ _ _ _
   | exact laws_markWire.mono _ _ _ _ _
   | exact laws_toWire.mono _ _ _ _
   | exact spec_MirrorWire.mono _ _ _ _
   | exact LeO.none _
   | refine LeO.ite ?_ ?_
   | refine LeO.bind ?_ (fun _=>?_)
set_option maxHeartbeats 8000000 in
set_option maxRecDepth 100000 in
theorem laws_FnExactMirrorWire.calls (k : Nat) (a0_0 : Int) (A0_1 : Option Addr) (c0_1 : Nat) (l0_1 : List Int) (A0_2 : Option Addr) (c0_2 : Nat) (l0_2 : List Int) (r : Bool) (w : World) (hr0_1 : Kd.C (Kd.int .i64) w A0_1 l0_1.length l0_1) (hc0_1 : l0_1.length ≤ c0_1) (hr0_2 : Kd.C (Kd.int .i64) w A0_2 l0_2.length l0_2) (hc0_2 : l0_2.length ≤ c0_2) (h : laws_FnExactMirrorWire.f k a0_0 l0_1 l0_2 = some r) :
  Calls Try.prog 7 #[.agg #[.int .i64 a0_0,.slice A0_1 l0_1.length c0_1,.slice A0_2 l0_2.length c0_2]] w fun e w'=>e = .returned (.bool r) ∧ Below w.heap.size w w':=by
 have hu24:=Try.underlying24
 have hu27:=Try.underlying27
 have HR0_1:=Aside0.mk hr0_1
 have HC0_1:=Aside0.mk hc0_1
 clear hr0_1 hc0_1
 have HR0_2:=Aside0.mk hr0_2
 have HC0_2:=Aside0.mk hc0_2
 clear hr0_2 hc0_2
 have HB:=Aside0.mk (Below.refl w.heap.size w)
 have H : ((laws_szWire.f a0_0 l0_1 l0_2 1048576).bind fun t189=>(if t189 < 0 then (some true) else ((laws_toWire.f k a0_0 l0_1 l0_2).bind fun bt190=>((spec_MirrorWire.f k bt190.1 bt190.2.1 bt190.2.2).bind fun bt197=>((laws_toWire.f k a0_0 l0_1 l0_2).bind fun bt206=>((impl_MirrorWire.f k bt206.1 bt206.2.1 bt206.2.2).bind fun bt214=>((laws_eqWire.f k bt214.1 bt214.2.1 bt214.2.2.1 bt197.1 bt197.2.1 bt197.2.2.1).bind fun t223=>(if t223 = true then (laws_FnExactMirrorWire.j0 k bt197.2.2.2 bt214.2.2.2 (bt214.2.2.2 != bt197.2.2.2) a0_0 l0_1 l0_2 bt197.1 bt197.2.1 bt197.2.2.1 bt206.1 bt206.2.1 bt206.2.2 bt214.1 bt214.2.1 bt214.2.2.1) else (laws_FnExactMirrorWire.j0 k bt197.2.2.2 bt214.2.2.2 true a0_0 l0_1 l0_2 bt197.1 bt197.2.1 bt197.2.2.1 bt206.1 bt206.2.1 bt206.2.2 bt214.1 bt214.2.1 bt214.2.2.1))))))))) = some r:=h
 clear h
 replace H:=Option.bind_eq_some_iff.mp H
 obtain ⟨t189,A20,H⟩:=H
 replace H : (if t189 < 0 then (some true) else ((laws_toWire.f k a0_0 l0_1 l0_2).bind fun bt190=>((spec_MirrorWire.f k bt190.1 bt190.2.1 bt190.2.2).bind fun bt197=>((laws_toWire.f k a0_0 l0_1 l0_2).bind fun bt206=>((impl_MirrorWire.f k bt206.1 bt206.2.1 bt206.2.2).bind fun bt214=>((laws_eqWire.f k bt214.1 bt214.2.1 bt214.2.2.1 bt197.1 bt197.2.1 bt197.2.2.1).bind fun t223=>(if t223 = true then (laws_FnExactMirrorWire.j0 k bt197.2.2.2 bt214.2.2.2 (bt214.2.2.2 != bt197.2.2.2) a0_0 l0_1 l0_2 bt197.1 bt197.2.1 bt197.2.2.1 bt206.1 bt206.2.1 bt206.2.2 bt214.1 bt214.2.1 bt214.2.2.1) else (laws_FnExactMirrorWire.j0 k bt197.2.2.2 bt214.2.2.2 true a0_0 l0_1 l0_2 bt197.1 bt197.2.1 bt197.2.2.1 bt206.1 bt206.2.1 bt206.2.2 bt214.1 bt214.2.1 bt214.2.2.1)))))))) = some r:=H
 have A2:=Aside0.mk A20
 clear A20
 by_cases c3 : t189 < 0
 ·rw [if_pos c3] at H
  have c3b0 : decide (t189 < 0) = true:=decide_eq_true c3
  clear c3
  obtain rfl:=Option.some.inj H
  go_enter Try.func7,Try.ntmps7
  go_wp2_with (first|((with_reducible refine gate_dst (N:=1) rfl ?_);refine box_event ?hg (N:=1) ?hd (cs:=#[.int .i64 a0_0,.slice A0_1 l0_1.length c0_1,.slice A0_2 l0_2.length c0_2]) (t:=24) ?hr ?_;(case hd=>rfl);(case hg=>rfl);(case hr=>first|(go_simp;done)|(go_simp;rfl));intro gb188 hg w4 hbox hb;have n0_:=Aside0.mk (below_step (by repeat (first|(with_reducible first|exact HB.out|apply below_alloc|apply pw_below_drewN|apply below_drew1)|exact HB.out)) hb);have n1_:=Aside0.mk (hbox);have n2_:=Aside0.mk ((by rw [hg];exact (below_size (by repeat (first|(with_reducible first|exact HB.out|apply below_alloc|apply pw_below_drewN|apply below_drew1)|exact HB.out))) : w.heap.size ≤ gb188));have n3_:=Aside0.mk ((by rw [hg];exact (below_size (by repeat (first|(with_reducible first|exact HB.out|apply below_alloc|apply pw_below_drewN|apply below_drew1)|exact HB.out))) : w.heap.size ≤ gb188));clear HB;have HB:=n0_;have BK188:=n1_;have GW188:=n2_;have GE188:=n3_;clear n0_ n1_ n2_ n3_;clear hb hbox hg;have hcz5_0 : w4.cell? ⟨gb188,0,none⟩ = some (.int .i64 a0_0):=(blk_cell BK188.out 0).trans rfl;have hcz5_1 : w4.cell? ⟨gb188,1,none⟩ = some (.slice A0_1 l0_1.length c0_1):=(blk_cell BK188.out 1).trans rfl;have hcz5_2 : w4.cell? ⟨gb188,2,none⟩ = some (.slice A0_2 l0_2.length c0_2):=(blk_cell BK188.out 2).trans rfl;have hfz5_0:=blk_frozen BK188.out 0;have hfz5_1:=blk_frozen BK188.out 1;have hfz5_2:=blk_frozen BK188.out 2)|((with_reducible refine gate_callee (f:=11) rfl ?_);refine goesL_ (some 16) rfl rfl Try.func11 (by kernel_rfl) rfl #[.agg #[.int .i64 a0_0,.slice A0_1 l0_1.length c0_1,.slice A0_2 l0_2.length c0_2],.int .i64 1048576] rfl (by (try simp only [List.map_toArray,List.map_cons,List.map_nil]);first|done|rfl|(simp only [List.length_drop,List.length_take];rfl)) ?_;(with_reducible refine (laws_szWire.calls a0_0 _ _ l0_1 _ _ l0_2 1048576 t189 _ ?side1 ?side2 ?side3 ?side4 A2.out).mono ?_);(case side1=>repeat (first|exact (C_below HR0_1.out HB.out)|(with_reducible refine C_alloc ?_ _)|(with_reducible refine C_drewN ?_ _)|(with_reducible refine C_drew ?_)));(case side2=>exact HC0_1.out);(case side3=>repeat (first|exact (C_below HR0_2.out HB.out)|(with_reducible refine C_alloc ?_ _)|(with_reducible refine C_drewN ?_ _)|(with_reducible refine C_drew ?_)));(case side4=>exact HC0_2.out);rintro e w6 ⟨rfl,hb⟩;refine ⟨_,rfl,?_⟩;have n0_:=Aside0.mk (blk_below (g:=gb188) (o:=.cells #[.int .i64 a0_0,.slice A0_1 l0_1.length c0_1,.slice A0_2 l0_2.length c0_2] 24 (0,0)) (by (with_reducible repeat (first|apply blk_drewN|apply blk_drew|apply blk_alloc));exact BK188.out) hb);have n1_:=Aside0.mk (below_step (by repeat (first|(with_reducible first|exact HB.out|apply below_alloc|apply pw_below_drewN|apply below_drew1|refine below_set ?_ GE188.out)|exact HB.out)) hb);clear BK188;clear HB;have BK188:=n0_;have HB:=n1_;clear n0_ n1_;(try clear hb);(try clear hb2);(try clear hk);(try clear hi)))
  go_ret
  exact ⟨by first|rfl|(simp [errW_none,errW_some] <;> rfl)|(simp [*,errW_none,errW_some] <;> rfl),by repeat (first|(with_reducible first|exact HB.out|apply below_alloc|apply pw_below_drewN|apply below_drew1|refine below_set ?_ GE188.out)|exact HB.out)⟩
 rw [if_neg c3] at H
 have c3b0 : decide (t189 < 0) = false:=decide_eq_false c3
 clear c3
 replace H:=Option.bind_eq_some_iff.mp H
 obtain ⟨⟨t190,t191,t194⟩,A70,H⟩:=H
 replace H : ((spec_MirrorWire.f k t190 t191 t194).bind fun bt197=>((laws_toWire.f k a0_0 l0_1 l0_2).bind fun bt206=>((impl_MirrorWire.f k bt206.1 bt206.2.1 bt206.2.2).bind fun bt214=>((laws_eqWire.f k bt214.1 bt214.2.1 bt214.2.2.1 bt197.1 bt197.2.1 bt197.2.2.1).bind fun t223=>(if t223 = true then (laws_FnExactMirrorWire.j0 k bt197.2.2.2 bt214.2.2.2 (bt214.2.2.2 != bt197.2.2.2) a0_0 l0_1 l0_2 bt197.1 bt197.2.1 bt197.2.2.1 bt206.1 bt206.2.1 bt206.2.2 bt214.1 bt214.2.1 bt214.2.2.1) else (laws_FnExactMirrorWire.j0 k bt197.2.2.2 bt214.2.2.2 true a0_0 l0_1 l0_2 bt197.1 bt197.2.1 bt197.2.2.1 bt206.1 bt206.2.1 bt206.2.2 bt214.1 bt214.2.1 bt214.2.2.1)))))) = some r:=H
 have A7:=Aside0.mk A70
 clear A70
 replace H:=Option.bind_eq_some_iff.mp H
 obtain ⟨⟨t197,t198,t201,t204⟩,A80,H⟩:=H
 replace H : ((laws_toWire.f k a0_0 l0_1 l0_2).bind fun bt206=>((impl_MirrorWire.f k bt206.1 bt206.2.1 bt206.2.2).bind fun bt214=>((laws_eqWire.f k bt214.1 bt214.2.1 bt214.2.2.1 t197 t198 t201).bind fun t223=>(if t223 = true then (laws_FnExactMirrorWire.j0 k t204 bt214.2.2.2 (bt214.2.2.2 != t204) a0_0 l0_1 l0_2 t197 t198 t201 bt206.1 bt206.2.1 bt206.2.2 bt214.1 bt214.2.1 bt214.2.2.1) else (laws_FnExactMirrorWire.j0 k t204 bt214.2.2.2 true a0_0 l0_1 l0_2 t197 t198 t201 bt206.1 bt206.2.1 bt206.2.2 bt214.1 bt214.2.1 bt214.2.2.1))))) = some r:=H
 have A8:=Aside0.mk A80
 clear A80
 replace H:=Option.bind_eq_some_iff.mp H
 obtain ⟨⟨t206,t207,t210⟩,A90,H⟩:=H
 replace H : ((impl_MirrorWire.f k t206 t207 t210).bind fun bt214=>((laws_eqWire.f k bt214.1 bt214.2.1 bt214.2.2.1 t197 t198 t201).bind fun t223=>(if t223 = true then (laws_FnExactMirrorWire.j0 k t204 bt214.2.2.2 (bt214.2.2.2 != t204) a0_0 l0_1 l0_2 t197 t198 t201 t206 t207 t210 bt214.1 bt214.2.1 bt214.2.2.1) else (laws_FnExactMirrorWire.j0 k t204 bt214.2.2.2 true a0_0 l0_1 l0_2 t197 t198 t201 t206 t207 t210 bt214.1 bt214.2.1 bt214.2.2.1)))) = some r:=H
 have A9:=Aside0.mk A90
 clear A90
 replace H:=Option.bind_eq_some_iff.mp H
 obtain ⟨⟨t214,t215,t218,t221⟩,A100,H⟩:=H
 replace H : ((laws_eqWire.f k t214 t215 t218 t197 t198 t201).bind fun t223=>(if t223 = true then (laws_FnExactMirrorWire.j0 k t204 t221 (t221 != t204) a0_0 l0_1 l0_2 t197 t198 t201 t206 t207 t210 t214 t215 t218) else (laws_FnExactMirrorWire.j0 k t204 t221 true a0_0 l0_1 l0_2 t197 t198 t201 t206 t207 t210 t214 t215 t218))) = some r:=H
 have A10:=Aside0.mk A100
 clear A100
 have HC11:=Aside0.mk H
 clear H
 go_enter Try.func7,Try.ntmps7
 go_upto_region 8 with (first|((with_reducible refine gate_dst (N:=1) rfl ?_);refine box_event ?hg (N:=1) ?hd (cs:=#[.int .i64 a0_0,.slice A0_1 l0_1.length c0_1,.slice A0_2 l0_2.length c0_2]) (t:=24) ?hr ?_;(case hd=>rfl);(case hg=>rfl);(case hr=>first|(go_simp;done)|(go_simp;rfl));intro gb188 hg w12 hbox hb;have n0_:=Aside0.mk (below_step (by repeat (first|(with_reducible first|exact HB.out|apply below_alloc|apply pw_below_drewN|apply below_drew1)|exact HB.out)) hb);have n1_:=Aside0.mk (hbox);have n2_:=Aside0.mk ((by rw [hg];exact (below_size (by repeat (first|(with_reducible first|exact HB.out|apply below_alloc|apply pw_below_drewN|apply below_drew1)|exact HB.out))) : w.heap.size ≤ gb188));have n3_:=Aside0.mk ((by rw [hg];exact (below_size (by repeat (first|(with_reducible first|exact HB.out|apply below_alloc|apply pw_below_drewN|apply below_drew1)|exact HB.out))) : w.heap.size ≤ gb188));clear HB;have HB:=n0_;have BK188:=n1_;have GW188:=n2_;have GE188:=n3_;clear n0_ n1_ n2_ n3_;clear hb hbox hg;have hcz13_0 : w12.cell? ⟨gb188,0,none⟩ = some (.int .i64 a0_0):=(blk_cell BK188.out 0).trans rfl;have hcz13_1 : w12.cell? ⟨gb188,1,none⟩ = some (.slice A0_1 l0_1.length c0_1):=(blk_cell BK188.out 1).trans rfl;have hcz13_2 : w12.cell? ⟨gb188,2,none⟩ = some (.slice A0_2 l0_2.length c0_2):=(blk_cell BK188.out 2).trans rfl;have hfz13_0:=blk_frozen BK188.out 0;have hfz13_1:=blk_frozen BK188.out 1;have hfz13_2:=blk_frozen BK188.out 2)|((with_reducible refine gate_callee (f:=11) rfl ?_);refine goesL_ (some 16) rfl rfl Try.func11 (by kernel_rfl) rfl #[.agg #[.int .i64 a0_0,.slice A0_1 l0_1.length c0_1,.slice A0_2 l0_2.length c0_2],.int .i64 1048576] rfl (by (try simp only [List.map_toArray,List.map_cons,List.map_nil]);first|done|rfl|(simp only [List.length_drop,List.length_take];rfl)) ?_;(with_reducible refine (laws_szWire.calls a0_0 _ _ l0_1 _ _ l0_2 1048576 t189 _ ?side1 ?side2 ?side3 ?side4 A2.out).mono ?_);(case side1=>repeat (first|exact (C_below HR0_1.out HB.out)|(with_reducible refine C_alloc ?_ _)|(with_reducible refine C_drewN ?_ _)|(with_reducible refine C_drew ?_)));(case side2=>exact HC0_1.out);(case side3=>repeat (first|exact (C_below HR0_2.out HB.out)|(with_reducible refine C_alloc ?_ _)|(with_reducible refine C_drewN ?_ _)|(with_reducible refine C_drew ?_)));(case side4=>exact HC0_2.out);rintro e w14 ⟨rfl,hb⟩;refine ⟨_,rfl,?_⟩;have n0_:=Aside0.mk (blk_below (g:=gb188) (o:=.cells #[.int .i64 a0_0,.slice A0_1 l0_1.length c0_1,.slice A0_2 l0_2.length c0_2] 24 (0,0)) (by (with_reducible repeat (first|apply blk_drewN|apply blk_drew|apply blk_alloc));exact BK188.out) hb);have n1_:=Aside0.mk (below_step (by repeat (first|(with_reducible first|exact HB.out|apply below_alloc|apply pw_below_drewN|apply below_drew1|refine below_set ?_ GE188.out)|exact HB.out)) hb);clear BK188;clear HB;have BK188:=n0_;have HB:=n1_;clear n0_ n1_;(try clear hb);(try clear hb2);(try clear hk);(try clear hi);have hcz15_0 : w14.cell? ⟨gb188,0,none⟩ = some (.int .i64 a0_0):=(blk_cell BK188.out 0).trans rfl;have hcz15_1 : w14.cell? ⟨gb188,1,none⟩ = some (.slice A0_1 l0_1.length c0_1):=(blk_cell BK188.out 1).trans rfl;have hcz15_2 : w14.cell? ⟨gb188,2,none⟩ = some (.slice A0_2 l0_2.length c0_2):=(blk_cell BK188.out 2).trans rfl;have hfz15_0:=blk_frozen BK188.out 0;have hfz15_1:=blk_frozen BK188.out 1;have hfz15_2:=blk_frozen BK188.out 2)|((with_reducible refine gate_callee (f:=13) rfl ?_);refine goesL_ (some 21) rfl rfl Try.func13 (by kernel_rfl) rfl #[.agg #[.int .i64 a0_0,.slice A0_1 l0_1.length c0_1,.slice A0_2 l0_2.length c0_2]] rfl (by (try simp only [List.map_toArray,List.map_cons,List.map_nil]);first|done|rfl|(simp only [List.length_drop,List.length_take];rfl)) ?_;(with_reducible refine (laws_toWire.calls k a0_0 _ _ l0_1 _ _ l0_2 t190 t191 t194 _ ?side1 ?side2 ?side3 ?side4 A7.out).mono ?_);(case side1=>repeat (first|exact (C_below HR0_1.out HB.out)|(with_reducible refine C_alloc ?_ _)|(with_reducible refine C_drewN ?_ _)|(with_reducible refine C_drew ?_)));(case side2=>exact HC0_1.out);(case side3=>repeat (first|exact (C_below HR0_2.out HB.out)|(with_reducible refine C_alloc ?_ _)|(with_reducible refine C_drewN ?_ _)|(with_reducible refine C_drew ?_)));(case side4=>exact HC0_2.out);rintro e w16 ⟨v192,v195,rfl,ho0,ho1,hb⟩;refine ⟨_,rfl,?_⟩;have n0_:=Aside0.mk (R_lower ho0 (below_size (by repeat (first|(with_reducible first|exact HB.out|apply below_alloc|apply pw_below_drewN|apply below_drew1|refine below_set ?_ GE188.out)|exact HB.out))));have n1_:=Aside0.mk (R_lower ho1 (below_size (by repeat (first|(with_reducible first|exact HB.out|apply below_alloc|apply pw_below_drewN|apply below_drew1|refine below_set ?_ GE188.out)|exact HB.out))));have n2_:=Aside0.mk (blk_below (g:=gb188) (o:=.cells #[.int .i64 a0_0,.slice A0_1 l0_1.length c0_1,.slice A0_2 l0_2.length c0_2] 24 (0,0)) (by (with_reducible repeat (first|apply blk_drewN|apply blk_drew|apply blk_alloc));exact BK188.out) hb);have n3_:=Aside0.mk (below_step (by repeat (first|(with_reducible first|exact HB.out|apply below_alloc|apply pw_below_drewN|apply below_drew1|refine below_set ?_ GE188.out)|exact HB.out)) hb);clear BK188;clear HB;have HO193:=n0_;have HO196:=n1_;have BK188:=n2_;have HB:=n3_;clear n0_ n1_ n2_ n3_;(try clear hb);(try clear hb2);(try clear hk);(try clear hi);(try clear ho0);(try clear ho1);obtain ⟨Ao17,co17,eo17⟩:=R_slice HO193.out;subst eo17;obtain ⟨Ao18,co18,eo18⟩:=R_slice HO196.out;subst eo18)|((with_reducible refine gate_callee (f:=26) rfl ?_);refine goesL_ (some 22) rfl rfl Try.func26 (by kernel_rfl) rfl #[.agg #[.int .i64 t190,.slice Ao17 t191.length co17,.slice Ao18 t194.length co18]] rfl (by (try simp only [List.map_toArray,List.map_cons,List.map_nil]);first|done|rfl|(simp only [List.length_drop,List.length_take];rfl)) ?_;(with_reducible refine (spec_MirrorWire.calls k t190 _ _ t191 _ _ t194 t197 t198 t201 t204 _ ?side1 ?side2 ?side3 ?side4 A8.out).mono ?_);(case side1=>repeat (first|exact (R_reads' HO193.out).2.2|(with_reducible refine C_alloc ?_ _)|(with_reducible refine C_drewN ?_ _)|(with_reducible refine C_drew ?_)));(case side2=>exact (R_reads' HO193.out).2.1);(case side3=>repeat (first|exact (R_reads' HO196.out).2.2|(with_reducible refine C_alloc ?_ _)|(with_reducible refine C_drewN ?_ _)|(with_reducible refine C_drew ?_)));(case side4=>exact (R_reads' HO196.out).2.1);rintro e w19 ⟨v199,v202,rfl,ho0,ho1,hb⟩;refine ⟨_,rfl,?_⟩;have n0_:=Aside0.mk (R_mono (R_told (R_told (R_old (by (with_reducible repeat (first|apply R_alloc|apply R_drewN|apply R_drew));exact HO193.out) hb) (R_base ho0)) (R_base ho1)) (fun _ h_=>h_.1));have n1_:=Aside0.mk (R_mono (R_told (R_told (R_old (by (with_reducible repeat (first|apply R_alloc|apply R_drewN|apply R_drew));exact HO196.out) hb) (R_base ho0)) (R_base ho1)) (fun _ h_=>h_.1));have n2_:=Aside0.mk (R_lower (R_new' (R_new' ho0 (R_lt (by (with_reducible repeat (first|apply R_alloc|apply R_drewN|apply R_drew));exact HO193.out))) (R_lt (by (with_reducible repeat (first|apply R_alloc|apply R_drewN|apply R_drew));exact HO196.out))) (below_size (by repeat (first|(with_reducible first|exact HB.out|apply below_alloc|apply pw_below_drewN|apply below_drew1|refine below_set ?_ GE188.out)|exact HB.out))));have n3_:=Aside0.mk (R_lower (R_new' (R_new' ho1 (R_lt (by (with_reducible repeat (first|apply R_alloc|apply R_drewN|apply R_drew));exact HO193.out))) (R_lt (by (with_reducible repeat (first|apply R_alloc|apply R_drewN|apply R_drew));exact HO196.out))) (below_size (by repeat (first|(with_reducible first|exact HB.out|apply below_alloc|apply pw_below_drewN|apply below_drew1|refine below_set ?_ GE188.out)|exact HB.out))));have n4_:=Aside0.mk (blk_below (g:=gb188) (o:=.cells #[.int .i64 a0_0,.slice A0_1 l0_1.length c0_1,.slice A0_2 l0_2.length c0_2] 24 (0,0)) (by (with_reducible repeat (first|apply blk_drewN|apply blk_drew|apply blk_alloc));exact BK188.out) hb);have n5_:=Aside0.mk (below_step (by repeat (first|(with_reducible first|exact HB.out|apply below_alloc|apply pw_below_drewN|apply below_drew1|refine below_set ?_ GE188.out)|exact HB.out)) hb);clear HO193;clear HO196;clear BK188;clear HB;have HO193:=n0_;have HO196:=n1_;have HO200:=n2_;have HO203:=n3_;have BK188:=n4_;have HB:=n5_;clear n0_ n1_ n2_ n3_ n4_ n5_;(try clear hb);(try clear hb2);(try clear hk);(try clear hi);(try clear ho0);(try clear ho1))|((with_reducible refine gate_dst (N:=4) rfl ?_);refine box_event ?hg (N:=4) ?hd (cs:=#[.int .i64 0,.slice none 0 0,.slice none 0 0]) (t:=27) ?hr ?_;(case hd=>rfl);(case hg=>rfl);(case hr=>first|(go_simp;done)|(go_simp;rfl));intro gb205 hg w20 hbox hb;have n0_:=Aside0.mk (R_below (by (with_reducible repeat (first|apply R_alloc|apply R_drewN|apply R_drew));exact HO193.out) hb);have n1_:=Aside0.mk (R_below (by (with_reducible repeat (first|apply R_alloc|apply R_drewN|apply R_drew));exact HO196.out) hb);have n2_:=Aside0.mk (R_below (by (with_reducible repeat (first|apply R_alloc|apply R_drewN|apply R_drew));exact HO200.out) hb);have n3_:=Aside0.mk (R_below (by (with_reducible repeat (first|apply R_alloc|apply R_drewN|apply R_drew));exact HO203.out) hb);have n4_:=Aside0.mk (blk_below (g:=gb188) (o:=.cells #[.int .i64 a0_0,.slice A0_1 l0_1.length c0_1,.slice A0_2 l0_2.length c0_2] 24 (0,0)) (by (with_reducible repeat (first|apply blk_drewN|apply blk_drew|apply blk_alloc));exact BK188.out) hb);have n5_:=Aside0.mk (below_step (by repeat (first|(with_reducible first|exact HB.out|apply below_alloc|apply pw_below_drewN|apply below_drew1|refine below_set ?_ GE188.out)|exact HB.out)) hb);have n6_:=Aside0.mk (hbox);have n7_:=Aside0.mk ((by rw [hg];exact (below_size (by repeat (first|(with_reducible first|exact HB.out|apply below_alloc|apply pw_below_drewN|apply below_drew1|refine below_set ?_ GE188.out)|exact HB.out))) : w.heap.size ≤ gb205));have n8_:=Aside0.mk ((by rw [hg];exact (below_size (by repeat (first|(with_reducible first|exact HB.out|apply below_alloc|apply pw_below_drewN|apply below_drew1|refine below_set ?_ GE188.out)|exact HB.out))) : w.heap.size ≤ gb205));have n9_:=Aside0.mk ((by rw [hg];exact Nat.ne_of_lt (blk_lt (g:=gb188) (by (with_reducible repeat (first|apply blk_drewN|apply blk_drew|apply blk_alloc));exact BK188.out)) : gb188 ≠ gb205));have n10_:=Aside0.mk ((by rw [hg];exact Nat.ne_of_gt (blk_lt (g:=gb188) (by (with_reducible repeat (first|apply blk_drewN|apply blk_drew|apply blk_alloc));exact BK188.out)) : gb205 ≠ gb188));clear HO193;clear HO196;clear HO200;clear HO203;clear BK188;clear HB;have HO193:=n0_;have HO196:=n1_;have HO200:=n2_;have HO203:=n3_;have BK188:=n4_;have HB:=n5_;have BK205:=n6_;have GW205:=n7_;have GE205:=n8_;have NB188_205:=n9_;have NB205_188:=n10_;clear n0_ n1_ n2_ n3_ n4_ n5_ n6_ n7_ n8_ n9_ n10_;clear hb hbox hg;have hnb21:=NB205_188.out;have hnc21:=NB188_205.out;have hcz22_0 : w20.cell? ⟨gb205,0,none⟩ = some (.int .i64 0):=(blk_cell BK205.out 0).trans rfl;have hcz22_1 : w20.cell? ⟨gb205,1,none⟩ = some (.slice none 0 0):=(blk_cell BK205.out 1).trans rfl;have hcz22_2 : w20.cell? ⟨gb205,2,none⟩ = some (.slice none 0 0):=(blk_cell BK205.out 2).trans rfl;have hfz22_0:=blk_frozen BK205.out 0;have hfz22_1:=blk_frozen BK205.out 1;have hfz22_2:=blk_frozen BK205.out 2;obtain ⟨Ao23,co23,eo23⟩:=R_slice HO200.out;subst eo23;obtain ⟨Ao24,co24,eo24⟩:=R_slice HO203.out;subst eo24;have hcz25_0 : w20.cell? ⟨gb188,0,none⟩ = some (.int .i64 a0_0):=(blk_cell BK188.out 0).trans rfl;have hcz25_1 : w20.cell? ⟨gb188,1,none⟩ = some (.slice A0_1 l0_1.length c0_1):=(blk_cell BK188.out 1).trans rfl;have hcz25_2 : w20.cell? ⟨gb188,2,none⟩ = some (.slice A0_2 l0_2.length c0_2):=(blk_cell BK188.out 2).trans rfl;have hfz25_0:=blk_frozen BK188.out 0;have hfz25_1:=blk_frozen BK188.out 1;have hfz25_2:=blk_frozen BK188.out 2)|((with_reducible refine gate_callee (f:=13) rfl ?_);refine goesL_ (some 26) rfl rfl Try.func13 (by kernel_rfl) rfl #[.agg #[.int .i64 a0_0,.slice A0_1 l0_1.length c0_1,.slice A0_2 l0_2.length c0_2]] rfl (by (try simp only [List.map_toArray,List.map_cons,List.map_nil]);first|done|rfl|(simp only [List.length_drop,List.length_take];rfl)) ?_;(with_reducible refine (laws_toWire.calls k a0_0 _ _ l0_1 _ _ l0_2 t206 t207 t210 _ ?side1 ?side2 ?side3 ?side4 A9.out).mono ?_);(case side1=>exact C_below HR0_1.out (by repeat (first|(with_reducible first|exact HB.out|apply below_alloc|apply pw_below_drewN|apply below_drew1|refine below_set ?_ GE188.out|refine below_set ?_ GE205.out)|exact HB.out)));(case side2=>exact HC0_1.out);(case side3=>exact C_below HR0_2.out (by repeat (first|(with_reducible first|exact HB.out|apply below_alloc|apply pw_below_drewN|apply below_drew1|refine below_set ?_ GE188.out|refine below_set ?_ GE205.out)|exact HB.out)));(case side4=>exact HC0_2.out);rintro e w26 ⟨v208,v211,rfl,ho0,ho1,hb⟩;refine ⟨_,rfl,?_⟩;have n0_:=Aside0.mk (R_mono (R_told (R_told (R_old (by (with_reducible repeat (first|apply R_alloc|apply R_drewN|apply R_drew));exact (R_mono (R_far (p:=⟨gb205,2,none⟩) (R_far (p:=⟨gb205,1,none⟩) (R_far (p:=⟨gb205,0,none⟩) (R_types HO193.out BK205.out (by decide)) (fun _ hk=>hk.2) (.int .i64 t197)) (fun _ hk=>hk.2) (.slice Ao23 t198.length co23)) (fun _ hk=>hk.2) (.slice Ao24 t201.length co24)) (fun _ h_=>h_.1))) hb) (R_base ho0)) (R_base ho1)) (fun _ h_=>h_.1));have n1_:=Aside0.mk (R_mono (R_told (R_told (R_old (by (with_reducible repeat (first|apply R_alloc|apply R_drewN|apply R_drew));exact (R_mono (R_far (p:=⟨gb205,2,none⟩) (R_far (p:=⟨gb205,1,none⟩) (R_far (p:=⟨gb205,0,none⟩) (R_types HO196.out BK205.out (by decide)) (fun _ hk=>hk.2) (.int .i64 t197)) (fun _ hk=>hk.2) (.slice Ao23 t198.length co23)) (fun _ hk=>hk.2) (.slice Ao24 t201.length co24)) (fun _ h_=>h_.1))) hb) (R_base ho0)) (R_base ho1)) (fun _ h_=>h_.1));have n2_:=Aside0.mk (R_mono (R_told (R_told (R_old (by (with_reducible repeat (first|apply R_alloc|apply R_drewN|apply R_drew));exact (R_mono (R_far (p:=⟨gb205,2,none⟩) (R_far (p:=⟨gb205,1,none⟩) (R_far (p:=⟨gb205,0,none⟩) (R_types HO200.out BK205.out (by decide)) (fun _ hk=>hk.2) (.int .i64 t197)) (fun _ hk=>hk.2) (.slice Ao23 t198.length co23)) (fun _ hk=>hk.2) (.slice Ao24 t201.length co24)) (fun _ h_=>h_.1))) hb) (R_base ho0)) (R_base ho1)) (fun _ h_=>h_.1));have n3_:=Aside0.mk (R_mono (R_told (R_told (R_old (by (with_reducible repeat (first|apply R_alloc|apply R_drewN|apply R_drew));exact (R_mono (R_far (p:=⟨gb205,2,none⟩) (R_far (p:=⟨gb205,1,none⟩) (R_far (p:=⟨gb205,0,none⟩) (R_types HO203.out BK205.out (by decide)) (fun _ hk=>hk.2) (.int .i64 t197)) (fun _ hk=>hk.2) (.slice Ao23 t198.length co23)) (fun _ hk=>hk.2) (.slice Ao24 t201.length co24)) (fun _ h_=>h_.1))) hb) (R_base ho0)) (R_base ho1)) (fun _ h_=>h_.1));have n4_:=Aside0.mk (R_lower (R_new' (R_new' (R_new' (R_new' ho0 (R_lt (by (with_reducible repeat (first|apply R_alloc|apply R_drewN|apply R_drew));exact (R_mono (R_far (p:=⟨gb205,2,none⟩) (R_far (p:=⟨gb205,1,none⟩) (R_far (p:=⟨gb205,0,none⟩) (R_types HO193.out BK205.out (by decide)) (fun _ hk=>hk.2) (.int .i64 t197)) (fun _ hk=>hk.2) (.slice Ao23 t198.length co23)) (fun _ hk=>hk.2) (.slice Ao24 t201.length co24)) (fun _ h_=>h_.1))))) (R_lt (by (with_reducible repeat (first|apply R_alloc|apply R_drewN|apply R_drew));exact (R_mono (R_far (p:=⟨gb205,2,none⟩) (R_far (p:=⟨gb205,1,none⟩) (R_far (p:=⟨gb205,0,none⟩) (R_types HO196.out BK205.out (by decide)) (fun _ hk=>hk.2) (.int .i64 t197)) (fun _ hk=>hk.2) (.slice Ao23 t198.length co23)) (fun _ hk=>hk.2) (.slice Ao24 t201.length co24)) (fun _ h_=>h_.1))))) (R_lt (by (with_reducible repeat (first|apply R_alloc|apply R_drewN|apply R_drew));exact (R_mono (R_far (p:=⟨gb205,2,none⟩) (R_far (p:=⟨gb205,1,none⟩) (R_far (p:=⟨gb205,0,none⟩) (R_types HO200.out BK205.out (by decide)) (fun _ hk=>hk.2) (.int .i64 t197)) (fun _ hk=>hk.2) (.slice Ao23 t198.length co23)) (fun _ hk=>hk.2) (.slice Ao24 t201.length co24)) (fun _ h_=>h_.1))))) (R_lt (by (with_reducible repeat (first|apply R_alloc|apply R_drewN|apply R_drew));exact (R_mono (R_far (p:=⟨gb205,2,none⟩) (R_far (p:=⟨gb205,1,none⟩) (R_far (p:=⟨gb205,0,none⟩) (R_types HO203.out BK205.out (by decide)) (fun _ hk=>hk.2) (.int .i64 t197)) (fun _ hk=>hk.2) (.slice Ao23 t198.length co23)) (fun _ hk=>hk.2) (.slice Ao24 t201.length co24)) (fun _ h_=>h_.1))))) (below_size (by repeat (first|(with_reducible first|exact HB.out|apply below_alloc|apply pw_below_drewN|apply below_drew1|refine below_set ?_ GE188.out|refine below_set ?_ GE205.out)|exact HB.out))));have n5_:=Aside0.mk (R_lower (R_new' (R_new' (R_new' (R_new' ho1 (R_lt (by (with_reducible repeat (first|apply R_alloc|apply R_drewN|apply R_drew));exact (R_mono (R_far (p:=⟨gb205,2,none⟩) (R_far (p:=⟨gb205,1,none⟩) (R_far (p:=⟨gb205,0,none⟩) (R_types HO193.out BK205.out (by decide)) (fun _ hk=>hk.2) (.int .i64 t197)) (fun _ hk=>hk.2) (.slice Ao23 t198.length co23)) (fun _ hk=>hk.2) (.slice Ao24 t201.length co24)) (fun _ h_=>h_.1))))) (R_lt (by (with_reducible repeat (first|apply R_alloc|apply R_drewN|apply R_drew));exact (R_mono (R_far (p:=⟨gb205,2,none⟩) (R_far (p:=⟨gb205,1,none⟩) (R_far (p:=⟨gb205,0,none⟩) (R_types HO196.out BK205.out (by decide)) (fun _ hk=>hk.2) (.int .i64 t197)) (fun _ hk=>hk.2) (.slice Ao23 t198.length co23)) (fun _ hk=>hk.2) (.slice Ao24 t201.length co24)) (fun _ h_=>h_.1))))) (R_lt (by (with_reducible repeat (first|apply R_alloc|apply R_drewN|apply R_drew));exact (R_mono (R_far (p:=⟨gb205,2,none⟩) (R_far (p:=⟨gb205,1,none⟩) (R_far (p:=⟨gb205,0,none⟩) (R_types HO200.out BK205.out (by decide)) (fun _ hk=>hk.2) (.int .i64 t197)) (fun _ hk=>hk.2) (.slice Ao23 t198.length co23)) (fun _ hk=>hk.2) (.slice Ao24 t201.length co24)) (fun _ h_=>h_.1))))) (R_lt (by (with_reducible repeat (first|apply R_alloc|apply R_drewN|apply R_drew));exact (R_mono (R_far (p:=⟨gb205,2,none⟩) (R_far (p:=⟨gb205,1,none⟩) (R_far (p:=⟨gb205,0,none⟩) (R_types HO203.out BK205.out (by decide)) (fun _ hk=>hk.2) (.int .i64 t197)) (fun _ hk=>hk.2) (.slice Ao23 t198.length co23)) (fun _ hk=>hk.2) (.slice Ao24 t201.length co24)) (fun _ h_=>h_.1))))) (below_size (by repeat (first|(with_reducible first|exact HB.out|apply below_alloc|apply pw_below_drewN|apply below_drew1|refine below_set ?_ GE188.out|refine below_set ?_ GE205.out)|exact HB.out))));have n6_:=Aside0.mk (blk_below (g:=gb188) (o:=.cells #[.int .i64 a0_0,.slice A0_1 l0_1.length c0_1,.slice A0_2 l0_2.length c0_2] 24 (0,0)) (by (with_reducible repeat (first|apply blk_drewN|apply blk_drew|apply blk_alloc));refine blk_far ?_ NB188_205.out _;(with_reducible repeat (first|apply blk_drewN|apply blk_drew|apply blk_alloc));refine blk_far ?_ NB188_205.out _;(with_reducible repeat (first|apply blk_drewN|apply blk_drew|apply blk_alloc));refine blk_far ?_ NB188_205.out _;(with_reducible repeat (first|apply blk_drewN|apply blk_drew|apply blk_alloc));exact BK188.out) hb);have n7_:=Aside0.mk (blk_below (g:=gb205) (o:=.cells #[.int .i64 t197,.slice Ao23 t198.length co23,.slice Ao24 t201.length co24] 27 (0,0)) (by (with_reducible repeat (first|apply blk_drewN|apply blk_drew|apply blk_alloc));refine blk_put (cs:=#[.int .i64 t197,.slice Ao23 t198.length co23,.slice none 0 0]) ?_ 2 _ rfl;(with_reducible repeat (first|apply blk_drewN|apply blk_drew|apply blk_alloc));refine blk_put (cs:=#[.int .i64 t197,.slice none 0 0,.slice none 0 0]) ?_ 1 _ rfl;(with_reducible repeat (first|apply blk_drewN|apply blk_drew|apply blk_alloc));refine blk_put (cs:=#[.int .i64 0,.slice none 0 0,.slice none 0 0]) ?_ 0 _ rfl;(with_reducible repeat (first|apply blk_drewN|apply blk_drew|apply blk_alloc));exact BK205.out) hb);have n8_:=Aside0.mk (below_step (by repeat (first|(with_reducible first|exact HB.out|apply below_alloc|apply pw_below_drewN|apply below_drew1|refine below_set ?_ GE188.out|refine below_set ?_ GE205.out)|exact HB.out)) hb);clear HO193;clear HO196;clear HO200;clear HO203;clear BK188;clear BK205;clear HB;have HO193:=n0_;have HO196:=n1_;have HO200:=n2_;have HO203:=n3_;have HO209:=n4_;have HO212:=n5_;have BK188:=n6_;have BK205:=n7_;have HB:=n8_;clear n0_ n1_ n2_ n3_ n4_ n5_ n6_ n7_ n8_;(try clear hb);(try clear hb2);(try clear hk);(try clear hi);(try clear ho0);(try clear ho1))|((with_reducible refine gate_dst (N:=6) rfl ?_);refine box_event ?hg (N:=6) ?hd (cs:=#[.int .i64 0,.slice none 0 0,.slice none 0 0]) (t:=27) ?hr ?_;(case hd=>rfl);(case hg=>rfl);(case hr=>first|(go_simp;done)|(go_simp;rfl));intro gb213 hg w27 hbox hb;have n0_:=Aside0.mk (R_below (by (with_reducible repeat (first|apply R_alloc|apply R_drewN|apply R_drew));exact HO193.out) hb);have n1_:=Aside0.mk (R_below (by (with_reducible repeat (first|apply R_alloc|apply R_drewN|apply R_drew));exact HO196.out) hb);have n2_:=Aside0.mk (R_below (by (with_reducible repeat (first|apply R_alloc|apply R_drewN|apply R_drew));exact HO200.out) hb);have n3_:=Aside0.mk (R_below (by (with_reducible repeat (first|apply R_alloc|apply R_drewN|apply R_drew));exact HO203.out) hb);have n4_:=Aside0.mk (R_below (by (with_reducible repeat (first|apply R_alloc|apply R_drewN|apply R_drew));exact HO209.out) hb);have n5_:=Aside0.mk (R_below (by (with_reducible repeat (first|apply R_alloc|apply R_drewN|apply R_drew));exact HO212.out) hb);have n6_:=Aside0.mk (blk_below (g:=gb188) (o:=.cells #[.int .i64 a0_0,.slice A0_1 l0_1.length c0_1,.slice A0_2 l0_2.length c0_2] 24 (0,0)) (by (with_reducible repeat (first|apply blk_drewN|apply blk_drew|apply blk_alloc));exact BK188.out) hb);have n7_:=Aside0.mk (blk_below (g:=gb205) (o:=.cells #[.int .i64 t197,.slice Ao23 t198.length co23,.slice Ao24 t201.length co24] 27 (0,0)) (by (with_reducible repeat (first|apply blk_drewN|apply blk_drew|apply blk_alloc));exact BK205.out) hb);have n8_:=Aside0.mk (below_step (by repeat (first|(with_reducible first|exact HB.out|apply below_alloc|apply pw_below_drewN|apply below_drew1|refine below_set ?_ GE188.out|refine below_set ?_ GE205.out)|exact HB.out)) hb);have n9_:=Aside0.mk (hbox);have n10_:=Aside0.mk ((by rw [hg];exact (below_size (by repeat (first|(with_reducible first|exact HB.out|apply below_alloc|apply pw_below_drewN|apply below_drew1|refine below_set ?_ GE188.out|refine below_set ?_ GE205.out)|exact HB.out))) : w.heap.size ≤ gb213));have n11_:=Aside0.mk ((by rw [hg];exact (below_size (by repeat (first|(with_reducible first|exact HB.out|apply below_alloc|apply pw_below_drewN|apply below_drew1|refine below_set ?_ GE188.out|refine below_set ?_ GE205.out)|exact HB.out))) : w.heap.size ≤ gb213));have n12_:=Aside0.mk ((by rw [hg];exact Nat.ne_of_lt (blk_lt (g:=gb188) (by (with_reducible repeat (first|apply blk_drewN|apply blk_drew|apply blk_alloc));exact BK188.out)) : gb188 ≠ gb213));have n13_:=Aside0.mk ((by rw [hg];exact Nat.ne_of_gt (blk_lt (g:=gb188) (by (with_reducible repeat (first|apply blk_drewN|apply blk_drew|apply blk_alloc));exact BK188.out)) : gb213 ≠ gb188));have n14_:=Aside0.mk ((by rw [hg];exact Nat.ne_of_lt (blk_lt (g:=gb205) (by (with_reducible repeat (first|apply blk_drewN|apply blk_drew|apply blk_alloc));exact BK205.out)) : gb205 ≠ gb213));have n15_:=Aside0.mk ((by rw [hg];exact Nat.ne_of_gt (blk_lt (g:=gb205) (by (with_reducible repeat (first|apply blk_drewN|apply blk_drew|apply blk_alloc));exact BK205.out)) : gb213 ≠ gb205));clear HO193;clear HO196;clear HO200;clear HO203;clear HO209;clear HO212;clear BK188;clear BK205;clear HB;have HO193:=n0_;have HO196:=n1_;have HO200:=n2_;have HO203:=n3_;have HO209:=n4_;have HO212:=n5_;have BK188:=n6_;have BK205:=n7_;have HB:=n8_;have BK213:=n9_;have GW213:=n10_;have GE213:=n11_;have NB188_213:=n12_;have NB213_188:=n13_;have NB205_213:=n14_;have NB213_205:=n15_;clear n0_ n1_ n2_ n3_ n4_ n5_ n6_ n7_ n8_ n9_ n10_ n11_ n12_ n13_ n14_ n15_;clear hb hbox hg;have hnb28:=NB213_188.out;have hnc28:=NB188_213.out;have hnb29:=NB213_205.out;have hnc29:=NB205_213.out;have hcz30_0 : w27.cell? ⟨gb213,0,none⟩ = some (.int .i64 0):=(blk_cell BK213.out 0).trans rfl;have hcz30_1 : w27.cell? ⟨gb213,1,none⟩ = some (.slice none 0 0):=(blk_cell BK213.out 1).trans rfl;have hcz30_2 : w27.cell? ⟨gb213,2,none⟩ = some (.slice none 0 0):=(blk_cell BK213.out 2).trans rfl;have hfz30_0:=blk_frozen BK213.out 0;have hfz30_1:=blk_frozen BK213.out 1;have hfz30_2:=blk_frozen BK213.out 2;obtain ⟨Ao31,co31,eo31⟩:=R_slice HO209.out;subst eo31;obtain ⟨Ao32,co32,eo32⟩:=R_slice HO212.out;subst eo32)|((with_reducible refine gate_callee (f:=27) rfl ?_);refine goesL_ (some 29) rfl rfl Try.func27 (by kernel_rfl) rfl #[.agg #[.int .i64 t206,.slice Ao31 t207.length co31,.slice Ao32 t210.length co32]] rfl (by (try simp only [List.map_toArray,List.map_cons,List.map_nil]);first|done|rfl|(simp only [List.length_drop,List.length_take];rfl)) ?_;(with_reducible refine (impl_MirrorWire.calls k t206 _ _ t207 _ _ t210 t214 t215 t218 t221 _ ?side1 ?side2 ?side3 ?side4 A10.out).mono ?_);(case side1=>refine (R_reads' (e:=3) (base:=w.heap.size) (ok:=fun k_=>((((some k_ ≠ (.slice Ao32 t210.length co32 : Value).ownBlock ∧ some k_ ≠ (.slice Ao17 t191.length co17 : Value).ownBlock) ∧ some k_ ≠ (.slice Ao18 t194.length co18 : Value).ownBlock) ∧ some k_ ≠ (.slice Ao23 t198.length co23 : Value).ownBlock) ∧ some k_ ≠ (.slice Ao24 t201.length co24 : Value).ownBlock)) (n:=t207.length) (c:=co31) ?_).2.2;exact (by (with_reducible repeat (first|apply R_alloc|apply R_drewN|apply R_drew));exact (R_mono (R_far (p:=⟨gb213,2,none⟩) (R_far (p:=⟨gb213,1,none⟩) (R_far (p:=⟨gb213,0,none⟩) (R_types HO209.out BK213.out (by decide)) (fun _ hk=>hk.2) (.int .i64 t206)) (fun _ hk=>hk.2) (.slice Ao31 t207.length co31)) (fun _ hk=>hk.2) (.slice Ao32 t210.length co32)) (fun _ h_=>h_.1))));(case side2=>exact (R_reads' HO209.out).2.1);(case side3=>refine (R_reads' (e:=3) (base:=w.heap.size) (ok:=fun k_=>((((some k_ ≠ (.slice Ao31 t207.length co31 : Value).ownBlock ∧ some k_ ≠ (.slice Ao17 t191.length co17 : Value).ownBlock) ∧ some k_ ≠ (.slice Ao18 t194.length co18 : Value).ownBlock) ∧ some k_ ≠ (.slice Ao23 t198.length co23 : Value).ownBlock) ∧ some k_ ≠ (.slice Ao24 t201.length co24 : Value).ownBlock)) (n:=t210.length) (c:=co32) ?_).2.2;exact (by (with_reducible repeat (first|apply R_alloc|apply R_drewN|apply R_drew));exact (R_mono (R_far (p:=⟨gb213,2,none⟩) (R_far (p:=⟨gb213,1,none⟩) (R_far (p:=⟨gb213,0,none⟩) (R_types HO212.out BK213.out (by decide)) (fun _ hk=>hk.2) (.int .i64 t206)) (fun _ hk=>hk.2) (.slice Ao31 t207.length co31)) (fun _ hk=>hk.2) (.slice Ao32 t210.length co32)) (fun _ h_=>h_.1))));(case side4=>exact (R_reads' HO212.out).2.1);rintro e w33 ⟨v216,v219,rfl,ho0,ho1,hb⟩;refine ⟨_,rfl,?_⟩;have n0_:=Aside0.mk (R_mono (R_told (R_told (R_old (by (with_reducible repeat (first|apply R_alloc|apply R_drewN|apply R_drew));exact (R_mono (R_far (p:=⟨gb213,2,none⟩) (R_far (p:=⟨gb213,1,none⟩) (R_far (p:=⟨gb213,0,none⟩) (R_types HO193.out BK213.out (by decide)) (fun _ hk=>hk.2) (.int .i64 t206)) (fun _ hk=>hk.2) (.slice Ao31 t207.length co31)) (fun _ hk=>hk.2) (.slice Ao32 t210.length co32)) (fun _ h_=>h_.1))) hb) (R_base ho0)) (R_base ho1)) (fun _ h_=>h_.1));have n1_:=Aside0.mk (R_mono (R_told (R_told (R_old (by (with_reducible repeat (first|apply R_alloc|apply R_drewN|apply R_drew));exact (R_mono (R_far (p:=⟨gb213,2,none⟩) (R_far (p:=⟨gb213,1,none⟩) (R_far (p:=⟨gb213,0,none⟩) (R_types HO196.out BK213.out (by decide)) (fun _ hk=>hk.2) (.int .i64 t206)) (fun _ hk=>hk.2) (.slice Ao31 t207.length co31)) (fun _ hk=>hk.2) (.slice Ao32 t210.length co32)) (fun _ h_=>h_.1))) hb) (R_base ho0)) (R_base ho1)) (fun _ h_=>h_.1));have n2_:=Aside0.mk (R_mono (R_told (R_told (R_old (by (with_reducible repeat (first|apply R_alloc|apply R_drewN|apply R_drew));exact (R_mono (R_far (p:=⟨gb213,2,none⟩) (R_far (p:=⟨gb213,1,none⟩) (R_far (p:=⟨gb213,0,none⟩) (R_types HO200.out BK213.out (by decide)) (fun _ hk=>hk.2) (.int .i64 t206)) (fun _ hk=>hk.2) (.slice Ao31 t207.length co31)) (fun _ hk=>hk.2) (.slice Ao32 t210.length co32)) (fun _ h_=>h_.1))) hb) (R_base ho0)) (R_base ho1)) (fun _ h_=>h_.1));have n3_:=Aside0.mk (R_mono (R_told (R_told (R_old (by (with_reducible repeat (first|apply R_alloc|apply R_drewN|apply R_drew));exact (R_mono (R_far (p:=⟨gb213,2,none⟩) (R_far (p:=⟨gb213,1,none⟩) (R_far (p:=⟨gb213,0,none⟩) (R_types HO203.out BK213.out (by decide)) (fun _ hk=>hk.2) (.int .i64 t206)) (fun _ hk=>hk.2) (.slice Ao31 t207.length co31)) (fun _ hk=>hk.2) (.slice Ao32 t210.length co32)) (fun _ h_=>h_.1))) hb) (R_base ho0)) (R_base ho1)) (fun _ h_=>h_.1));have n4_:=Aside0.mk (R_mono (R_told (R_told (R_old (by (with_reducible repeat (first|apply R_alloc|apply R_drewN|apply R_drew));exact (R_mono (R_far (p:=⟨gb213,2,none⟩) (R_far (p:=⟨gb213,1,none⟩) (R_far (p:=⟨gb213,0,none⟩) (R_types HO209.out BK213.out (by decide)) (fun _ hk=>hk.2) (.int .i64 t206)) (fun _ hk=>hk.2) (.slice Ao31 t207.length co31)) (fun _ hk=>hk.2) (.slice Ao32 t210.length co32)) (fun _ h_=>h_.1))) hb) (R_base ho0)) (R_base ho1)) (fun _ h_=>h_.1));have n5_:=Aside0.mk (R_mono (R_told (R_told (R_old (by (with_reducible repeat (first|apply R_alloc|apply R_drewN|apply R_drew));exact (R_mono (R_far (p:=⟨gb213,2,none⟩) (R_far (p:=⟨gb213,1,none⟩) (R_far (p:=⟨gb213,0,none⟩) (R_types HO212.out BK213.out (by decide)) (fun _ hk=>hk.2) (.int .i64 t206)) (fun _ hk=>hk.2) (.slice Ao31 t207.length co31)) (fun _ hk=>hk.2) (.slice Ao32 t210.length co32)) (fun _ h_=>h_.1))) hb) (R_base ho0)) (R_base ho1)) (fun _ h_=>h_.1));have n6_:=Aside0.mk (R_lower (R_new' (R_new' (R_new' (R_new' (R_new' (R_new' ho0 (R_lt (by (with_reducible repeat (first|apply R_alloc|apply R_drewN|apply R_drew));exact (R_mono (R_far (p:=⟨gb213,2,none⟩) (R_far (p:=⟨gb213,1,none⟩) (R_far (p:=⟨gb213,0,none⟩) (R_types HO193.out BK213.out (by decide)) (fun _ hk=>hk.2) (.int .i64 t206)) (fun _ hk=>hk.2) (.slice Ao31 t207.length co31)) (fun _ hk=>hk.2) (.slice Ao32 t210.length co32)) (fun _ h_=>h_.1))))) (R_lt (by (with_reducible repeat (first|apply R_alloc|apply R_drewN|apply R_drew));exact (R_mono (R_far (p:=⟨gb213,2,none⟩) (R_far (p:=⟨gb213,1,none⟩) (R_far (p:=⟨gb213,0,none⟩) (R_types HO196.out BK213.out (by decide)) (fun _ hk=>hk.2) (.int .i64 t206)) (fun _ hk=>hk.2) (.slice Ao31 t207.length co31)) (fun _ hk=>hk.2) (.slice Ao32 t210.length co32)) (fun _ h_=>h_.1))))) (R_lt (by (with_reducible repeat (first|apply R_alloc|apply R_drewN|apply R_drew));exact (R_mono (R_far (p:=⟨gb213,2,none⟩) (R_far (p:=⟨gb213,1,none⟩) (R_far (p:=⟨gb213,0,none⟩) (R_types HO200.out BK213.out (by decide)) (fun _ hk=>hk.2) (.int .i64 t206)) (fun _ hk=>hk.2) (.slice Ao31 t207.length co31)) (fun _ hk=>hk.2) (.slice Ao32 t210.length co32)) (fun _ h_=>h_.1))))) (R_lt (by (with_reducible repeat (first|apply R_alloc|apply R_drewN|apply R_drew));exact (R_mono (R_far (p:=⟨gb213,2,none⟩) (R_far (p:=⟨gb213,1,none⟩) (R_far (p:=⟨gb213,0,none⟩) (R_types HO203.out BK213.out (by decide)) (fun _ hk=>hk.2) (.int .i64 t206)) (fun _ hk=>hk.2) (.slice Ao31 t207.length co31)) (fun _ hk=>hk.2) (.slice Ao32 t210.length co32)) (fun _ h_=>h_.1))))) (R_lt (by (with_reducible repeat (first|apply R_alloc|apply R_drewN|apply R_drew));exact (R_mono (R_far (p:=⟨gb213,2,none⟩) (R_far (p:=⟨gb213,1,none⟩) (R_far (p:=⟨gb213,0,none⟩) (R_types HO209.out BK213.out (by decide)) (fun _ hk=>hk.2) (.int .i64 t206)) (fun _ hk=>hk.2) (.slice Ao31 t207.length co31)) (fun _ hk=>hk.2) (.slice Ao32 t210.length co32)) (fun _ h_=>h_.1))))) (R_lt (by (with_reducible repeat (first|apply R_alloc|apply R_drewN|apply R_drew));exact (R_mono (R_far (p:=⟨gb213,2,none⟩) (R_far (p:=⟨gb213,1,none⟩) (R_far (p:=⟨gb213,0,none⟩) (R_types HO212.out BK213.out (by decide)) (fun _ hk=>hk.2) (.int .i64 t206)) (fun _ hk=>hk.2) (.slice Ao31 t207.length co31)) (fun _ hk=>hk.2) (.slice Ao32 t210.length co32)) (fun _ h_=>h_.1))))) (below_size (by repeat (first|(with_reducible first|exact HB.out|apply below_alloc|apply pw_below_drewN|apply below_drew1|refine below_set ?_ GE188.out|refine below_set ?_ GE205.out|refine below_set ?_ GE213.out)|exact HB.out))));have n7_:=Aside0.mk (R_lower (R_new' (R_new' (R_new' (R_new' (R_new' (R_new' ho1 (R_lt (by (with_reducible repeat (first|apply R_alloc|apply R_drewN|apply R_drew));exact (R_mono (R_far (p:=⟨gb213,2,none⟩) (R_far (p:=⟨gb213,1,none⟩) (R_far (p:=⟨gb213,0,none⟩) (R_types HO193.out BK213.out (by decide)) (fun _ hk=>hk.2) (.int .i64 t206)) (fun _ hk=>hk.2) (.slice Ao31 t207.length co31)) (fun _ hk=>hk.2) (.slice Ao32 t210.length co32)) (fun _ h_=>h_.1))))) (R_lt (by (with_reducible repeat (first|apply R_alloc|apply R_drewN|apply R_drew));exact (R_mono (R_far (p:=⟨gb213,2,none⟩) (R_far (p:=⟨gb213,1,none⟩) (R_far (p:=⟨gb213,0,none⟩) (R_types HO196.out BK213.out (by decide)) (fun _ hk=>hk.2) (.int .i64 t206)) (fun _ hk=>hk.2) (.slice Ao31 t207.length co31)) (fun _ hk=>hk.2) (.slice Ao32 t210.length co32)) (fun _ h_=>h_.1))))) (R_lt (by (with_reducible repeat (first|apply R_alloc|apply R_drewN|apply R_drew));exact (R_mono (R_far (p:=⟨gb213,2,none⟩) (R_far (p:=⟨gb213,1,none⟩) (R_far (p:=⟨gb213,0,none⟩) (R_types HO200.out BK213.out (by decide)) (fun _ hk=>hk.2) (.int .i64 t206)) (fun _ hk=>hk.2) (.slice Ao31 t207.length co31)) (fun _ hk=>hk.2) (.slice Ao32 t210.length co32)) (fun _ h_=>h_.1))))) (R_lt (by (with_reducible repeat (first|apply R_alloc|apply R_drewN|apply R_drew));exact (R_mono (R_far (p:=⟨gb213,2,none⟩) (R_far (p:=⟨gb213,1,none⟩) (R_far (p:=⟨gb213,0,none⟩) (R_types HO203.out BK213.out (by decide)) (fun _ hk=>hk.2) (.int .i64 t206)) (fun _ hk=>hk.2) (.slice Ao31 t207.length co31)) (fun _ hk=>hk.2) (.slice Ao32 t210.length co32)) (fun _ h_=>h_.1))))) (R_lt (by (with_reducible repeat (first|apply R_alloc|apply R_drewN|apply R_drew));exact (R_mono (R_far (p:=⟨gb213,2,none⟩) (R_far (p:=⟨gb213,1,none⟩) (R_far (p:=⟨gb213,0,none⟩) (R_types HO209.out BK213.out (by decide)) (fun _ hk=>hk.2) (.int .i64 t206)) (fun _ hk=>hk.2) (.slice Ao31 t207.length co31)) (fun _ hk=>hk.2) (.slice Ao32 t210.length co32)) (fun _ h_=>h_.1))))) (R_lt (by (with_reducible repeat (first|apply R_alloc|apply R_drewN|apply R_drew));exact (R_mono (R_far (p:=⟨gb213,2,none⟩) (R_far (p:=⟨gb213,1,none⟩) (R_far (p:=⟨gb213,0,none⟩) (R_types HO212.out BK213.out (by decide)) (fun _ hk=>hk.2) (.int .i64 t206)) (fun _ hk=>hk.2) (.slice Ao31 t207.length co31)) (fun _ hk=>hk.2) (.slice Ao32 t210.length co32)) (fun _ h_=>h_.1))))) (below_size (by repeat (first|(with_reducible first|exact HB.out|apply below_alloc|apply pw_below_drewN|apply below_drew1|refine below_set ?_ GE188.out|refine below_set ?_ GE205.out|refine below_set ?_ GE213.out)|exact HB.out))));have n8_:=Aside0.mk (blk_below (g:=gb188) (o:=.cells #[.int .i64 a0_0,.slice A0_1 l0_1.length c0_1,.slice A0_2 l0_2.length c0_2] 24 (0,0)) (by (with_reducible repeat (first|apply blk_drewN|apply blk_drew|apply blk_alloc));refine blk_far ?_ NB188_213.out _;(with_reducible repeat (first|apply blk_drewN|apply blk_drew|apply blk_alloc));refine blk_far ?_ NB188_213.out _;(with_reducible repeat (first|apply blk_drewN|apply blk_drew|apply blk_alloc));refine blk_far ?_ NB188_213.out _;(with_reducible repeat (first|apply blk_drewN|apply blk_drew|apply blk_alloc));exact BK188.out) hb);have n9_:=Aside0.mk (blk_below (g:=gb205) (o:=.cells #[.int .i64 t197,.slice Ao23 t198.length co23,.slice Ao24 t201.length co24] 27 (0,0)) (by (with_reducible repeat (first|apply blk_drewN|apply blk_drew|apply blk_alloc));refine blk_far ?_ NB205_213.out _;(with_reducible repeat (first|apply blk_drewN|apply blk_drew|apply blk_alloc));refine blk_far ?_ NB205_213.out _;(with_reducible repeat (first|apply blk_drewN|apply blk_drew|apply blk_alloc));refine blk_far ?_ NB205_213.out _;(with_reducible repeat (first|apply blk_drewN|apply blk_drew|apply blk_alloc));exact BK205.out) hb);have n10_:=Aside0.mk (blk_below (g:=gb213) (o:=.cells #[.int .i64 t206,.slice Ao31 t207.length co31,.slice Ao32 t210.length co32] 27 (0,0)) (by (with_reducible repeat (first|apply blk_drewN|apply blk_drew|apply blk_alloc));refine blk_put (cs:=#[.int .i64 t206,.slice Ao31 t207.length co31,.slice none 0 0]) ?_ 2 _ rfl;(with_reducible repeat (first|apply blk_drewN|apply blk_drew|apply blk_alloc));refine blk_put (cs:=#[.int .i64 t206,.slice none 0 0,.slice none 0 0]) ?_ 1 _ rfl;(with_reducible repeat (first|apply blk_drewN|apply blk_drew|apply blk_alloc));refine blk_put (cs:=#[.int .i64 0,.slice none 0 0,.slice none 0 0]) ?_ 0 _ rfl;(with_reducible repeat (first|apply blk_drewN|apply blk_drew|apply blk_alloc));exact BK213.out) hb);have n11_:=Aside0.mk (below_step (by repeat (first|(with_reducible first|exact HB.out|apply below_alloc|apply pw_below_drewN|apply below_drew1|refine below_set ?_ GE188.out|refine below_set ?_ GE205.out|refine below_set ?_ GE213.out)|exact HB.out)) hb);clear HO193;clear HO196;clear HO200;clear HO203;clear HO209;clear HO212;clear BK188;clear BK205;clear BK213;clear HB;have HO193:=n0_;have HO196:=n1_;have HO200:=n2_;have HO203:=n3_;have HO209:=n4_;have HO212:=n5_;have HO217:=n6_;have HO220:=n7_;have BK188:=n8_;have BK205:=n9_;have BK213:=n10_;have HB:=n11_;clear n0_ n1_ n2_ n3_ n4_ n5_ n6_ n7_ n8_ n9_ n10_ n11_;(try clear hb);(try clear hb2);(try clear hk);(try clear hi);(try clear ho0);(try clear ho1))|((with_reducible refine gate_dst (N:=7) rfl ?_);refine box_event ?hg (N:=7) ?hd (cs:=#[.int .i64 0,.slice none 0 0,.slice none 0 0]) (t:=27) ?hr ?_;(case hd=>rfl);(case hg=>rfl);(case hr=>first|(go_simp;done)|(go_simp;rfl));intro gb222 hg w34 hbox hb;have n0_:=Aside0.mk (R_below (by (with_reducible repeat (first|apply R_alloc|apply R_drewN|apply R_drew));exact HO193.out) hb);have n1_:=Aside0.mk (R_below (by (with_reducible repeat (first|apply R_alloc|apply R_drewN|apply R_drew));exact HO196.out) hb);have n2_:=Aside0.mk (R_below (by (with_reducible repeat (first|apply R_alloc|apply R_drewN|apply R_drew));exact HO200.out) hb);have n3_:=Aside0.mk (R_below (by (with_reducible repeat (first|apply R_alloc|apply R_drewN|apply R_drew));exact HO203.out) hb);have n4_:=Aside0.mk (R_below (by (with_reducible repeat (first|apply R_alloc|apply R_drewN|apply R_drew));exact HO209.out) hb);have n5_:=Aside0.mk (R_below (by (with_reducible repeat (first|apply R_alloc|apply R_drewN|apply R_drew));exact HO212.out) hb);have n6_:=Aside0.mk (R_below (by (with_reducible repeat (first|apply R_alloc|apply R_drewN|apply R_drew));exact HO217.out) hb);have n7_:=Aside0.mk (R_below (by (with_reducible repeat (first|apply R_alloc|apply R_drewN|apply R_drew));exact HO220.out) hb);have n8_:=Aside0.mk (blk_below (g:=gb188) (o:=.cells #[.int .i64 a0_0,.slice A0_1 l0_1.length c0_1,.slice A0_2 l0_2.length c0_2] 24 (0,0)) (by (with_reducible repeat (first|apply blk_drewN|apply blk_drew|apply blk_alloc));exact BK188.out) hb);have n9_:=Aside0.mk (blk_below (g:=gb205) (o:=.cells #[.int .i64 t197,.slice Ao23 t198.length co23,.slice Ao24 t201.length co24] 27 (0,0)) (by (with_reducible repeat (first|apply blk_drewN|apply blk_drew|apply blk_alloc));exact BK205.out) hb);have n10_:=Aside0.mk (blk_below (g:=gb213) (o:=.cells #[.int .i64 t206,.slice Ao31 t207.length co31,.slice Ao32 t210.length co32] 27 (0,0)) (by (with_reducible repeat (first|apply blk_drewN|apply blk_drew|apply blk_alloc));exact BK213.out) hb);have n11_:=Aside0.mk (below_step (by repeat (first|(with_reducible first|exact HB.out|apply below_alloc|apply pw_below_drewN|apply below_drew1|refine below_set ?_ GE188.out|refine below_set ?_ GE205.out|refine below_set ?_ GE213.out)|exact HB.out)) hb);have n12_:=Aside0.mk (hbox);have n13_:=Aside0.mk ((by rw [hg];exact (below_size (by repeat (first|(with_reducible first|exact HB.out|apply below_alloc|apply pw_below_drewN|apply below_drew1|refine below_set ?_ GE188.out|refine below_set ?_ GE205.out|refine below_set ?_ GE213.out)|exact HB.out))) : w.heap.size ≤ gb222));have n14_:=Aside0.mk ((by rw [hg];exact (below_size (by repeat (first|(with_reducible first|exact HB.out|apply below_alloc|apply pw_below_drewN|apply below_drew1|refine below_set ?_ GE188.out|refine below_set ?_ GE205.out|refine below_set ?_ GE213.out)|exact HB.out))) : w.heap.size ≤ gb222));have n15_:=Aside0.mk ((by rw [hg];exact Nat.ne_of_lt (blk_lt (g:=gb188) (by (with_reducible repeat (first|apply blk_drewN|apply blk_drew|apply blk_alloc));exact BK188.out)) : gb188 ≠ gb222));have n16_:=Aside0.mk ((by rw [hg];exact Nat.ne_of_gt (blk_lt (g:=gb188) (by (with_reducible repeat (first|apply blk_drewN|apply blk_drew|apply blk_alloc));exact BK188.out)) : gb222 ≠ gb188));have n17_:=Aside0.mk ((by rw [hg];exact Nat.ne_of_lt (blk_lt (g:=gb205) (by (with_reducible repeat (first|apply blk_drewN|apply blk_drew|apply blk_alloc));exact BK205.out)) : gb205 ≠ gb222));have n18_:=Aside0.mk ((by rw [hg];exact Nat.ne_of_gt (blk_lt (g:=gb205) (by (with_reducible repeat (first|apply blk_drewN|apply blk_drew|apply blk_alloc));exact BK205.out)) : gb222 ≠ gb205));have n19_:=Aside0.mk ((by rw [hg];exact Nat.ne_of_lt (blk_lt (g:=gb213) (by (with_reducible repeat (first|apply blk_drewN|apply blk_drew|apply blk_alloc));exact BK213.out)) : gb213 ≠ gb222));have n20_:=Aside0.mk ((by rw [hg];exact Nat.ne_of_gt (blk_lt (g:=gb213) (by (with_reducible repeat (first|apply blk_drewN|apply blk_drew|apply blk_alloc));exact BK213.out)) : gb222 ≠ gb213));clear HO193;clear HO196;clear HO200;clear HO203;clear HO209;clear HO212;clear HO217;clear HO220;clear BK188;clear BK205;clear BK213;clear HB;have HO193:=n0_;have HO196:=n1_;have HO200:=n2_;have HO203:=n3_;have HO209:=n4_;have HO212:=n5_;have HO217:=n6_;have HO220:=n7_;have BK188:=n8_;have BK205:=n9_;have BK213:=n10_;have HB:=n11_;have BK222:=n12_;have GW222:=n13_;have GE222:=n14_;have NB188_222:=n15_;have NB222_188:=n16_;have NB205_222:=n17_;have NB222_205:=n18_;have NB213_222:=n19_;have NB222_213:=n20_;clear n0_ n1_ n2_ n3_ n4_ n5_ n6_ n7_ n8_ n9_ n10_ n11_ n12_ n13_ n14_ n15_ n16_ n17_ n18_ n19_ n20_;clear hb hbox hg;have hnb35:=NB222_188.out;have hnc35:=NB188_222.out;have hnb36:=NB222_205.out;have hnc36:=NB205_222.out;have hnb37:=NB222_213.out;have hnc37:=NB213_222.out;have hcz38_0 : w34.cell? ⟨gb222,0,none⟩ = some (.int .i64 0):=(blk_cell BK222.out 0).trans rfl;have hcz38_1 : w34.cell? ⟨gb222,1,none⟩ = some (.slice none 0 0):=(blk_cell BK222.out 1).trans rfl;have hcz38_2 : w34.cell? ⟨gb222,2,none⟩ = some (.slice none 0 0):=(blk_cell BK222.out 2).trans rfl;have hfz38_0:=blk_frozen BK222.out 0;have hfz38_1:=blk_frozen BK222.out 1;have hfz38_2:=blk_frozen BK222.out 2;obtain ⟨Ao39,co39,eo39⟩:=R_slice HO217.out;subst eo39;obtain ⟨Ao40,co40,eo40⟩:=R_slice HO220.out;subst eo40))
 (try simp only [Act.put,List.setIfInBounds_toArray,List.set_cons_zero,List.set_cons_succ])
 go_cut [40] (fun v40 wc=>∃ (kq : Nat) (x40_10 : Bool),v40 = .bool x40_10 ∧ Aside0 (laws_FnExactMirrorWire.j0 kq t204 t221 x40_10 a0_0 l0_1 l0_2 t197 t198 t201 t206 t207 t210 t214 t215 t218 = some r) ∧ Aside0 (kq ≤ k) ∧ Aside0 (Kd.R (Kd.int .i64) 3 wc w.heap.size (fun k_=>some k_ ≠ ((.slice Ao24 t201.length co24) : Value).ownBlock ∧ some k_ ≠ ((.slice Ao31 t207.length co31) : Value).ownBlock ∧ some k_ ≠ ((.slice Ao32 t210.length co32) : Value).ownBlock ∧ some k_ ≠ ((.slice Ao39 t215.length co39) : Value).ownBlock ∧ some k_ ≠ ((.slice Ao40 t218.length co40) : Value).ownBlock) (.slice Ao23 t198.length co23) t198) ∧ Aside0 (Kd.R (Kd.int .i64) 3 wc w.heap.size (fun k_=>some k_ ≠ ((.slice Ao23 t198.length co23) : Value).ownBlock ∧ some k_ ≠ ((.slice Ao31 t207.length co31) : Value).ownBlock ∧ some k_ ≠ ((.slice Ao32 t210.length co32) : Value).ownBlock ∧ some k_ ≠ ((.slice Ao39 t215.length co39) : Value).ownBlock ∧ some k_ ≠ ((.slice Ao40 t218.length co40) : Value).ownBlock) (.slice Ao24 t201.length co24) t201) ∧ Aside0 (Kd.R (Kd.int .i64) 3 wc w.heap.size (fun k_=>some k_ ≠ ((.slice Ao23 t198.length co23) : Value).ownBlock ∧ some k_ ≠ ((.slice Ao24 t201.length co24) : Value).ownBlock ∧ some k_ ≠ ((.slice Ao32 t210.length co32) : Value).ownBlock ∧ some k_ ≠ ((.slice Ao39 t215.length co39) : Value).ownBlock ∧ some k_ ≠ ((.slice Ao40 t218.length co40) : Value).ownBlock) (.slice Ao31 t207.length co31) t207) ∧ Aside0 (Kd.R (Kd.int .i64) 3 wc w.heap.size (fun k_=>some k_ ≠ ((.slice Ao23 t198.length co23) : Value).ownBlock ∧ some k_ ≠ ((.slice Ao24 t201.length co24) : Value).ownBlock ∧ some k_ ≠ ((.slice Ao31 t207.length co31) : Value).ownBlock ∧ some k_ ≠ ((.slice Ao39 t215.length co39) : Value).ownBlock ∧ some k_ ≠ ((.slice Ao40 t218.length co40) : Value).ownBlock) (.slice Ao32 t210.length co32) t210) ∧ Aside0 (Kd.R (Kd.int .i64) 3 wc w.heap.size (fun k_=>some k_ ≠ ((.slice Ao23 t198.length co23) : Value).ownBlock ∧ some k_ ≠ ((.slice Ao24 t201.length co24) : Value).ownBlock ∧ some k_ ≠ ((.slice Ao31 t207.length co31) : Value).ownBlock ∧ some k_ ≠ ((.slice Ao32 t210.length co32) : Value).ownBlock ∧ some k_ ≠ ((.slice Ao40 t218.length co40) : Value).ownBlock) (.slice Ao39 t215.length co39) t215) ∧ Aside0 (Kd.R (Kd.int .i64) 3 wc w.heap.size (fun k_=>some k_ ≠ ((.slice Ao23 t198.length co23) : Value).ownBlock ∧ some k_ ≠ ((.slice Ao24 t201.length co24) : Value).ownBlock ∧ some k_ ≠ ((.slice Ao31 t207.length co31) : Value).ownBlock ∧ some k_ ≠ ((.slice Ao32 t210.length co32) : Value).ownBlock ∧ some k_ ≠ ((.slice Ao39 t215.length co39) : Value).ownBlock) (.slice Ao40 t218.length co40) t218) ∧ Aside0 (wc.heap[gb188]? = some (.cells #[.int .i64 a0_0,(.slice A0_1 l0_1.length c0_1),(.slice A0_2 l0_2.length c0_2)] 24 (0,0))) ∧ Aside0 (wc.heap[gb205]? = some (.cells #[.int .i64 t197,(.slice Ao23 t198.length co23),(.slice Ao24 t201.length co24)] 27 (0,0))) ∧ Aside0 (wc.heap[gb213]? = some (.cells #[.int .i64 t206,(.slice Ao31 t207.length co31),(.slice Ao32 t210.length co32)] 27 (0,0))) ∧ Aside0 (wc.heap[gb222]? = some (.cells #[.int .i64 t214,(.slice Ao39 t215.length co39),(.slice Ao40 t218.length co40)] 27 (0,0))) ∧ Aside0 (Below w.heap.size w wc))
 case first =>
  have H:=HC11.out
  clear HC11
  replace H:=Option.bind_eq_some_iff.mp H
  obtain ⟨t223,A410,H⟩:=H
  replace H : (if t223 = true then (laws_FnExactMirrorWire.j0 k t204 t221 (t221 != t204) a0_0 l0_1 l0_2 t197 t198 t201 t206 t207 t210 t214 t215 t218) else (laws_FnExactMirrorWire.j0 k t204 t221 true a0_0 l0_1 l0_2 t197 t198 t201 t206 t207 t210 t214 t215 t218)) = some r:=H
  have A41:=Aside0.mk A410
  clear A410
  by_cases c42 : t223 = true
  ·subst c42
   have H1 : (laws_FnExactMirrorWire.j0 k t204 t221 (t221 != t204) a0_0 l0_1 l0_2 t197 t198 t201 t206 t207 t210 t214 t215 t218) = some r:=by rw [if_pos rfl] at H;exact H
   clear H
   have H:=H1
   clear H1
   have H':=Aside0.mk H
   clear H
   have hnb43:=NB222_188.out
   have hnc43:=NB188_222.out
   have hnb44:=NB222_205.out
   have hnc44:=NB205_222.out
   have hnb45:=NB222_213.out
   have hnc45:=NB213_222.out
   have hcz46_0 : w34.cell? ⟨gb222,0,none⟩ = some (.int .i64 0):=(blk_cell BK222.out 0).trans rfl
   have hcz46_1 : w34.cell? ⟨gb222,1,none⟩ = some (.slice none 0 0):=(blk_cell BK222.out 1).trans rfl
   have hcz46_2 : w34.cell? ⟨gb222,2,none⟩ = some (.slice none 0 0):=(blk_cell BK222.out 2).trans rfl
   have hfz46_0:=blk_frozen BK222.out 0
   have hfz46_1:=blk_frozen BK222.out 1
   have hfz46_2:=blk_frozen BK222.out 2
   have hnb47:=NB205_188.out
   have hnc47:=NB188_205.out
   have hnb48:=NB205_213.out
   have hnc48:=NB213_205.out
   have hcz49_0 : w34.cell? ⟨gb205,0,none⟩ = some (.int .i64 t197):=(blk_cell BK205.out 0).trans rfl
   have hcz49_1 : w34.cell? ⟨gb205,1,none⟩ = some (.slice Ao23 t198.length co23):=(blk_cell BK205.out 1).trans rfl
   have hcz49_2 : w34.cell? ⟨gb205,2,none⟩ = some (.slice Ao24 t201.length co24):=(blk_cell BK205.out 2).trans rfl
   have hfz49_0:=blk_frozen BK205.out 0
   have hfz49_1:=blk_frozen BK205.out 1
   have hfz49_2:=blk_frozen BK205.out 2
   go_wp2_with (first|((with_reducible refine gate_callee (f:=15) rfl ?_);refine goesL_ (some 34) rfl rfl Try.func15 (by kernel_rfl) rfl #[.agg #[.int .i64 t214,.slice Ao39 t215.length co39,.slice Ao40 t218.length co40],.agg #[.int .i64 t197,.slice Ao23 t198.length co23,.slice Ao24 t201.length co24]] rfl (by (try simp only [List.map_toArray,List.map_cons,List.map_nil]);first|done|rfl|(simp only [List.length_drop,List.length_take];rfl)) ?_;(with_reducible refine (laws_eqWire.calls k t214 _ _ t215 _ _ t218 t197 _ _ t198 _ _ t201 true _ ?side1 ?side2 ?side3 ?side4 ?side5 ?side6 ?side7 ?side8 A41.out).mono ?_);(case side1=>refine (R_reads' (e:=3) (base:=w.heap.size) (ok:=fun k_=>((((((some k_ ≠ (.slice Ao40 t218.length co40 : Value).ownBlock ∧ some k_ ≠ (.slice Ao17 t191.length co17 : Value).ownBlock) ∧ some k_ ≠ (.slice Ao18 t194.length co18 : Value).ownBlock) ∧ some k_ ≠ (.slice Ao23 t198.length co23 : Value).ownBlock) ∧ some k_ ≠ (.slice Ao24 t201.length co24 : Value).ownBlock) ∧ some k_ ≠ (.slice Ao31 t207.length co31 : Value).ownBlock) ∧ some k_ ≠ (.slice Ao32 t210.length co32 : Value).ownBlock)) (n:=t215.length) (c:=co39) ?_).2.2;exact (by (with_reducible repeat (first|apply R_alloc|apply R_drewN|apply R_drew));exact (R_mono (R_far (p:=⟨gb222,2,none⟩) (R_far (p:=⟨gb222,1,none⟩) (R_far (p:=⟨gb222,0,none⟩) (R_types HO217.out BK222.out (by decide)) (fun _ hk=>hk.2) (.int .i64 t214)) (fun _ hk=>hk.2) (.slice Ao39 t215.length co39)) (fun _ hk=>hk.2) (.slice Ao40 t218.length co40)) (fun _ h_=>h_.1))));(case side2=>exact (R_reads' HO217.out).2.1);(case side3=>refine (R_reads' (e:=3) (base:=w.heap.size) (ok:=fun k_=>((((((some k_ ≠ (.slice Ao39 t215.length co39 : Value).ownBlock ∧ some k_ ≠ (.slice Ao17 t191.length co17 : Value).ownBlock) ∧ some k_ ≠ (.slice Ao18 t194.length co18 : Value).ownBlock) ∧ some k_ ≠ (.slice Ao23 t198.length co23 : Value).ownBlock) ∧ some k_ ≠ (.slice Ao24 t201.length co24 : Value).ownBlock) ∧ some k_ ≠ (.slice Ao31 t207.length co31 : Value).ownBlock) ∧ some k_ ≠ (.slice Ao32 t210.length co32 : Value).ownBlock)) (n:=t218.length) (c:=co40) ?_).2.2;exact (by (with_reducible repeat (first|apply R_alloc|apply R_drewN|apply R_drew));exact (R_mono (R_far (p:=⟨gb222,2,none⟩) (R_far (p:=⟨gb222,1,none⟩) (R_far (p:=⟨gb222,0,none⟩) (R_types HO220.out BK222.out (by decide)) (fun _ hk=>hk.2) (.int .i64 t214)) (fun _ hk=>hk.2) (.slice Ao39 t215.length co39)) (fun _ hk=>hk.2) (.slice Ao40 t218.length co40)) (fun _ h_=>h_.1))));(case side4=>exact (R_reads' HO220.out).2.1);(case side5=>refine (R_reads' (e:=3) (base:=w.heap.size) (ok:=fun k_=>((((((some k_ ≠ (.slice Ao24 t201.length co24 : Value).ownBlock ∧ some k_ ≠ (.slice Ao17 t191.length co17 : Value).ownBlock) ∧ some k_ ≠ (.slice Ao18 t194.length co18 : Value).ownBlock) ∧ some k_ ≠ (.slice Ao31 t207.length co31 : Value).ownBlock) ∧ some k_ ≠ (.slice Ao32 t210.length co32 : Value).ownBlock) ∧ some k_ ≠ (.slice Ao39 t215.length co39 : Value).ownBlock) ∧ some k_ ≠ (.slice Ao40 t218.length co40 : Value).ownBlock)) (n:=t198.length) (c:=co23) ?_).2.2;exact (by (with_reducible repeat (first|apply R_alloc|apply R_drewN|apply R_drew));exact (R_mono (R_far (p:=⟨gb222,2,none⟩) (R_far (p:=⟨gb222,1,none⟩) (R_far (p:=⟨gb222,0,none⟩) (R_types HO200.out BK222.out (by decide)) (fun _ hk=>hk.2) (.int .i64 t214)) (fun _ hk=>hk.2) (.slice Ao39 t215.length co39)) (fun _ hk=>hk.2) (.slice Ao40 t218.length co40)) (fun _ h_=>h_.1))));(case side6=>exact (R_reads' HO200.out).2.1);(case side7=>refine (R_reads' (e:=3) (base:=w.heap.size) (ok:=fun k_=>((((((some k_ ≠ (.slice Ao23 t198.length co23 : Value).ownBlock ∧ some k_ ≠ (.slice Ao17 t191.length co17 : Value).ownBlock) ∧ some k_ ≠ (.slice Ao18 t194.length co18 : Value).ownBlock) ∧ some k_ ≠ (.slice Ao31 t207.length co31 : Value).ownBlock) ∧ some k_ ≠ (.slice Ao32 t210.length co32 : Value).ownBlock) ∧ some k_ ≠ (.slice Ao39 t215.length co39 : Value).ownBlock) ∧ some k_ ≠ (.slice Ao40 t218.length co40 : Value).ownBlock)) (n:=t201.length) (c:=co24) ?_).2.2;exact (by (with_reducible repeat (first|apply R_alloc|apply R_drewN|apply R_drew));exact (R_mono (R_far (p:=⟨gb222,2,none⟩) (R_far (p:=⟨gb222,1,none⟩) (R_far (p:=⟨gb222,0,none⟩) (R_types HO203.out BK222.out (by decide)) (fun _ hk=>hk.2) (.int .i64 t214)) (fun _ hk=>hk.2) (.slice Ao39 t215.length co39)) (fun _ hk=>hk.2) (.slice Ao40 t218.length co40)) (fun _ h_=>h_.1))));(case side8=>exact (R_reads' HO203.out).2.1);rintro e w50 ⟨rfl,hb⟩;refine ⟨_,rfl,?_⟩;have n0_:=Aside0.mk (R_below (by (with_reducible repeat (first|apply R_alloc|apply R_drewN|apply R_drew));exact (R_mono (R_far (p:=⟨gb222,2,none⟩) (R_far (p:=⟨gb222,1,none⟩) (R_far (p:=⟨gb222,0,none⟩) (R_types HO193.out BK222.out (by decide)) (fun _ hk=>hk.2) (.int .i64 t214)) (fun _ hk=>hk.2) (.slice Ao39 t215.length co39)) (fun _ hk=>hk.2) (.slice Ao40 t218.length co40)) (fun _ h_=>h_.1))) hb);have n1_:=Aside0.mk (R_below (by (with_reducible repeat (first|apply R_alloc|apply R_drewN|apply R_drew));exact (R_mono (R_far (p:=⟨gb222,2,none⟩) (R_far (p:=⟨gb222,1,none⟩) (R_far (p:=⟨gb222,0,none⟩) (R_types HO196.out BK222.out (by decide)) (fun _ hk=>hk.2) (.int .i64 t214)) (fun _ hk=>hk.2) (.slice Ao39 t215.length co39)) (fun _ hk=>hk.2) (.slice Ao40 t218.length co40)) (fun _ h_=>h_.1))) hb);have n2_:=Aside0.mk (R_below (by (with_reducible repeat (first|apply R_alloc|apply R_drewN|apply R_drew));exact (R_mono (R_far (p:=⟨gb222,2,none⟩) (R_far (p:=⟨gb222,1,none⟩) (R_far (p:=⟨gb222,0,none⟩) (R_types HO200.out BK222.out (by decide)) (fun _ hk=>hk.2) (.int .i64 t214)) (fun _ hk=>hk.2) (.slice Ao39 t215.length co39)) (fun _ hk=>hk.2) (.slice Ao40 t218.length co40)) (fun _ h_=>h_.1))) hb);have n3_:=Aside0.mk (R_below (by (with_reducible repeat (first|apply R_alloc|apply R_drewN|apply R_drew));exact (R_mono (R_far (p:=⟨gb222,2,none⟩) (R_far (p:=⟨gb222,1,none⟩) (R_far (p:=⟨gb222,0,none⟩) (R_types HO203.out BK222.out (by decide)) (fun _ hk=>hk.2) (.int .i64 t214)) (fun _ hk=>hk.2) (.slice Ao39 t215.length co39)) (fun _ hk=>hk.2) (.slice Ao40 t218.length co40)) (fun _ h_=>h_.1))) hb);have n4_:=Aside0.mk (R_below (by (with_reducible repeat (first|apply R_alloc|apply R_drewN|apply R_drew));exact (R_mono (R_far (p:=⟨gb222,2,none⟩) (R_far (p:=⟨gb222,1,none⟩) (R_far (p:=⟨gb222,0,none⟩) (R_types HO209.out BK222.out (by decide)) (fun _ hk=>hk.2) (.int .i64 t214)) (fun _ hk=>hk.2) (.slice Ao39 t215.length co39)) (fun _ hk=>hk.2) (.slice Ao40 t218.length co40)) (fun _ h_=>h_.1))) hb);have n5_:=Aside0.mk (R_below (by (with_reducible repeat (first|apply R_alloc|apply R_drewN|apply R_drew));exact (R_mono (R_far (p:=⟨gb222,2,none⟩) (R_far (p:=⟨gb222,1,none⟩) (R_far (p:=⟨gb222,0,none⟩) (R_types HO212.out BK222.out (by decide)) (fun _ hk=>hk.2) (.int .i64 t214)) (fun _ hk=>hk.2) (.slice Ao39 t215.length co39)) (fun _ hk=>hk.2) (.slice Ao40 t218.length co40)) (fun _ h_=>h_.1))) hb);have n6_:=Aside0.mk (R_below (by (with_reducible repeat (first|apply R_alloc|apply R_drewN|apply R_drew));exact (R_mono (R_far (p:=⟨gb222,2,none⟩) (R_far (p:=⟨gb222,1,none⟩) (R_far (p:=⟨gb222,0,none⟩) (R_types HO217.out BK222.out (by decide)) (fun _ hk=>hk.2) (.int .i64 t214)) (fun _ hk=>hk.2) (.slice Ao39 t215.length co39)) (fun _ hk=>hk.2) (.slice Ao40 t218.length co40)) (fun _ h_=>h_.1))) hb);have n7_:=Aside0.mk (R_below (by (with_reducible repeat (first|apply R_alloc|apply R_drewN|apply R_drew));exact (R_mono (R_far (p:=⟨gb222,2,none⟩) (R_far (p:=⟨gb222,1,none⟩) (R_far (p:=⟨gb222,0,none⟩) (R_types HO220.out BK222.out (by decide)) (fun _ hk=>hk.2) (.int .i64 t214)) (fun _ hk=>hk.2) (.slice Ao39 t215.length co39)) (fun _ hk=>hk.2) (.slice Ao40 t218.length co40)) (fun _ h_=>h_.1))) hb);have n8_:=Aside0.mk (blk_below (g:=gb188) (o:=.cells #[.int .i64 a0_0,.slice A0_1 l0_1.length c0_1,.slice A0_2 l0_2.length c0_2] 24 (0,0)) (by (with_reducible repeat (first|apply blk_drewN|apply blk_drew|apply blk_alloc));refine blk_far ?_ NB188_222.out _;(with_reducible repeat (first|apply blk_drewN|apply blk_drew|apply blk_alloc));refine blk_far ?_ NB188_222.out _;(with_reducible repeat (first|apply blk_drewN|apply blk_drew|apply blk_alloc));refine blk_far ?_ NB188_222.out _;(with_reducible repeat (first|apply blk_drewN|apply blk_drew|apply blk_alloc));exact BK188.out) hb);have n9_:=Aside0.mk (blk_below (g:=gb205) (o:=.cells #[.int .i64 t197,.slice Ao23 t198.length co23,.slice Ao24 t201.length co24] 27 (0,0)) (by (with_reducible repeat (first|apply blk_drewN|apply blk_drew|apply blk_alloc));refine blk_far ?_ NB205_222.out _;(with_reducible repeat (first|apply blk_drewN|apply blk_drew|apply blk_alloc));refine blk_far ?_ NB205_222.out _;(with_reducible repeat (first|apply blk_drewN|apply blk_drew|apply blk_alloc));refine blk_far ?_ NB205_222.out _;(with_reducible repeat (first|apply blk_drewN|apply blk_drew|apply blk_alloc));exact BK205.out) hb);have n10_:=Aside0.mk (blk_below (g:=gb213) (o:=.cells #[.int .i64 t206,.slice Ao31 t207.length co31,.slice Ao32 t210.length co32] 27 (0,0)) (by (with_reducible repeat (first|apply blk_drewN|apply blk_drew|apply blk_alloc));refine blk_far ?_ NB213_222.out _;(with_reducible repeat (first|apply blk_drewN|apply blk_drew|apply blk_alloc));refine blk_far ?_ NB213_222.out _;(with_reducible repeat (first|apply blk_drewN|apply blk_drew|apply blk_alloc));refine blk_far ?_ NB213_222.out _;(with_reducible repeat (first|apply blk_drewN|apply blk_drew|apply blk_alloc));exact BK213.out) hb);have n11_:=Aside0.mk (blk_below (g:=gb222) (o:=.cells #[.int .i64 t214,.slice Ao39 t215.length co39,.slice Ao40 t218.length co40] 27 (0,0)) (by (with_reducible repeat (first|apply blk_drewN|apply blk_drew|apply blk_alloc));refine blk_put (cs:=#[.int .i64 t214,.slice Ao39 t215.length co39,.slice none 0 0]) ?_ 2 _ rfl;(with_reducible repeat (first|apply blk_drewN|apply blk_drew|apply blk_alloc));refine blk_put (cs:=#[.int .i64 t214,.slice none 0 0,.slice none 0 0]) ?_ 1 _ rfl;(with_reducible repeat (first|apply blk_drewN|apply blk_drew|apply blk_alloc));refine blk_put (cs:=#[.int .i64 0,.slice none 0 0,.slice none 0 0]) ?_ 0 _ rfl;(with_reducible repeat (first|apply blk_drewN|apply blk_drew|apply blk_alloc));exact BK222.out) hb);have n12_:=Aside0.mk (below_step (by repeat (first|(with_reducible first|exact HB.out|apply below_alloc|apply pw_below_drewN|apply below_drew1|refine below_set ?_ GE188.out|refine below_set ?_ GE205.out|refine below_set ?_ GE213.out|refine below_set ?_ GE222.out)|exact HB.out)) hb);clear HO193;clear HO196;clear HO200;clear HO203;clear HO209;clear HO212;clear HO217;clear HO220;clear BK188;clear BK205;clear BK213;clear BK222;clear HB;have HO193:=n0_;have HO196:=n1_;have HO200:=n2_;have HO203:=n3_;have HO209:=n4_;have HO212:=n5_;have HO217:=n6_;have HO220:=n7_;have BK188:=n8_;have BK205:=n9_;have BK213:=n10_;have BK222:=n11_;have HB:=n12_;clear n0_ n1_ n2_ n3_ n4_ n5_ n6_ n7_ n8_ n9_ n10_ n11_ n12_;(try clear hb);(try clear hb2);(try clear hk);(try clear hi)))
   go_meet
   case rel=>exact ⟨_,((t221 != t204)),(by first|rfl|(simp;done)|(simp [*];done)),H',⟨by first|omega|exact Nat.le_refl _⟩,⟨by (with_reducible repeat (first|apply R_alloc|apply R_drewN|apply R_drew));exact R_mono HO200.out (fun _ hk=>⟨hk.1.1.1.1.1.1,⟨hk.1.1.1.2,⟨hk.1.1.2,⟨hk.1.2,hk.2⟩⟩⟩⟩)⟩,⟨by (with_reducible repeat (first|apply R_alloc|apply R_drewN|apply R_drew));exact R_mono HO203.out (fun _ hk=>⟨hk.1.1.1.1.1.1,⟨hk.1.1.1.2,⟨hk.1.1.2,⟨hk.1.2,hk.2⟩⟩⟩⟩)⟩,⟨by (with_reducible repeat (first|apply R_alloc|apply R_drewN|apply R_drew));exact R_mono HO209.out (fun _ hk=>⟨hk.1.1.1.2,⟨hk.1.1.2,⟨hk.1.1.1.1.1.1,⟨hk.1.2,hk.2⟩⟩⟩⟩)⟩,⟨by (with_reducible repeat (first|apply R_alloc|apply R_drewN|apply R_drew));exact R_mono HO212.out (fun _ hk=>⟨hk.1.1.1.2,⟨hk.1.1.2,⟨hk.1.1.1.1.1.1,⟨hk.1.2,hk.2⟩⟩⟩⟩)⟩,⟨by (with_reducible repeat (first|apply R_alloc|apply R_drewN|apply R_drew));exact R_mono HO217.out (fun _ hk=>⟨hk.1.1.1.2,⟨hk.1.1.2,⟨hk.1.2,⟨hk.2,hk.1.1.1.1.1.1⟩⟩⟩⟩)⟩,⟨by (with_reducible repeat (first|apply R_alloc|apply R_drewN|apply R_drew));exact R_mono HO220.out (fun _ hk=>⟨hk.1.1.1.2,⟨hk.1.1.2,⟨hk.1.2,⟨hk.2,hk.1.1.1.1.1.1⟩⟩⟩⟩)⟩,⟨by (with_reducible repeat (first|apply blk_drewN|apply blk_drew|apply blk_alloc));exact BK188.out⟩,⟨by (with_reducible repeat (first|apply blk_drewN|apply blk_drew|apply blk_alloc));exact BK205.out⟩,⟨by (with_reducible repeat (first|apply blk_drewN|apply blk_drew|apply blk_alloc));exact BK213.out⟩,⟨by (with_reducible repeat (first|apply blk_drewN|apply blk_drew|apply blk_alloc));exact BK222.out⟩,⟨by repeat (first|(with_reducible first|exact HB.out|apply below_alloc|apply pw_below_drewN|apply below_drew1|refine below_set ?_ GE188.out|refine below_set ?_ GE205.out|refine below_set ?_ GE213.out|refine below_set ?_ GE222.out)|exact HB.out)⟩⟩
  replace c42:=Bool.eq_false_iff.mpr c42
  subst c42
  have H1 : (laws_FnExactMirrorWire.j0 k t204 t221 true a0_0 l0_1 l0_2 t197 t198 t201 t206 t207 t210 t214 t215 t218) = some r:=by rw [if_neg (show ¬ (false = true) by decide)] at H;exact H
  clear H
  have H:=H1
  clear H1
  have H':=Aside0.mk H
  clear H
  have hnb51:=NB222_188.out
  have hnc51:=NB188_222.out
  have hnb52:=NB222_205.out
  have hnc52:=NB205_222.out
  have hnb53:=NB222_213.out
  have hnc53:=NB213_222.out
  have hcz54_0 : w34.cell? ⟨gb222,0,none⟩ = some (.int .i64 0):=(blk_cell BK222.out 0).trans rfl
  have hcz54_1 : w34.cell? ⟨gb222,1,none⟩ = some (.slice none 0 0):=(blk_cell BK222.out 1).trans rfl
  have hcz54_2 : w34.cell? ⟨gb222,2,none⟩ = some (.slice none 0 0):=(blk_cell BK222.out 2).trans rfl
  have hfz54_0:=blk_frozen BK222.out 0
  have hfz54_1:=blk_frozen BK222.out 1
  have hfz54_2:=blk_frozen BK222.out 2
  have hnb55:=NB205_188.out
  have hnc55:=NB188_205.out
  have hnb56:=NB205_213.out
  have hnc56:=NB213_205.out
  have hcz57_0 : w34.cell? ⟨gb205,0,none⟩ = some (.int .i64 t197):=(blk_cell BK205.out 0).trans rfl
  have hcz57_1 : w34.cell? ⟨gb205,1,none⟩ = some (.slice Ao23 t198.length co23):=(blk_cell BK205.out 1).trans rfl
  have hcz57_2 : w34.cell? ⟨gb205,2,none⟩ = some (.slice Ao24 t201.length co24):=(blk_cell BK205.out 2).trans rfl
  have hfz57_0:=blk_frozen BK205.out 0
  have hfz57_1:=blk_frozen BK205.out 1
  have hfz57_2:=blk_frozen BK205.out 2
  go_wp2_with (first|((with_reducible refine gate_callee (f:=15) rfl ?_);refine goesL_ (some 34) rfl rfl Try.func15 (by kernel_rfl) rfl #[.agg #[.int .i64 t214,.slice Ao39 t215.length co39,.slice Ao40 t218.length co40],.agg #[.int .i64 t197,.slice Ao23 t198.length co23,.slice Ao24 t201.length co24]] rfl (by (try simp only [List.map_toArray,List.map_cons,List.map_nil]);first|done|rfl|(simp only [List.length_drop,List.length_take];rfl)) ?_;(with_reducible refine (laws_eqWire.calls k t214 _ _ t215 _ _ t218 t197 _ _ t198 _ _ t201 false _ ?side1 ?side2 ?side3 ?side4 ?side5 ?side6 ?side7 ?side8 A41.out).mono ?_);(case side1=>refine (R_reads' (e:=3) (base:=w.heap.size) (ok:=fun k_=>((((((some k_ ≠ (.slice Ao40 t218.length co40 : Value).ownBlock ∧ some k_ ≠ (.slice Ao17 t191.length co17 : Value).ownBlock) ∧ some k_ ≠ (.slice Ao18 t194.length co18 : Value).ownBlock) ∧ some k_ ≠ (.slice Ao23 t198.length co23 : Value).ownBlock) ∧ some k_ ≠ (.slice Ao24 t201.length co24 : Value).ownBlock) ∧ some k_ ≠ (.slice Ao31 t207.length co31 : Value).ownBlock) ∧ some k_ ≠ (.slice Ao32 t210.length co32 : Value).ownBlock)) (n:=t215.length) (c:=co39) ?_).2.2;exact (by (with_reducible repeat (first|apply R_alloc|apply R_drewN|apply R_drew));exact (R_mono (R_far (p:=⟨gb222,2,none⟩) (R_far (p:=⟨gb222,1,none⟩) (R_far (p:=⟨gb222,0,none⟩) (R_types HO217.out BK222.out (by decide)) (fun _ hk=>hk.2) (.int .i64 t214)) (fun _ hk=>hk.2) (.slice Ao39 t215.length co39)) (fun _ hk=>hk.2) (.slice Ao40 t218.length co40)) (fun _ h_=>h_.1))));(case side2=>exact (R_reads' HO217.out).2.1);(case side3=>refine (R_reads' (e:=3) (base:=w.heap.size) (ok:=fun k_=>((((((some k_ ≠ (.slice Ao39 t215.length co39 : Value).ownBlock ∧ some k_ ≠ (.slice Ao17 t191.length co17 : Value).ownBlock) ∧ some k_ ≠ (.slice Ao18 t194.length co18 : Value).ownBlock) ∧ some k_ ≠ (.slice Ao23 t198.length co23 : Value).ownBlock) ∧ some k_ ≠ (.slice Ao24 t201.length co24 : Value).ownBlock) ∧ some k_ ≠ (.slice Ao31 t207.length co31 : Value).ownBlock) ∧ some k_ ≠ (.slice Ao32 t210.length co32 : Value).ownBlock)) (n:=t218.length) (c:=co40) ?_).2.2;exact (by (with_reducible repeat (first|apply R_alloc|apply R_drewN|apply R_drew));exact (R_mono (R_far (p:=⟨gb222,2,none⟩) (R_far (p:=⟨gb222,1,none⟩) (R_far (p:=⟨gb222,0,none⟩) (R_types HO220.out BK222.out (by decide)) (fun _ hk=>hk.2) (.int .i64 t214)) (fun _ hk=>hk.2) (.slice Ao39 t215.length co39)) (fun _ hk=>hk.2) (.slice Ao40 t218.length co40)) (fun _ h_=>h_.1))));(case side4=>exact (R_reads' HO220.out).2.1);(case side5=>refine (R_reads' (e:=3) (base:=w.heap.size) (ok:=fun k_=>((((((some k_ ≠ (.slice Ao24 t201.length co24 : Value).ownBlock ∧ some k_ ≠ (.slice Ao17 t191.length co17 : Value).ownBlock) ∧ some k_ ≠ (.slice Ao18 t194.length co18 : Value).ownBlock) ∧ some k_ ≠ (.slice Ao31 t207.length co31 : Value).ownBlock) ∧ some k_ ≠ (.slice Ao32 t210.length co32 : Value).ownBlock) ∧ some k_ ≠ (.slice Ao39 t215.length co39 : Value).ownBlock) ∧ some k_ ≠ (.slice Ao40 t218.length co40 : Value).ownBlock)) (n:=t198.length) (c:=co23) ?_).2.2;exact (by (with_reducible repeat (first|apply R_alloc|apply R_drewN|apply R_drew));exact (R_mono (R_far (p:=⟨gb222,2,none⟩) (R_far (p:=⟨gb222,1,none⟩) (R_far (p:=⟨gb222,0,none⟩) (R_types HO200.out BK222.out (by decide)) (fun _ hk=>hk.2) (.int .i64 t214)) (fun _ hk=>hk.2) (.slice Ao39 t215.length co39)) (fun _ hk=>hk.2) (.slice Ao40 t218.length co40)) (fun _ h_=>h_.1))));(case side6=>exact (R_reads' HO200.out).2.1);(case side7=>refine (R_reads' (e:=3) (base:=w.heap.size) (ok:=fun k_=>((((((some k_ ≠ (.slice Ao23 t198.length co23 : Value).ownBlock ∧ some k_ ≠ (.slice Ao17 t191.length co17 : Value).ownBlock) ∧ some k_ ≠ (.slice Ao18 t194.length co18 : Value).ownBlock) ∧ some k_ ≠ (.slice Ao31 t207.length co31 : Value).ownBlock) ∧ some k_ ≠ (.slice Ao32 t210.length co32 : Value).ownBlock) ∧ some k_ ≠ (.slice Ao39 t215.length co39 : Value).ownBlock) ∧ some k_ ≠ (.slice Ao40 t218.length co40 : Value).ownBlock)) (n:=t201.length) (c:=co24) ?_).2.2;exact (by (with_reducible repeat (first|apply R_alloc|apply R_drewN|apply R_drew));exact (R_mono (R_far (p:=⟨gb222,2,none⟩) (R_far (p:=⟨gb222,1,none⟩) (R_far (p:=⟨gb222,0,none⟩) (R_types HO203.out BK222.out (by decide)) (fun _ hk=>hk.2) (.int .i64 t214)) (fun _ hk=>hk.2) (.slice Ao39 t215.length co39)) (fun _ hk=>hk.2) (.slice Ao40 t218.length co40)) (fun _ h_=>h_.1))));(case side8=>exact (R_reads' HO203.out).2.1);rintro e w58 ⟨rfl,hb⟩;refine ⟨_,rfl,?_⟩;have n0_:=Aside0.mk (R_below (by (with_reducible repeat (first|apply R_alloc|apply R_drewN|apply R_drew));exact (R_mono (R_far (p:=⟨gb222,2,none⟩) (R_far (p:=⟨gb222,1,none⟩) (R_far (p:=⟨gb222,0,none⟩) (R_types HO193.out BK222.out (by decide)) (fun _ hk=>hk.2) (.int .i64 t214)) (fun _ hk=>hk.2) (.slice Ao39 t215.length co39)) (fun _ hk=>hk.2) (.slice Ao40 t218.length co40)) (fun _ h_=>h_.1))) hb);have n1_:=Aside0.mk (R_below (by (with_reducible repeat (first|apply R_alloc|apply R_drewN|apply R_drew));exact (R_mono (R_far (p:=⟨gb222,2,none⟩) (R_far (p:=⟨gb222,1,none⟩) (R_far (p:=⟨gb222,0,none⟩) (R_types HO196.out BK222.out (by decide)) (fun _ hk=>hk.2) (.int .i64 t214)) (fun _ hk=>hk.2) (.slice Ao39 t215.length co39)) (fun _ hk=>hk.2) (.slice Ao40 t218.length co40)) (fun _ h_=>h_.1))) hb);have n2_:=Aside0.mk (R_below (by (with_reducible repeat (first|apply R_alloc|apply R_drewN|apply R_drew));exact (R_mono (R_far (p:=⟨gb222,2,none⟩) (R_far (p:=⟨gb222,1,none⟩) (R_far (p:=⟨gb222,0,none⟩) (R_types HO200.out BK222.out (by decide)) (fun _ hk=>hk.2) (.int .i64 t214)) (fun _ hk=>hk.2) (.slice Ao39 t215.length co39)) (fun _ hk=>hk.2) (.slice Ao40 t218.length co40)) (fun _ h_=>h_.1))) hb);have n3_:=Aside0.mk (R_below (by (with_reducible repeat (first|apply R_alloc|apply R_drewN|apply R_drew));exact (R_mono (R_far (p:=⟨gb222,2,none⟩) (R_far (p:=⟨gb222,1,none⟩) (R_far (p:=⟨gb222,0,none⟩) (R_types HO203.out BK222.out (by decide)) (fun _ hk=>hk.2) (.int .i64 t214)) (fun _ hk=>hk.2) (.slice Ao39 t215.length co39)) (fun _ hk=>hk.2) (.slice Ao40 t218.length co40)) (fun _ h_=>h_.1))) hb);have n4_:=Aside0.mk (R_below (by (with_reducible repeat (first|apply R_alloc|apply R_drewN|apply R_drew));exact (R_mono (R_far (p:=⟨gb222,2,none⟩) (R_far (p:=⟨gb222,1,none⟩) (R_far (p:=⟨gb222,0,none⟩) (R_types HO209.out BK222.out (by decide)) (fun _ hk=>hk.2) (.int .i64 t214)) (fun _ hk=>hk.2) (.slice Ao39 t215.length co39)) (fun _ hk=>hk.2) (.slice Ao40 t218.length co40)) (fun _ h_=>h_.1))) hb);have n5_:=Aside0.mk (R_below (by (with_reducible repeat (first|apply R_alloc|apply R_drewN|apply R_drew));exact (R_mono (R_far (p:=⟨gb222,2,none⟩) (R_far (p:=⟨gb222,1,none⟩) (R_far (p:=⟨gb222,0,none⟩) (R_types HO212.out BK222.out (by decide)) (fun _ hk=>hk.2) (.int .i64 t214)) (fun _ hk=>hk.2) (.slice Ao39 t215.length co39)) (fun _ hk=>hk.2) (.slice Ao40 t218.length co40)) (fun _ h_=>h_.1))) hb);have n6_:=Aside0.mk (R_below (by (with_reducible repeat (first|apply R_alloc|apply R_drewN|apply R_drew));exact (R_mono (R_far (p:=⟨gb222,2,none⟩) (R_far (p:=⟨gb222,1,none⟩) (R_far (p:=⟨gb222,0,none⟩) (R_types HO217.out BK222.out (by decide)) (fun _ hk=>hk.2) (.int .i64 t214)) (fun _ hk=>hk.2) (.slice Ao39 t215.length co39)) (fun _ hk=>hk.2) (.slice Ao40 t218.length co40)) (fun _ h_=>h_.1))) hb);have n7_:=Aside0.mk (R_below (by (with_reducible repeat (first|apply R_alloc|apply R_drewN|apply R_drew));exact (R_mono (R_far (p:=⟨gb222,2,none⟩) (R_far (p:=⟨gb222,1,none⟩) (R_far (p:=⟨gb222,0,none⟩) (R_types HO220.out BK222.out (by decide)) (fun _ hk=>hk.2) (.int .i64 t214)) (fun _ hk=>hk.2) (.slice Ao39 t215.length co39)) (fun _ hk=>hk.2) (.slice Ao40 t218.length co40)) (fun _ h_=>h_.1))) hb);have n8_:=Aside0.mk (blk_below (g:=gb188) (o:=.cells #[.int .i64 a0_0,.slice A0_1 l0_1.length c0_1,.slice A0_2 l0_2.length c0_2] 24 (0,0)) (by (with_reducible repeat (first|apply blk_drewN|apply blk_drew|apply blk_alloc));refine blk_far ?_ NB188_222.out _;(with_reducible repeat (first|apply blk_drewN|apply blk_drew|apply blk_alloc));refine blk_far ?_ NB188_222.out _;(with_reducible repeat (first|apply blk_drewN|apply blk_drew|apply blk_alloc));refine blk_far ?_ NB188_222.out _;(with_reducible repeat (first|apply blk_drewN|apply blk_drew|apply blk_alloc));exact BK188.out) hb);have n9_:=Aside0.mk (blk_below (g:=gb205) (o:=.cells #[.int .i64 t197,.slice Ao23 t198.length co23,.slice Ao24 t201.length co24] 27 (0,0)) (by (with_reducible repeat (first|apply blk_drewN|apply blk_drew|apply blk_alloc));refine blk_far ?_ NB205_222.out _;(with_reducible repeat (first|apply blk_drewN|apply blk_drew|apply blk_alloc));refine blk_far ?_ NB205_222.out _;(with_reducible repeat (first|apply blk_drewN|apply blk_drew|apply blk_alloc));refine blk_far ?_ NB205_222.out _;(with_reducible repeat (first|apply blk_drewN|apply blk_drew|apply blk_alloc));exact BK205.out) hb);have n10_:=Aside0.mk (blk_below (g:=gb213) (o:=.cells #[.int .i64 t206,.slice Ao31 t207.length co31,.slice Ao32 t210.length co32] 27 (0,0)) (by (with_reducible repeat (first|apply blk_drewN|apply blk_drew|apply blk_alloc));refine blk_far ?_ NB213_222.out _;(with_reducible repeat (first|apply blk_drewN|apply blk_drew|apply blk_alloc));refine blk_far ?_ NB213_222.out _;(with_reducible repeat (first|apply blk_drewN|apply blk_drew|apply blk_alloc));refine blk_far ?_ NB213_222.out _;(with_reducible repeat (first|apply blk_drewN|apply blk_drew|apply blk_alloc));exact BK213.out) hb);have n11_:=Aside0.mk (blk_below (g:=gb222) (o:=.cells #[.int .i64 t214,.slice Ao39 t215.length co39,.slice Ao40 t218.length co40] 27 (0,0)) (by (with_reducible repeat (first|apply blk_drewN|apply blk_drew|apply blk_alloc));refine blk_put (cs:=#[.int .i64 t214,.slice Ao39 t215.length co39,.slice none 0 0]) ?_ 2 _ rfl;(with_reducible repeat (first|apply blk_drewN|apply blk_drew|apply blk_alloc));refine blk_put (cs:=#[.int .i64 t214,.slice none 0 0,.slice none 0 0]) ?_ 1 _ rfl;(with_reducible repeat (first|apply blk_drewN|apply blk_drew|apply blk_alloc));refine blk_put (cs:=#[.int .i64 0,.slice none 0 0,.slice none 0 0]) ?_ 0 _ rfl;(with_reducible repeat (first|apply blk_drewN|apply blk_drew|apply blk_alloc));exact BK222.out) hb);have n12_:=Aside0.mk (below_step (by repeat (first|(with_reducible first|exact HB.out|apply below_alloc|apply pw_below_drewN|apply below_drew1|refine below_set ?_ GE188.out|refine below_set ?_ GE205.out|refine below_set ?_ GE213.out|refine below_set ?_ GE222.out)|exact HB.out)) hb);clear HO193;clear HO196;clear HO200;clear HO203;clear HO209;clear HO212;clear HO217;clear HO220;clear BK188;clear BK205;clear BK213;clear BK222;clear HB;have HO193:=n0_;have HO196:=n1_;have HO200:=n2_;have HO203:=n3_;have HO209:=n4_;have HO212:=n5_;have HO217:=n6_;have HO220:=n7_;have BK188:=n8_;have BK205:=n9_;have BK213:=n10_;have BK222:=n11_;have HB:=n12_;clear n0_ n1_ n2_ n3_ n4_ n5_ n6_ n7_ n8_ n9_ n10_ n11_ n12_;(try clear hb);(try clear hb2);(try clear hk);(try clear hi)))
  go_meet
  case rel=>exact ⟨_,(true),(by first|rfl|(simp;done)|(simp [*];done)),H',⟨by first|omega|exact Nat.le_refl _⟩,⟨by (with_reducible repeat (first|apply R_alloc|apply R_drewN|apply R_drew));exact R_mono HO200.out (fun _ hk=>⟨hk.1.1.1.1.1.1,⟨hk.1.1.1.2,⟨hk.1.1.2,⟨hk.1.2,hk.2⟩⟩⟩⟩)⟩,⟨by (with_reducible repeat (first|apply R_alloc|apply R_drewN|apply R_drew));exact R_mono HO203.out (fun _ hk=>⟨hk.1.1.1.1.1.1,⟨hk.1.1.1.2,⟨hk.1.1.2,⟨hk.1.2,hk.2⟩⟩⟩⟩)⟩,⟨by (with_reducible repeat (first|apply R_alloc|apply R_drewN|apply R_drew));exact R_mono HO209.out (fun _ hk=>⟨hk.1.1.1.2,⟨hk.1.1.2,⟨hk.1.1.1.1.1.1,⟨hk.1.2,hk.2⟩⟩⟩⟩)⟩,⟨by (with_reducible repeat (first|apply R_alloc|apply R_drewN|apply R_drew));exact R_mono HO212.out (fun _ hk=>⟨hk.1.1.1.2,⟨hk.1.1.2,⟨hk.1.1.1.1.1.1,⟨hk.1.2,hk.2⟩⟩⟩⟩)⟩,⟨by (with_reducible repeat (first|apply R_alloc|apply R_drewN|apply R_drew));exact R_mono HO217.out (fun _ hk=>⟨hk.1.1.1.2,⟨hk.1.1.2,⟨hk.1.2,⟨hk.2,hk.1.1.1.1.1.1⟩⟩⟩⟩)⟩,⟨by (with_reducible repeat (first|apply R_alloc|apply R_drewN|apply R_drew));exact R_mono HO220.out (fun _ hk=>⟨hk.1.1.1.2,⟨hk.1.1.2,⟨hk.1.2,⟨hk.2,hk.1.1.1.1.1.1⟩⟩⟩⟩)⟩,⟨by (with_reducible repeat (first|apply blk_drewN|apply blk_drew|apply blk_alloc));exact BK188.out⟩,⟨by (with_reducible repeat (first|apply blk_drewN|apply blk_drew|apply blk_alloc));exact BK205.out⟩,⟨by (with_reducible repeat (first|apply blk_drewN|apply blk_drew|apply blk_alloc));exact BK213.out⟩,⟨by (with_reducible repeat (first|apply blk_drewN|apply blk_drew|apply blk_alloc));exact BK222.out⟩,⟨by repeat (first|(with_reducible first|exact HB.out|apply below_alloc|apply pw_below_drewN|apply below_drew1|refine below_set ?_ GE188.out|refine below_set ?_ GE205.out|refine below_set ?_ GE213.out|refine below_set ?_ GE222.out)|exact HB.out)⟩⟩
 clear HC11
 try clear c1
 try clear c2
 try clear p2
 try clear c3
 try clear c3b0
 try clear c4
 try clear c5
 try clear c7
 try clear c11
 try clear c13
 try clear c15
 try clear c21
 try clear c26
 try clear c27
 try clear c28
 try clear c29
 try clear c35
 try clear c36
 try clear c37
 try clear c42
 try clear c43
 try clear c44
 try clear c45
 try clear c47
 try clear c48
 try clear c51
 try clear c52
 try clear c53
 try clear c55
 try clear c56
 try clear hcz13_0
 try clear hcz13_1
 try clear hcz13_2
 try clear hcz15_0
 try clear hcz15_1
 try clear hcz15_2
 try clear hcz22_0
 try clear hcz22_1
 try clear hcz22_2
 try clear hcz25_0
 try clear hcz25_1
 try clear hcz25_2
 try clear hcz30_0
 try clear hcz30_1
 try clear hcz30_2
 try clear hcz38_0
 try clear hcz38_1
 try clear hcz38_2
 try clear hcz46_0
 try clear hcz46_1
 try clear hcz46_2
 try clear hcz49_0
 try clear hcz49_1
 try clear hcz49_2
 try clear hcz54_0
 try clear hcz54_1
 try clear hcz54_2
 try clear hcz57_0
 try clear hcz57_1
 try clear hcz57_2
 try clear hcz5_0
 try clear hcz5_1
 try clear hcz5_2
 try clear hfz13_0
 try clear hfz13_1
 try clear hfz13_2
 try clear hfz15_0
 try clear hfz15_1
 try clear hfz15_2
 try clear hfz22_0
 try clear hfz22_1
 try clear hfz22_2
 try clear hfz25_0
 try clear hfz25_1
 try clear hfz25_2
 try clear hfz30_0
 try clear hfz30_1
 try clear hfz30_2
 try clear hfz38_0
 try clear hfz38_1
 try clear hfz38_2
 try clear hfz46_0
 try clear hfz46_1
 try clear hfz46_2
 try clear hfz49_0
 try clear hfz49_1
 try clear hfz49_2
 try clear hfz54_0
 try clear hfz54_1
 try clear hfz54_2
 try clear hfz57_0
 try clear hfz57_1
 try clear hfz57_2
 try clear hfz5_0
 try clear hfz5_1
 try clear hfz5_2
 obtain ⟨kq,x40_10,rfl,HA,HJ10,HO_206001,HO_206002,HO_214001,HO_214002,HO_223001,HO_223002,BK188,BK205,BK213,BK222,HB⟩:=hcut
 cases kq with
 | zero=>exact absurd HA.out (by simp [laws_FnExactMirrorWire.j0])
 | succ kj10 =>
  have H:=HA.out
  clear HA
  simp only [laws_FnExactMirrorWire.j0] at H
  by_cases c59 : x40_10 = true
  ·subst c59
   have H1 : (some false) = some r:=by rw [if_pos rfl] at H;exact H
   clear H
   have H:=H1
   clear H1
   obtain rfl:=Option.some.inj H
   go_wp2
   go_ret
   exact ⟨by first|rfl|(simp [errW_none,errW_some] <;> rfl)|(simp [*,errW_none,errW_some] <;> rfl),by repeat (first|(with_reducible first|exact HB.out|apply below_alloc|apply pw_below_drewN|apply below_drew1|refine below_set ?_ GE188.out|refine below_set ?_ GE205.out|refine below_set ?_ GE213.out|refine below_set ?_ GE222.out)|exact HB.out)⟩
  replace c59:=Bool.eq_false_iff.mpr c59
  subst c59
  have H1 : ((laws_toWire.f kj10 a0_0 l0_1 l0_2).bind fun bt224=>((laws_eqWire.f kj10 t206 t207 t210 bt224.1 bt224.2.1 bt224.2.2).bind fun t231=>(if t231 = true then ((laws_markWire.f kj10 t206 t207 t210 1).bind fun bt232=>(if bt232.1 < 0 then (laws_FnExactMirrorWire.j1 kj10 t204 true a0_0 l0_1 l0_2 t197 t198 t201 t214 t215 t218) else ((laws_eqWire.f kj10 t214 t215 t218 t197 t198 t201).bind fun t235=>(if t235 = true then (laws_FnExactMirrorWire.j1 kj10 t204 (t221 != t204) a0_0 l0_1 l0_2 t197 t198 t201 t214 t215 t218) else (laws_FnExactMirrorWire.j1 kj10 t204 true a0_0 l0_1 l0_2 t197 t198 t201 t214 t215 t218))))) else (some false)))) = some r:=by rw [if_neg (show ¬ (false = true) by decide)] at H;exact H
  clear H
  have H:=H1
  clear H1
  replace H:=Option.bind_eq_some_iff.mp H
  obtain ⟨⟨t224,t225,t228⟩,A600,H⟩:=H
  replace H : ((laws_eqWire.f kj10 t206 t207 t210 t224 t225 t228).bind fun t231=>(if t231 = true then ((laws_markWire.f kj10 t206 t207 t210 1).bind fun bt232=>(if bt232.1 < 0 then (laws_FnExactMirrorWire.j1 kj10 t204 true a0_0 l0_1 l0_2 t197 t198 t201 t214 t215 t218) else ((laws_eqWire.f kj10 t214 t215 t218 t197 t198 t201).bind fun t235=>(if t235 = true then (laws_FnExactMirrorWire.j1 kj10 t204 (t221 != t204) a0_0 l0_1 l0_2 t197 t198 t201 t214 t215 t218) else (laws_FnExactMirrorWire.j1 kj10 t204 true a0_0 l0_1 l0_2 t197 t198 t201 t214 t215 t218))))) else (some false))) = some r:=H
  have A60:=Aside0.mk A600
  clear A600
  replace H:=Option.bind_eq_some_iff.mp H
  obtain ⟨t231,A610,H⟩:=H
  replace H : (if t231 = true then ((laws_markWire.f kj10 t206 t207 t210 1).bind fun bt232=>(if bt232.1 < 0 then (laws_FnExactMirrorWire.j1 kj10 t204 true a0_0 l0_1 l0_2 t197 t198 t201 t214 t215 t218) else ((laws_eqWire.f kj10 t214 t215 t218 t197 t198 t201).bind fun t235=>(if t235 = true then (laws_FnExactMirrorWire.j1 kj10 t204 (t221 != t204) a0_0 l0_1 l0_2 t197 t198 t201 t214 t215 t218) else (laws_FnExactMirrorWire.j1 kj10 t204 true a0_0 l0_1 l0_2 t197 t198 t201 t214 t215 t218))))) else (some false)) = some r:=H
  have A61:=Aside0.mk A610
  clear A610
  by_cases c62 : t231 = true
  rotate_left
  ·replace c62:=Bool.eq_false_iff.mpr c62
   subst c62
   have H1 : (some false) = some r:=by rw [if_neg (show ¬ (false = true) by decide)] at H;exact H
   clear H
   have H:=H1
   clear H1
   obtain rfl:=Option.some.inj H
   try go_wp2
   have n0_:=Aside0.mk (R_drew HO_206001.out)
   have n1_:=Aside0.mk (R_drew HO_206002.out)
   have n2_:=Aside0.mk (R_drew HO_214001.out)
   have n3_:=Aside0.mk (R_drew HO_214002.out)
   have n4_:=Aside0.mk (R_drew HO_223001.out)
   have n5_:=Aside0.mk (R_drew HO_223002.out)
   have n6_:=Aside0.mk (blk_drew BK188.out)
   have n7_:=Aside0.mk (blk_drew BK205.out)
   have n8_:=Aside0.mk (blk_drew BK213.out)
   have n9_:=Aside0.mk (blk_drew BK222.out)
   have n10_:=Aside0.mk (below_drew1 HB.out)
   clear HO_206001
   clear HO_206002
   clear HO_214001
   clear HO_214002
   clear HO_223001
   clear HO_223002
   clear BK188
   clear BK205
   clear BK213
   clear BK222
   clear HB
   have HO_206001:=n0_
   have HO_206002:=n1_
   have HO_214001:=n2_
   have HO_214002:=n3_
   have HO_223001:=n4_
   have HO_223002:=n5_
   have BK188:=n6_
   have BK205:=n7_
   have BK213:=n8_
   have BK222:=n9_
   have HB:=n10_
   clear n0_ n1_ n2_ n3_ n4_ n5_ n6_ n7_ n8_ n9_ n10_
   refine start_ (n:=5) (S:=fun w'=>w'.cell? ⟨gb213,0,none⟩ = some (.int .i64 t206) ∧ w'.cell? ⟨gb213,1,none⟩ = some (.slice Ao31 t207.length co31) ∧ w'.cell? ⟨gb213,2,none⟩ = some (.slice Ao32 t210.length co32) ∧ w'.cell? ⟨gb188,0,none⟩ = some (.int .i64 a0_0) ∧ w'.cell? ⟨gb188,1,none⟩ = some (.slice A0_1 l0_1.length c0_1) ∧ w'.cell? ⟨gb188,2,none⟩ = some (.slice A0_2 l0_2.length c0_2)) (ds:=[]) #[false,false,false,false,false] (by kernel_rfl) rfl rfl ⟨(blk_cell BK213.out 0).trans rfl,(blk_cell BK213.out 1).trans rfl,(blk_cell BK213.out 2).trans rfl,(blk_cell BK188.out 0).trans rfl,(blk_cell BK188.out 1).trans rfl,(blk_cell BK188.out 2).trans rfl⟩ (fun hHeld=>?_)
   generalize wc.drew = w182 at HO_206001 HO_206002 HO_214001 HO_214002 HO_223001 HO_223002 BK188 BK205 BK213 BK222 HB hHeld ⊢
   refine take_ (i:=0) (N:=some 41) (v:=?_) (a':=?_) #[true,false,false,false,false] rfl rfl (by kernel_rfl) (fun _ _ _ h=>h) (Or.inl ⟨by rfl,?_⟩) hHeld ?_ ?_
   rotate_left
   ·rintro w' ⟨s0,s1,s2,s3,s4,s5⟩
    go_simp
    with_reducible rfl
   rotate_left
   ·simp only [Act.put,List.setIfInBounds_toArray,List.set_cons_zero,List.set_cons_succ,i64_w,i32_w]
    rfl
   refine take_ (i:=1) (N:=some 42) (v:=?_) (a':=?_) #[true,true,false,false,false] rfl rfl (by kernel_rfl) (fun _ _ _ h=>h) (Or.inl ⟨by rfl,?_⟩) hHeld ?_ ?_
   rotate_left
   ·rintro w' ⟨s0,s1,s2,s3,s4,s5⟩
    go_simp
    with_reducible rfl
   rotate_left
   ·simp only [Act.put,List.setIfInBounds_toArray,List.set_cons_zero,List.set_cons_succ,i64_w,i32_w]
    rfl
   refine one_ (i:=2) (N:=some 43) #[true,true,true,false,false] rfl rfl (by kernel_rfl) (by decide) (fun K hK=>?_)
   refine goes_ Try.func13 (by kernel_rfl) rfl #[.agg #[.int .i64 a0_0,.slice A0_1 l0_1.length c0_1,.slice A0_2 l0_2.length c0_2]] (by rfl) rfl rfl (by (try simp only [List.map_toArray,List.map_cons,List.map_nil]);first|done|rfl|(simp only [List.length_drop,List.length_take];rfl)) ?_
   with_reducible refine (laws_toWire.calls kj10 a0_0 _ _ l0_1 _ _ l0_2 t224 t225 t228 _ ?side1 ?side2 ?side3 ?side4 A60.out).mono ?_
   (case side1=>repeat (first|exact (C_below HR0_1.out HB.out)|(with_reducible refine C_alloc ?_ _)|(with_reducible refine C_drewN ?_ _)|(with_reducible refine C_drew ?_)))
   (case side2=>exact HC0_1.out)
   (case side3=>repeat (first|exact (C_below HR0_2.out HB.out)|(with_reducible refine C_alloc ?_ _)|(with_reducible refine C_drewN ?_ _)|(with_reducible refine C_drew ?_)))
   (case side4=>exact HC0_2.out)
   rintro e w183 ⟨v226,v229,rfl,ho0,ho1,hb⟩
   refine ⟨_,rfl,?_⟩
   have n0_:=Aside0.mk (R_mono (R_told (R_told (R_old (by (with_reducible repeat (first|apply R_alloc|apply R_drewN|apply R_drew));exact HO_206001.out) hb) (R_base ho0)) (R_base ho1)) (fun _ h_=>h_.1))
   have n1_:=Aside0.mk (R_mono (R_told (R_told (R_old (by (with_reducible repeat (first|apply R_alloc|apply R_drewN|apply R_drew));exact HO_206002.out) hb) (R_base ho0)) (R_base ho1)) (fun _ h_=>h_.1))
   have n2_:=Aside0.mk (R_mono (R_told (R_told (R_old (by (with_reducible repeat (first|apply R_alloc|apply R_drewN|apply R_drew));exact HO_214001.out) hb) (R_base ho0)) (R_base ho1)) (fun _ h_=>h_.1))
   have n3_:=Aside0.mk (R_mono (R_told (R_told (R_old (by (with_reducible repeat (first|apply R_alloc|apply R_drewN|apply R_drew));exact HO_214002.out) hb) (R_base ho0)) (R_base ho1)) (fun _ h_=>h_.1))
   have n4_:=Aside0.mk (R_mono (R_told (R_told (R_old (by (with_reducible repeat (first|apply R_alloc|apply R_drewN|apply R_drew));exact HO_223001.out) hb) (R_base ho0)) (R_base ho1)) (fun _ h_=>h_.1))
   have n5_:=Aside0.mk (R_mono (R_told (R_told (R_old (by (with_reducible repeat (first|apply R_alloc|apply R_drewN|apply R_drew));exact HO_223002.out) hb) (R_base ho0)) (R_base ho1)) (fun _ h_=>h_.1))
   have n6_:=Aside0.mk (R_lower (R_new' (R_new' (R_new' (R_new' (R_new' (R_new' ho0 (R_lt (by (with_reducible repeat (first|apply R_alloc|apply R_drewN|apply R_drew));exact HO_206001.out))) (R_lt (by (with_reducible repeat (first|apply R_alloc|apply R_drewN|apply R_drew));exact HO_206002.out))) (R_lt (by (with_reducible repeat (first|apply R_alloc|apply R_drewN|apply R_drew));exact HO_214001.out))) (R_lt (by (with_reducible repeat (first|apply R_alloc|apply R_drewN|apply R_drew));exact HO_214002.out))) (R_lt (by (with_reducible repeat (first|apply R_alloc|apply R_drewN|apply R_drew));exact HO_223001.out))) (R_lt (by (with_reducible repeat (first|apply R_alloc|apply R_drewN|apply R_drew));exact HO_223002.out))) (below_size (by repeat (first|(with_reducible first|exact HB.out|apply below_alloc|apply pw_below_drewN|apply below_drew1|refine below_set ?_ GE188.out|refine below_set ?_ GE205.out|refine below_set ?_ GE213.out|refine below_set ?_ GE222.out)|exact HB.out))))
   have n7_:=Aside0.mk (R_lower (R_new' (R_new' (R_new' (R_new' (R_new' (R_new' ho1 (R_lt (by (with_reducible repeat (first|apply R_alloc|apply R_drewN|apply R_drew));exact HO_206001.out))) (R_lt (by (with_reducible repeat (first|apply R_alloc|apply R_drewN|apply R_drew));exact HO_206002.out))) (R_lt (by (with_reducible repeat (first|apply R_alloc|apply R_drewN|apply R_drew));exact HO_214001.out))) (R_lt (by (with_reducible repeat (first|apply R_alloc|apply R_drewN|apply R_drew));exact HO_214002.out))) (R_lt (by (with_reducible repeat (first|apply R_alloc|apply R_drewN|apply R_drew));exact HO_223001.out))) (R_lt (by (with_reducible repeat (first|apply R_alloc|apply R_drewN|apply R_drew));exact HO_223002.out))) (below_size (by repeat (first|(with_reducible first|exact HB.out|apply below_alloc|apply pw_below_drewN|apply below_drew1|refine below_set ?_ GE188.out|refine below_set ?_ GE205.out|refine below_set ?_ GE213.out|refine below_set ?_ GE222.out)|exact HB.out))))
   have n8_:=Aside0.mk (blk_below (g:=gb188) (o:=.cells #[.int .i64 a0_0,.slice A0_1 l0_1.length c0_1,.slice A0_2 l0_2.length c0_2] 24 (0,0)) (by (with_reducible repeat (first|apply blk_drewN|apply blk_drew|apply blk_alloc));exact BK188.out) hb)
   have n9_:=Aside0.mk (blk_below (g:=gb205) (o:=.cells #[.int .i64 t197,.slice Ao23 t198.length co23,.slice Ao24 t201.length co24] 27 (0,0)) (by (with_reducible repeat (first|apply blk_drewN|apply blk_drew|apply blk_alloc));exact BK205.out) hb)
   have n10_:=Aside0.mk (blk_below (g:=gb213) (o:=.cells #[.int .i64 t206,.slice Ao31 t207.length co31,.slice Ao32 t210.length co32] 27 (0,0)) (by (with_reducible repeat (first|apply blk_drewN|apply blk_drew|apply blk_alloc));exact BK213.out) hb)
   have n11_:=Aside0.mk (blk_below (g:=gb222) (o:=.cells #[.int .i64 t214,.slice Ao39 t215.length co39,.slice Ao40 t218.length co40] 27 (0,0)) (by (with_reducible repeat (first|apply blk_drewN|apply blk_drew|apply blk_alloc));exact BK222.out) hb)
   have n12_:=Aside0.mk (below_step (by repeat (first|(with_reducible first|exact HB.out|apply below_alloc|apply pw_below_drewN|apply below_drew1|refine below_set ?_ GE188.out|refine below_set ?_ GE205.out|refine below_set ?_ GE213.out|refine below_set ?_ GE222.out)|exact HB.out)) hb)
   clear HO_206001
   clear HO_206002
   clear HO_214001
   clear HO_214002
   clear HO_223001
   clear HO_223002
   clear BK188
   clear BK205
   clear BK213
   clear BK222
   clear HB
   have HO_206001:=n0_
   have HO_206002:=n1_
   have HO_214001:=n2_
   have HO_214002:=n3_
   have HO_223001:=n4_
   have HO_223002:=n5_
   have HO227:=n6_
   have HO230:=n7_
   have BK188:=n8_
   have BK205:=n9_
   have BK213:=n10_
   have BK222:=n11_
   have HB:=n12_
   clear n0_ n1_ n2_ n3_ n4_ n5_ n6_ n7_ n8_ n9_ n10_ n11_ n12_
   (try clear hb)
   (try clear hb2)
   (try clear hk)
   (try clear hi)
   (try clear ho0)
   (try clear ho1)
   obtain ⟨Ao184,co184,eo184⟩:=R_slice HO227.out
   (first|subst eo184|(injection eo184 with f1_ f2_ f3_;have f4_:=f1_.symm;have f5_:=f3_.symm;clear f1_ f2_ f3_;subst f4_;subst f5_))
   obtain ⟨Ao185,co185,eo185⟩:=R_slice HO230.out
   (first|subst eo185|(injection eo185 with f1_ f2_ f3_;have f4_:=f1_.symm;have f5_:=f3_.symm;clear f1_ f2_ f3_;subst f4_;subst f5_))
   refine hK.out _ _ ⟨(blk_cell BK213.out 0).trans rfl,(blk_cell BK213.out 1).trans rfl,(blk_cell BK213.out 2).trans rfl,(blk_cell BK188.out 0).trans rfl,(blk_cell BK188.out 1).trans rfl,(blk_cell BK188.out 2).trans rfl⟩ (fun hHeld=>?_)
   clear hK K
   refine norm_ (a':=?_) ?_ ?_
   rotate_left
   ·show Act.put _ (some 43) _ = _
    simp only [Act.put,List.setIfInBounds_toArray,List.set_cons_zero,List.set_cons_succ,i64_w,i32_w]
    rfl
   refine one_ (i:=3) (N:=some 44) #[true,true,true,true,false] rfl rfl (by kernel_rfl) (by decide) (fun K hK=>?_)
   refine goes_ Try.func15 (by kernel_rfl) rfl #[.agg #[.int .i64 t206,.slice Ao31 t207.length co31,.slice Ao32 t210.length co32],.agg #[.int .i64 t224,.slice Ao184 t225.length co184,.slice Ao185 t228.length co185]] (by rfl) rfl rfl (by (try simp only [List.map_toArray,List.map_cons,List.map_nil]);first|done|rfl|(simp only [List.length_drop,List.length_take];rfl)) ?_
   with_reducible refine (laws_eqWire.calls kj10 t206 _ _ t207 _ _ t210 t224 _ _ t225 _ _ t228 false _ ?side1 ?side2 ?side3 ?side4 ?side5 ?side6 ?side7 ?side8 A61.out).mono ?_
   (case side1=>repeat (first|exact (R_reads' HO_214001.out).2.2|(with_reducible refine C_alloc ?_ _)|(with_reducible refine C_drewN ?_ _)|(with_reducible refine C_drew ?_)))
   (case side2=>exact (R_reads' HO_214001.out).2.1)
   (case side3=>repeat (first|exact (R_reads' HO_214002.out).2.2|(with_reducible refine C_alloc ?_ _)|(with_reducible refine C_drewN ?_ _)|(with_reducible refine C_drew ?_)))
   (case side4=>exact (R_reads' HO_214002.out).2.1)
   (case side5=>repeat (first|exact (R_reads' HO227.out).2.2|(with_reducible refine C_alloc ?_ _)|(with_reducible refine C_drewN ?_ _)|(with_reducible refine C_drew ?_)))
   (case side6=>exact (R_reads' HO227.out).2.1)
   (case side7=>repeat (first|exact (R_reads' HO230.out).2.2|(with_reducible refine C_alloc ?_ _)|(with_reducible refine C_drewN ?_ _)|(with_reducible refine C_drew ?_)))
   (case side8=>exact (R_reads' HO230.out).2.1)
   rintro e w186 ⟨rfl,hb⟩
   refine ⟨_,rfl,?_⟩
   have n0_:=Aside0.mk (R_below (by (with_reducible repeat (first|apply R_alloc|apply R_drewN|apply R_drew));exact HO_206001.out) hb)
   have n1_:=Aside0.mk (R_below (by (with_reducible repeat (first|apply R_alloc|apply R_drewN|apply R_drew));exact HO_206002.out) hb)
   have n2_:=Aside0.mk (R_below (by (with_reducible repeat (first|apply R_alloc|apply R_drewN|apply R_drew));exact HO_214001.out) hb)
   have n3_:=Aside0.mk (R_below (by (with_reducible repeat (first|apply R_alloc|apply R_drewN|apply R_drew));exact HO_214002.out) hb)
   have n4_:=Aside0.mk (R_below (by (with_reducible repeat (first|apply R_alloc|apply R_drewN|apply R_drew));exact HO_223001.out) hb)
   have n5_:=Aside0.mk (R_below (by (with_reducible repeat (first|apply R_alloc|apply R_drewN|apply R_drew));exact HO_223002.out) hb)
   have n6_:=Aside0.mk (R_below (by (with_reducible repeat (first|apply R_alloc|apply R_drewN|apply R_drew));exact HO227.out) hb)
   have n7_:=Aside0.mk (R_below (by (with_reducible repeat (first|apply R_alloc|apply R_drewN|apply R_drew));exact HO230.out) hb)
   have n8_:=Aside0.mk (blk_below (g:=gb188) (o:=.cells #[.int .i64 a0_0,.slice A0_1 l0_1.length c0_1,.slice A0_2 l0_2.length c0_2] 24 (0,0)) (by (with_reducible repeat (first|apply blk_drewN|apply blk_drew|apply blk_alloc));exact BK188.out) hb)
   have n9_:=Aside0.mk (blk_below (g:=gb205) (o:=.cells #[.int .i64 t197,.slice Ao23 t198.length co23,.slice Ao24 t201.length co24] 27 (0,0)) (by (with_reducible repeat (first|apply blk_drewN|apply blk_drew|apply blk_alloc));exact BK205.out) hb)
   have n10_:=Aside0.mk (blk_below (g:=gb213) (o:=.cells #[.int .i64 t206,.slice Ao31 t207.length co31,.slice Ao32 t210.length co32] 27 (0,0)) (by (with_reducible repeat (first|apply blk_drewN|apply blk_drew|apply blk_alloc));exact BK213.out) hb)
   have n11_:=Aside0.mk (blk_below (g:=gb222) (o:=.cells #[.int .i64 t214,.slice Ao39 t215.length co39,.slice Ao40 t218.length co40] 27 (0,0)) (by (with_reducible repeat (first|apply blk_drewN|apply blk_drew|apply blk_alloc));exact BK222.out) hb)
   have n12_:=Aside0.mk (below_step (by repeat (first|(with_reducible first|exact HB.out|apply below_alloc|apply pw_below_drewN|apply below_drew1|refine below_set ?_ GE188.out|refine below_set ?_ GE205.out|refine below_set ?_ GE213.out|refine below_set ?_ GE222.out)|exact HB.out)) hb)
   clear HO_206001
   clear HO_206002
   clear HO_214001
   clear HO_214002
   clear HO_223001
   clear HO_223002
   clear HO227
   clear HO230
   clear BK188
   clear BK205
   clear BK213
   clear BK222
   clear HB
   have HO_206001:=n0_
   have HO_206002:=n1_
   have HO_214001:=n2_
   have HO_214002:=n3_
   have HO_223001:=n4_
   have HO_223002:=n5_
   have HO227:=n6_
   have HO230:=n7_
   have BK188:=n8_
   have BK205:=n9_
   have BK213:=n10_
   have BK222:=n11_
   have HB:=n12_
   clear n0_ n1_ n2_ n3_ n4_ n5_ n6_ n7_ n8_ n9_ n10_ n11_ n12_
   (try clear hb)
   (try clear hb2)
   (try clear hk)
   (try clear hi)
   refine hK.out _ _ ⟨(blk_cell BK213.out 0).trans rfl,(blk_cell BK213.out 1).trans rfl,(blk_cell BK213.out 2).trans rfl,(blk_cell BK188.out 0).trans rfl,(blk_cell BK188.out 1).trans rfl,(blk_cell BK188.out 2).trans rfl⟩ (fun hHeld=>?_)
   clear hK K
   refine norm_ (a':=?_) ?_ ?_
   rotate_left
   ·show Act.put _ (some 44) _ = _
    simp only [Act.put,List.setIfInBounds_toArray,List.set_cons_zero,List.set_cons_succ,i64_w,i32_w]
    rfl
   refine pure_ (i:=4) (N:=some 45) (v:=?_) (a':=?_) #[true,true,true,true,true] rfl rfl (by kernel_rfl) (fun _ _ _ h=>h) (Or.inl ⟨by rfl,?_⟩) ?_ ?_
   rotate_left
   ·intro w'
    go_simp
    with_reducible rfl
   rotate_left
   ·simp only [Act.put,List.setIfInBounds_toArray,List.set_cons_zero,List.set_cons_succ,i64_w,i32_w]
    rfl
   refine done_ (by kernel_rfl) ?_
   try go_wp2
   go_ret
   exact ⟨by first|rfl|(simp [errW_none,errW_some] <;> rfl)|(simp [*,errW_none,errW_some] <;> rfl),by repeat (first|(with_reducible first|exact HB.out|apply below_alloc|apply pw_below_drewN|apply below_drew1|refine below_set ?_ GE188.out|refine below_set ?_ GE205.out|refine below_set ?_ GE213.out|refine below_set ?_ GE222.out)|exact HB.out)⟩
  subst c62
  have H1 : ((laws_markWire.f kj10 t206 t207 t210 1).bind fun bt232=>(if bt232.1 < 0 then (laws_FnExactMirrorWire.j1 kj10 t204 true a0_0 l0_1 l0_2 t197 t198 t201 t214 t215 t218) else ((laws_eqWire.f kj10 t214 t215 t218 t197 t198 t201).bind fun t235=>(if t235 = true then (laws_FnExactMirrorWire.j1 kj10 t204 (t221 != t204) a0_0 l0_1 l0_2 t197 t198 t201 t214 t215 t218) else (laws_FnExactMirrorWire.j1 kj10 t204 true a0_0 l0_1 l0_2 t197 t198 t201 t214 t215 t218))))) = some r:=by rw [if_pos rfl] at H;exact H
  clear H
  have H:=H1
  clear H1
  replace H:=Option.bind_eq_some_iff.mp H
  obtain ⟨⟨t232,t233,t234⟩,A630,H⟩:=H
  replace H : (if t232 < 0 then (laws_FnExactMirrorWire.j1 kj10 t204 true a0_0 l0_1 l0_2 t197 t198 t201 t214 t215 t218) else ((laws_eqWire.f kj10 t214 t215 t218 t197 t198 t201).bind fun t235=>(if t235 = true then (laws_FnExactMirrorWire.j1 kj10 t204 (t221 != t204) a0_0 l0_1 l0_2 t197 t198 t201 t214 t215 t218) else (laws_FnExactMirrorWire.j1 kj10 t204 true a0_0 l0_1 l0_2 t197 t198 t201 t214 t215 t218)))) = some r:=H
  have A63:=Aside0.mk A630
  clear A630
  have HC64:=Aside0.mk H
  clear H
  try go_wp2
  have n0_:=Aside0.mk (R_drew HO_206001.out)
  have n1_:=Aside0.mk (R_drew HO_206002.out)
  have n2_:=Aside0.mk (R_drew HO_214001.out)
  have n3_:=Aside0.mk (R_drew HO_214002.out)
  have n4_:=Aside0.mk (R_drew HO_223001.out)
  have n5_:=Aside0.mk (R_drew HO_223002.out)
  have n6_:=Aside0.mk (blk_drew BK188.out)
  have n7_:=Aside0.mk (blk_drew BK205.out)
  have n8_:=Aside0.mk (blk_drew BK213.out)
  have n9_:=Aside0.mk (blk_drew BK222.out)
  have n10_:=Aside0.mk (below_drew1 HB.out)
  clear HO_206001
  clear HO_206002
  clear HO_214001
  clear HO_214002
  clear HO_223001
  clear HO_223002
  clear BK188
  clear BK205
  clear BK213
  clear BK222
  clear HB
  have HO_206001:=n0_
  have HO_206002:=n1_
  have HO_214001:=n2_
  have HO_214002:=n3_
  have HO_223001:=n4_
  have HO_223002:=n5_
  have BK188:=n6_
  have BK205:=n7_
  have BK213:=n8_
  have BK222:=n9_
  have HB:=n10_
  clear n0_ n1_ n2_ n3_ n4_ n5_ n6_ n7_ n8_ n9_ n10_
  refine start_ (n:=5) (S:=fun w'=>w'.cell? ⟨gb213,0,none⟩ = some (.int .i64 t206) ∧ w'.cell? ⟨gb213,1,none⟩ = some (.slice Ao31 t207.length co31) ∧ w'.cell? ⟨gb213,2,none⟩ = some (.slice Ao32 t210.length co32) ∧ w'.cell? ⟨gb188,0,none⟩ = some (.int .i64 a0_0) ∧ w'.cell? ⟨gb188,1,none⟩ = some (.slice A0_1 l0_1.length c0_1) ∧ w'.cell? ⟨gb188,2,none⟩ = some (.slice A0_2 l0_2.length c0_2)) (ds:=[]) #[false,false,false,false,false] (by kernel_rfl) rfl rfl ⟨(blk_cell BK213.out 0).trans rfl,(blk_cell BK213.out 1).trans rfl,(blk_cell BK213.out 2).trans rfl,(blk_cell BK188.out 0).trans rfl,(blk_cell BK188.out 1).trans rfl,(blk_cell BK188.out 2).trans rfl⟩ (fun hHeld=>?_)
  generalize wc.drew = w65 at HO_206001 HO_206002 HO_214001 HO_214002 HO_223001 HO_223002 BK188 BK205 BK213 BK222 HB hHeld ⊢
  refine take_ (i:=0) (N:=some 41) (v:=?_) (a':=?_) #[true,false,false,false,false] rfl rfl (by kernel_rfl) (fun _ _ _ h=>h) (Or.inl ⟨by rfl,?_⟩) hHeld ?_ ?_
  rotate_left
  ·rintro w' ⟨s0,s1,s2,s3,s4,s5⟩
   go_simp
   with_reducible rfl
  rotate_left
  ·simp only [Act.put,List.setIfInBounds_toArray,List.set_cons_zero,List.set_cons_succ,i64_w,i32_w]
   rfl
  refine take_ (i:=1) (N:=some 42) (v:=?_) (a':=?_) #[true,true,false,false,false] rfl rfl (by kernel_rfl) (fun _ _ _ h=>h) (Or.inl ⟨by rfl,?_⟩) hHeld ?_ ?_
  rotate_left
  ·rintro w' ⟨s0,s1,s2,s3,s4,s5⟩
   go_simp
   with_reducible rfl
  rotate_left
  ·simp only [Act.put,List.setIfInBounds_toArray,List.set_cons_zero,List.set_cons_succ,i64_w,i32_w]
   rfl
  refine one_ (i:=2) (N:=some 43) #[true,true,true,false,false] rfl rfl (by kernel_rfl) (by decide) (fun K hK=>?_)
  refine goes_ Try.func13 (by kernel_rfl) rfl #[.agg #[.int .i64 a0_0,.slice A0_1 l0_1.length c0_1,.slice A0_2 l0_2.length c0_2]] (by rfl) rfl rfl (by (try simp only [List.map_toArray,List.map_cons,List.map_nil]);first|done|rfl|(simp only [List.length_drop,List.length_take];rfl)) ?_
  with_reducible refine (laws_toWire.calls kj10 a0_0 _ _ l0_1 _ _ l0_2 t224 t225 t228 _ ?side1 ?side2 ?side3 ?side4 A60.out).mono ?_
  (case side1=>repeat (first|exact (C_below HR0_1.out HB.out)|(with_reducible refine C_alloc ?_ _)|(with_reducible refine C_drewN ?_ _)|(with_reducible refine C_drew ?_)))
  (case side2=>exact HC0_1.out)
  (case side3=>repeat (first|exact (C_below HR0_2.out HB.out)|(with_reducible refine C_alloc ?_ _)|(with_reducible refine C_drewN ?_ _)|(with_reducible refine C_drew ?_)))
  (case side4=>exact HC0_2.out)
  rintro e w66 ⟨v226,v229,rfl,ho0,ho1,hb⟩
  refine ⟨_,rfl,?_⟩
  have n0_:=Aside0.mk (R_mono (R_told (R_told (R_old (by (with_reducible repeat (first|apply R_alloc|apply R_drewN|apply R_drew));exact HO_206001.out) hb) (R_base ho0)) (R_base ho1)) (fun _ h_=>h_.1))
  have n1_:=Aside0.mk (R_mono (R_told (R_told (R_old (by (with_reducible repeat (first|apply R_alloc|apply R_drewN|apply R_drew));exact HO_206002.out) hb) (R_base ho0)) (R_base ho1)) (fun _ h_=>h_.1))
  have n2_:=Aside0.mk (R_mono (R_told (R_told (R_old (by (with_reducible repeat (first|apply R_alloc|apply R_drewN|apply R_drew));exact HO_214001.out) hb) (R_base ho0)) (R_base ho1)) (fun _ h_=>h_.1))
  have n3_:=Aside0.mk (R_mono (R_told (R_told (R_old (by (with_reducible repeat (first|apply R_alloc|apply R_drewN|apply R_drew));exact HO_214002.out) hb) (R_base ho0)) (R_base ho1)) (fun _ h_=>h_.1))
  have n4_:=Aside0.mk (R_mono (R_told (R_told (R_old (by (with_reducible repeat (first|apply R_alloc|apply R_drewN|apply R_drew));exact HO_223001.out) hb) (R_base ho0)) (R_base ho1)) (fun _ h_=>h_.1))
  have n5_:=Aside0.mk (R_mono (R_told (R_told (R_old (by (with_reducible repeat (first|apply R_alloc|apply R_drewN|apply R_drew));exact HO_223002.out) hb) (R_base ho0)) (R_base ho1)) (fun _ h_=>h_.1))
  have n6_:=Aside0.mk (R_lower (R_new' (R_new' (R_new' (R_new' (R_new' (R_new' ho0 (R_lt (by (with_reducible repeat (first|apply R_alloc|apply R_drewN|apply R_drew));exact HO_206001.out))) (R_lt (by (with_reducible repeat (first|apply R_alloc|apply R_drewN|apply R_drew));exact HO_206002.out))) (R_lt (by (with_reducible repeat (first|apply R_alloc|apply R_drewN|apply R_drew));exact HO_214001.out))) (R_lt (by (with_reducible repeat (first|apply R_alloc|apply R_drewN|apply R_drew));exact HO_214002.out))) (R_lt (by (with_reducible repeat (first|apply R_alloc|apply R_drewN|apply R_drew));exact HO_223001.out))) (R_lt (by (with_reducible repeat (first|apply R_alloc|apply R_drewN|apply R_drew));exact HO_223002.out))) (below_size (by repeat (first|(with_reducible first|exact HB.out|apply below_alloc|apply pw_below_drewN|apply below_drew1|refine below_set ?_ GE188.out|refine below_set ?_ GE205.out|refine below_set ?_ GE213.out|refine below_set ?_ GE222.out)|exact HB.out))))
  have n7_:=Aside0.mk (R_lower (R_new' (R_new' (R_new' (R_new' (R_new' (R_new' ho1 (R_lt (by (with_reducible repeat (first|apply R_alloc|apply R_drewN|apply R_drew));exact HO_206001.out))) (R_lt (by (with_reducible repeat (first|apply R_alloc|apply R_drewN|apply R_drew));exact HO_206002.out))) (R_lt (by (with_reducible repeat (first|apply R_alloc|apply R_drewN|apply R_drew));exact HO_214001.out))) (R_lt (by (with_reducible repeat (first|apply R_alloc|apply R_drewN|apply R_drew));exact HO_214002.out))) (R_lt (by (with_reducible repeat (first|apply R_alloc|apply R_drewN|apply R_drew));exact HO_223001.out))) (R_lt (by (with_reducible repeat (first|apply R_alloc|apply R_drewN|apply R_drew));exact HO_223002.out))) (below_size (by repeat (first|(with_reducible first|exact HB.out|apply below_alloc|apply pw_below_drewN|apply below_drew1|refine below_set ?_ GE188.out|refine below_set ?_ GE205.out|refine below_set ?_ GE213.out|refine below_set ?_ GE222.out)|exact HB.out))))
  have n8_:=Aside0.mk (blk_below (g:=gb188) (o:=.cells #[.int .i64 a0_0,.slice A0_1 l0_1.length c0_1,.slice A0_2 l0_2.length c0_2] 24 (0,0)) (by (with_reducible repeat (first|apply blk_drewN|apply blk_drew|apply blk_alloc));exact BK188.out) hb)
  have n9_:=Aside0.mk (blk_below (g:=gb205) (o:=.cells #[.int .i64 t197,.slice Ao23 t198.length co23,.slice Ao24 t201.length co24] 27 (0,0)) (by (with_reducible repeat (first|apply blk_drewN|apply blk_drew|apply blk_alloc));exact BK205.out) hb)
  have n10_:=Aside0.mk (blk_below (g:=gb213) (o:=.cells #[.int .i64 t206,.slice Ao31 t207.length co31,.slice Ao32 t210.length co32] 27 (0,0)) (by (with_reducible repeat (first|apply blk_drewN|apply blk_drew|apply blk_alloc));exact BK213.out) hb)
  have n11_:=Aside0.mk (blk_below (g:=gb222) (o:=.cells #[.int .i64 t214,.slice Ao39 t215.length co39,.slice Ao40 t218.length co40] 27 (0,0)) (by (with_reducible repeat (first|apply blk_drewN|apply blk_drew|apply blk_alloc));exact BK222.out) hb)
  have n12_:=Aside0.mk (below_step (by repeat (first|(with_reducible first|exact HB.out|apply below_alloc|apply pw_below_drewN|apply below_drew1|refine below_set ?_ GE188.out|refine below_set ?_ GE205.out|refine below_set ?_ GE213.out|refine below_set ?_ GE222.out)|exact HB.out)) hb)
  clear HO_206001
  clear HO_206002
  clear HO_214001
  clear HO_214002
  clear HO_223001
  clear HO_223002
  clear BK188
  clear BK205
  clear BK213
  clear BK222
  clear HB
  have HO_206001:=n0_
  have HO_206002:=n1_
  have HO_214001:=n2_
  have HO_214002:=n3_
  have HO_223001:=n4_
  have HO_223002:=n5_
  have HO227:=n6_
  have HO230:=n7_
  have BK188:=n8_
  have BK205:=n9_
  have BK213:=n10_
  have BK222:=n11_
  have HB:=n12_
  clear n0_ n1_ n2_ n3_ n4_ n5_ n6_ n7_ n8_ n9_ n10_ n11_ n12_
  (try clear hb)
  (try clear hb2)
  (try clear hk)
  (try clear hi)
  (try clear ho0)
  (try clear ho1)
  obtain ⟨Ao67,co67,eo67⟩:=R_slice HO227.out
  (first|subst eo67|(injection eo67 with f1_ f2_ f3_;have f4_:=f1_.symm;have f5_:=f3_.symm;clear f1_ f2_ f3_;subst f4_;subst f5_))
  obtain ⟨Ao68,co68,eo68⟩:=R_slice HO230.out
  (first|subst eo68|(injection eo68 with f1_ f2_ f3_;have f4_:=f1_.symm;have f5_:=f3_.symm;clear f1_ f2_ f3_;subst f4_;subst f5_))
  refine hK.out _ _ ⟨(blk_cell BK213.out 0).trans rfl,(blk_cell BK213.out 1).trans rfl,(blk_cell BK213.out 2).trans rfl,(blk_cell BK188.out 0).trans rfl,(blk_cell BK188.out 1).trans rfl,(blk_cell BK188.out 2).trans rfl⟩ (fun hHeld=>?_)
  clear hK K
  refine norm_ (a':=?_) ?_ ?_
  rotate_left
  ·show Act.put _ (some 43) _ = _
   simp only [Act.put,List.setIfInBounds_toArray,List.set_cons_zero,List.set_cons_succ,i64_w,i32_w]
   rfl
  refine one_ (i:=3) (N:=some 44) #[true,true,true,true,false] rfl rfl (by kernel_rfl) (by decide) (fun K hK=>?_)
  refine goes_ Try.func15 (by kernel_rfl) rfl #[.agg #[.int .i64 t206,.slice Ao31 t207.length co31,.slice Ao32 t210.length co32],.agg #[.int .i64 t224,.slice Ao67 t225.length co67,.slice Ao68 t228.length co68]] (by rfl) rfl rfl (by (try simp only [List.map_toArray,List.map_cons,List.map_nil]);first|done|rfl|(simp only [List.length_drop,List.length_take];rfl)) ?_
  with_reducible refine (laws_eqWire.calls kj10 t206 _ _ t207 _ _ t210 t224 _ _ t225 _ _ t228 true _ ?side1 ?side2 ?side3 ?side4 ?side5 ?side6 ?side7 ?side8 A61.out).mono ?_
  (case side1=>repeat (first|exact (R_reads' HO_214001.out).2.2|(with_reducible refine C_alloc ?_ _)|(with_reducible refine C_drewN ?_ _)|(with_reducible refine C_drew ?_)))
  (case side2=>exact (R_reads' HO_214001.out).2.1)
  (case side3=>repeat (first|exact (R_reads' HO_214002.out).2.2|(with_reducible refine C_alloc ?_ _)|(with_reducible refine C_drewN ?_ _)|(with_reducible refine C_drew ?_)))
  (case side4=>exact (R_reads' HO_214002.out).2.1)
  (case side5=>repeat (first|exact (R_reads' HO227.out).2.2|(with_reducible refine C_alloc ?_ _)|(with_reducible refine C_drewN ?_ _)|(with_reducible refine C_drew ?_)))
  (case side6=>exact (R_reads' HO227.out).2.1)
  (case side7=>repeat (first|exact (R_reads' HO230.out).2.2|(with_reducible refine C_alloc ?_ _)|(with_reducible refine C_drewN ?_ _)|(with_reducible refine C_drew ?_)))
  (case side8=>exact (R_reads' HO230.out).2.1)
  rintro e w69 ⟨rfl,hb⟩
  refine ⟨_,rfl,?_⟩
  have n0_:=Aside0.mk (R_below (by (with_reducible repeat (first|apply R_alloc|apply R_drewN|apply R_drew));exact HO_206001.out) hb)
  have n1_:=Aside0.mk (R_below (by (with_reducible repeat (first|apply R_alloc|apply R_drewN|apply R_drew));exact HO_206002.out) hb)
  have n2_:=Aside0.mk (R_below (by (with_reducible repeat (first|apply R_alloc|apply R_drewN|apply R_drew));exact HO_214001.out) hb)
  have n3_:=Aside0.mk (R_below (by (with_reducible repeat (first|apply R_alloc|apply R_drewN|apply R_drew));exact HO_214002.out) hb)
  have n4_:=Aside0.mk (R_below (by (with_reducible repeat (first|apply R_alloc|apply R_drewN|apply R_drew));exact HO_223001.out) hb)
  have n5_:=Aside0.mk (R_below (by (with_reducible repeat (first|apply R_alloc|apply R_drewN|apply R_drew));exact HO_223002.out) hb)
  have n6_:=Aside0.mk (R_below (by (with_reducible repeat (first|apply R_alloc|apply R_drewN|apply R_drew));exact HO227.out) hb)
  have n7_:=Aside0.mk (R_below (by (with_reducible repeat (first|apply R_alloc|apply R_drewN|apply R_drew));exact HO230.out) hb)
  have n8_:=Aside0.mk (blk_below (g:=gb188) (o:=.cells #[.int .i64 a0_0,.slice A0_1 l0_1.length c0_1,.slice A0_2 l0_2.length c0_2] 24 (0,0)) (by (with_reducible repeat (first|apply blk_drewN|apply blk_drew|apply blk_alloc));exact BK188.out) hb)
  have n9_:=Aside0.mk (blk_below (g:=gb205) (o:=.cells #[.int .i64 t197,.slice Ao23 t198.length co23,.slice Ao24 t201.length co24] 27 (0,0)) (by (with_reducible repeat (first|apply blk_drewN|apply blk_drew|apply blk_alloc));exact BK205.out) hb)
  have n10_:=Aside0.mk (blk_below (g:=gb213) (o:=.cells #[.int .i64 t206,.slice Ao31 t207.length co31,.slice Ao32 t210.length co32] 27 (0,0)) (by (with_reducible repeat (first|apply blk_drewN|apply blk_drew|apply blk_alloc));exact BK213.out) hb)
  have n11_:=Aside0.mk (blk_below (g:=gb222) (o:=.cells #[.int .i64 t214,.slice Ao39 t215.length co39,.slice Ao40 t218.length co40] 27 (0,0)) (by (with_reducible repeat (first|apply blk_drewN|apply blk_drew|apply blk_alloc));exact BK222.out) hb)
  have n12_:=Aside0.mk (below_step (by repeat (first|(with_reducible first|exact HB.out|apply below_alloc|apply pw_below_drewN|apply below_drew1|refine below_set ?_ GE188.out|refine below_set ?_ GE205.out|refine below_set ?_ GE213.out|refine below_set ?_ GE222.out)|exact HB.out)) hb)
  clear HO_206001
  clear HO_206002
  clear HO_214001
  clear HO_214002
  clear HO_223001
  clear HO_223002
  clear HO227
  clear HO230
  clear BK188
  clear BK205
  clear BK213
  clear BK222
  clear HB
  have HO_206001:=n0_
  have HO_206002:=n1_
  have HO_214001:=n2_
  have HO_214002:=n3_
  have HO_223001:=n4_
  have HO_223002:=n5_
  have HO227:=n6_
  have HO230:=n7_
  have BK188:=n8_
  have BK205:=n9_
  have BK213:=n10_
  have BK222:=n11_
  have HB:=n12_
  clear n0_ n1_ n2_ n3_ n4_ n5_ n6_ n7_ n8_ n9_ n10_ n11_ n12_
  (try clear hb)
  (try clear hb2)
  (try clear hk)
  (try clear hi)
  refine hK.out _ _ ⟨(blk_cell BK213.out 0).trans rfl,(blk_cell BK213.out 1).trans rfl,(blk_cell BK213.out 2).trans rfl,(blk_cell BK188.out 0).trans rfl,(blk_cell BK188.out 1).trans rfl,(blk_cell BK188.out 2).trans rfl⟩ (fun hHeld=>?_)
  clear hK K
  refine norm_ (a':=?_) ?_ ?_
  rotate_left
  ·show Act.put _ (some 44) _ = _
   simp only [Act.put,List.setIfInBounds_toArray,List.set_cons_zero,List.set_cons_succ,i64_w,i32_w]
   rfl
  refine pure_ (i:=4) (N:=some 45) (v:=?_) (a':=?_) #[true,true,true,true,true] rfl rfl (by kernel_rfl) (fun _ _ _ h=>h) (Or.inl ⟨by rfl,?_⟩) ?_ ?_
  rotate_left
  ·intro w'
   go_simp
   with_reducible rfl
  rotate_left
  ·simp only [Act.put,List.setIfInBounds_toArray,List.set_cons_zero,List.set_cons_succ,i64_w,i32_w]
   rfl
  refine done_ (by kernel_rfl) ?_
  have hnb70:=NB213_188.out
  have hnc70:=NB188_213.out
  have hnb71:=NB213_205.out
  have hnc71:=NB205_213.out
  have hnb72:=NB213_222.out
  have hnc72:=NB222_213.out
  have hcz73_0 : w69.cell? ⟨gb213,0,none⟩ = some (.int .i64 t206):=(blk_cell BK213.out 0).trans rfl
  have hcz73_1 : w69.cell? ⟨gb213,1,none⟩ = some (.slice Ao31 t207.length co31):=(blk_cell BK213.out 1).trans rfl
  have hcz73_2 : w69.cell? ⟨gb213,2,none⟩ = some (.slice Ao32 t210.length co32):=(blk_cell BK213.out 2).trans rfl
  have hfz73_0:=blk_frozen BK213.out 0
  have hfz73_1:=blk_frozen BK213.out 1
  have hfz73_2:=blk_frozen BK213.out 2
  go_upto_region 14 with (first|((with_reducible refine gate_callee (f:=23) rfl ?_);refine goesL_ (some 48) rfl rfl Try.func23 (by kernel_rfl) rfl #[.agg #[.int .i64 t206,.slice Ao31 t207.length co31,.slice Ao32 t210.length co32],.int .i64 1] rfl (by (try simp only [List.map_toArray,List.map_cons,List.map_nil]);first|done|rfl|(simp only [List.length_drop,List.length_take];rfl)) ?_;(with_reducible refine (laws_markWire.calls kj10 t206 (fun k_=>some k_ = (.slice Ao31 t207.length co31 : Value).ownBlock) (.slice Ao31 t207.length co31) t207 (fun k_=>some k_ = (.slice Ao32 t210.length co32 : Value).ownBlock) (.slice Ao32 t210.length co32) t210 1 t232 t233 t234 w _ ?side1 ?side2 ?side3 ?side4 ?side5 A63.out).mono ?_);(case side1=>repeat (first|(with_reducible first|exact HB.out|apply below_alloc|apply pw_below_drewN|apply below_drew1|refine below_set ?_ GE188.out|refine below_set ?_ GE205.out|refine below_set ?_ GE213.out|refine below_set ?_ GE222.out)|exact HB.out));(case side2=>exact R_tight rfl HO_214001.out);(case side3=>exact fun k_ e_=>(HO_214001.out.1 k_ e_.symm).1.1.2.2.1);(case side4=>exact R_tight rfl HO_214002.out);(case side5=>exact fun k_ e_=>(HO_214002.out.1 k_ e_.symm).1.1.2.2.1);rintro e w74 ⟨rfl,hy0,hy1,hb,hkp⟩;refine ⟨_,rfl,?_⟩;have n0_:=Aside0.mk (R_mono (ok':=fun k_=>some k_ ≠ (.slice Ao24 t201.length co24 : Value).ownBlock ∧ some k_ ≠ (.slice Ao31 t207.length co31 : Value).ownBlock ∧ some k_ ≠ (.slice Ao32 t210.length co32 : Value).ownBlock ∧ some k_ ≠ (.slice Ao39 t215.length co39 : Value).ownBlock ∧ some k_ ≠ (.slice Ao40 t218.length co40 : Value).ownBlock ∧ some k_ ≠ (.slice Ao67 t225.length co67 : Value).ownBlock ∧ some k_ ≠ (.slice Ao68 t228.length co68 : Value).ownBlock) (R_keptB (HO_206001.out) hkp (fun k_ hk_ hs_=>Or.elim hs_ (fun e_=>(hk_.1.1.2.1) e_) (fun e_=>(hk_.1.1.2.2.1) e_))) (fun k_ hk_=>⟨hk_.1.1.1.1,hk_.1.1.1.2.1,hk_.1.1.1.2.2.1,hk_.1.1.1.2.2.2.1,hk_.1.1.1.2.2.2.2,hk_.1.1.2,hk_.1.2⟩));have n1_:=Aside0.mk (R_mono (ok':=fun k_=>some k_ ≠ (.slice Ao23 t198.length co23 : Value).ownBlock ∧ some k_ ≠ (.slice Ao31 t207.length co31 : Value).ownBlock ∧ some k_ ≠ (.slice Ao32 t210.length co32 : Value).ownBlock ∧ some k_ ≠ (.slice Ao39 t215.length co39 : Value).ownBlock ∧ some k_ ≠ (.slice Ao40 t218.length co40 : Value).ownBlock ∧ some k_ ≠ (.slice Ao67 t225.length co67 : Value).ownBlock ∧ some k_ ≠ (.slice Ao68 t228.length co68 : Value).ownBlock) (R_keptB (HO_206002.out) hkp (fun k_ hk_ hs_=>Or.elim hs_ (fun e_=>(hk_.1.1.2.1) e_) (fun e_=>(hk_.1.1.2.2.1) e_))) (fun k_ hk_=>⟨hk_.1.1.1.1,hk_.1.1.1.2.1,hk_.1.1.1.2.2.1,hk_.1.1.1.2.2.2.1,hk_.1.1.1.2.2.2.2,hk_.1.1.2,hk_.1.2⟩));have n2_:=Aside0.mk (R_reok rfl hy0 (fun k_ e_=>HO_214001.out.1 k_ e_));have n3_:=Aside0.mk (R_reok rfl hy1 (fun k_ e_=>HO_214002.out.1 k_ e_));have n4_:=Aside0.mk (R_mono (ok':=fun k_=>some k_ ≠ (.slice Ao23 t198.length co23 : Value).ownBlock ∧ some k_ ≠ (.slice Ao24 t201.length co24 : Value).ownBlock ∧ some k_ ≠ (.slice Ao31 t207.length co31 : Value).ownBlock ∧ some k_ ≠ (.slice Ao32 t210.length co32 : Value).ownBlock ∧ some k_ ≠ (.slice Ao40 t218.length co40 : Value).ownBlock ∧ some k_ ≠ (.slice Ao67 t225.length co67 : Value).ownBlock ∧ some k_ ≠ (.slice Ao68 t228.length co68 : Value).ownBlock) (R_keptB (HO_223001.out) hkp (fun k_ hk_ hs_=>Or.elim hs_ (fun e_=>(hk_.1.1.2.2.1) e_) (fun e_=>(hk_.1.1.2.2.2.1) e_))) (fun k_ hk_=>⟨hk_.1.1.1.1,hk_.1.1.1.2.1,hk_.1.1.1.2.2.1,hk_.1.1.1.2.2.2.1,hk_.1.1.1.2.2.2.2,hk_.1.1.2,hk_.1.2⟩));have n5_:=Aside0.mk (R_mono (ok':=fun k_=>some k_ ≠ (.slice Ao23 t198.length co23 : Value).ownBlock ∧ some k_ ≠ (.slice Ao24 t201.length co24 : Value).ownBlock ∧ some k_ ≠ (.slice Ao31 t207.length co31 : Value).ownBlock ∧ some k_ ≠ (.slice Ao32 t210.length co32 : Value).ownBlock ∧ some k_ ≠ (.slice Ao39 t215.length co39 : Value).ownBlock ∧ some k_ ≠ (.slice Ao67 t225.length co67 : Value).ownBlock ∧ some k_ ≠ (.slice Ao68 t228.length co68 : Value).ownBlock) (R_keptB (HO_223002.out) hkp (fun k_ hk_ hs_=>Or.elim hs_ (fun e_=>(hk_.1.1.2.2.1) e_) (fun e_=>(hk_.1.1.2.2.2.1) e_))) (fun k_ hk_=>⟨hk_.1.1.1.1,hk_.1.1.1.2.1,hk_.1.1.1.2.2.1,hk_.1.1.1.2.2.2.1,hk_.1.1.1.2.2.2.2,hk_.1.1.2,hk_.1.2⟩));have n6_:=Aside0.mk (blk_kept (by (with_reducible repeat (first|apply blk_drewN|apply blk_drew|apply blk_alloc));exact BK188.out) hkp (fun hs_=>Or.elim hs_ (fun e_=>(fun e_=>(R_ne HO_214001.out BK188.out (by decide)) e_) e_) (fun e_=>(fun e_=>(R_ne HO_214002.out BK188.out (by decide)) e_) e_)));have n7_:=Aside0.mk (blk_kept (by (with_reducible repeat (first|apply blk_drewN|apply blk_drew|apply blk_alloc));exact BK205.out) hkp (fun hs_=>Or.elim hs_ (fun e_=>(fun e_=>(R_ne HO_214001.out BK205.out (by decide)) e_) e_) (fun e_=>(fun e_=>(R_ne HO_214002.out BK205.out (by decide)) e_) e_)));have n8_:=Aside0.mk (blk_kept (by (with_reducible repeat (first|apply blk_drewN|apply blk_drew|apply blk_alloc));exact BK213.out) hkp (fun hs_=>Or.elim hs_ (fun e_=>(fun e_=>(R_ne HO_214001.out BK213.out (by decide)) e_) e_) (fun e_=>(fun e_=>(R_ne HO_214002.out BK213.out (by decide)) e_) e_)));have n9_:=Aside0.mk (blk_kept (by (with_reducible repeat (first|apply blk_drewN|apply blk_drew|apply blk_alloc));exact BK222.out) hkp (fun hs_=>Or.elim hs_ (fun e_=>(fun e_=>(R_ne HO_214001.out BK222.out (by decide)) e_) e_) (fun e_=>(fun e_=>(R_ne HO_214002.out BK222.out (by decide)) e_) e_)));have n10_:=Aside0.mk (R_mono (ok':=fun k_=>some k_ ≠ (.slice Ao23 t198.length co23 : Value).ownBlock ∧ some k_ ≠ (.slice Ao24 t201.length co24 : Value).ownBlock ∧ some k_ ≠ (.slice Ao31 t207.length co31 : Value).ownBlock ∧ some k_ ≠ (.slice Ao32 t210.length co32 : Value).ownBlock ∧ some k_ ≠ (.slice Ao39 t215.length co39 : Value).ownBlock ∧ some k_ ≠ (.slice Ao40 t218.length co40 : Value).ownBlock ∧ some k_ ≠ (.slice Ao68 t228.length co68 : Value).ownBlock) (R_keptB (HO227.out) hkp (fun k_ hk_ hs_=>Or.elim hs_ (fun e_=>(hk_.1.1.1.2) e_) (fun e_=>(hk_.1.1.2) e_))) (fun k_ hk_=>⟨hk_.1.1.1.1.1.1.2,hk_.1.1.1.1.1.2,hk_.1.1.1.1.2,hk_.1.1.1.2,hk_.1.1.2,hk_.1.2,hk_.1.1.1.1.1.1.1⟩));have n11_:=Aside0.mk (R_mono (ok':=fun k_=>some k_ ≠ (.slice Ao23 t198.length co23 : Value).ownBlock ∧ some k_ ≠ (.slice Ao24 t201.length co24 : Value).ownBlock ∧ some k_ ≠ (.slice Ao31 t207.length co31 : Value).ownBlock ∧ some k_ ≠ (.slice Ao32 t210.length co32 : Value).ownBlock ∧ some k_ ≠ (.slice Ao39 t215.length co39 : Value).ownBlock ∧ some k_ ≠ (.slice Ao40 t218.length co40 : Value).ownBlock ∧ some k_ ≠ (.slice Ao67 t225.length co67 : Value).ownBlock) (R_keptB (HO230.out) hkp (fun k_ hk_ hs_=>Or.elim hs_ (fun e_=>(hk_.1.1.1.2) e_) (fun e_=>(hk_.1.1.2) e_))) (fun k_ hk_=>⟨hk_.1.1.1.1.1.1.2,hk_.1.1.1.1.1.2,hk_.1.1.1.1.2,hk_.1.1.1.2,hk_.1.1.2,hk_.1.2,hk_.1.1.1.1.1.1.1⟩));have n12_:=Aside0.mk (hb);clear HO_206001;clear HO_206002;clear HO_214001;clear HO_214002;clear HO_223001;clear HO_223002;clear BK188;clear BK205;clear BK213;clear BK222;clear HO227;clear HO230;clear HB;have HO_206001:=n0_;have HO_206002:=n1_;have HO_214001:=n2_;have HO_214002:=n3_;have HO_223001:=n4_;have HO_223002:=n5_;have BK188:=n6_;have BK205:=n7_;have BK213:=n8_;have BK222:=n9_;have HO227:=n10_;have HO230:=n11_;have HB:=n12_;clear n0_ n1_ n2_ n3_ n4_ n5_ n6_ n7_ n8_ n9_ n10_ n11_ n12_;(try clear hb);(try clear hkp);(try clear hy0);(try clear hy1)))
  (try simp only [Act.put,List.setIfInBounds_toArray,List.set_cons_zero,List.set_cons_succ])
  go_cut [61] (fun v61 wc=>∃ (kq : Nat) (x61_63 : Bool),v61 = .bool x61_63 ∧ Aside0 (laws_FnExactMirrorWire.j1 kq t204 x61_63 a0_0 l0_1 l0_2 t197 t198 t201 t214 t215 t218 = some r) ∧ Aside0 (kq ≤ kj10) ∧ Aside0 (Kd.R (Kd.int .i64) 3 wc w.heap.size (fun k_=>some k_ ≠ ((.slice Ao24 t201.length co24) : Value).ownBlock ∧ some k_ ≠ ((.slice Ao31 t207.length co31) : Value).ownBlock ∧ some k_ ≠ ((.slice Ao32 t210.length co32) : Value).ownBlock ∧ some k_ ≠ ((.slice Ao39 t215.length co39) : Value).ownBlock ∧ some k_ ≠ ((.slice Ao40 t218.length co40) : Value).ownBlock) (.slice Ao23 t198.length co23) t198) ∧ Aside0 (Kd.R (Kd.int .i64) 3 wc w.heap.size (fun k_=>some k_ ≠ ((.slice Ao23 t198.length co23) : Value).ownBlock ∧ some k_ ≠ ((.slice Ao31 t207.length co31) : Value).ownBlock ∧ some k_ ≠ ((.slice Ao32 t210.length co32) : Value).ownBlock ∧ some k_ ≠ ((.slice Ao39 t215.length co39) : Value).ownBlock ∧ some k_ ≠ ((.slice Ao40 t218.length co40) : Value).ownBlock) (.slice Ao24 t201.length co24) t201) ∧ Aside0 (Kd.R (Kd.int .i64) 3 wc w.heap.size (fun k_=>some k_ ≠ ((.slice Ao23 t198.length co23) : Value).ownBlock ∧ some k_ ≠ ((.slice Ao24 t201.length co24) : Value).ownBlock ∧ some k_ ≠ ((.slice Ao32 t210.length co32) : Value).ownBlock ∧ some k_ ≠ ((.slice Ao39 t215.length co39) : Value).ownBlock ∧ some k_ ≠ ((.slice Ao40 t218.length co40) : Value).ownBlock) (.slice Ao31 t207.length co31) t233) ∧ Aside0 (Kd.R (Kd.int .i64) 3 wc w.heap.size (fun k_=>some k_ ≠ ((.slice Ao23 t198.length co23) : Value).ownBlock ∧ some k_ ≠ ((.slice Ao24 t201.length co24) : Value).ownBlock ∧ some k_ ≠ ((.slice Ao31 t207.length co31) : Value).ownBlock ∧ some k_ ≠ ((.slice Ao39 t215.length co39) : Value).ownBlock ∧ some k_ ≠ ((.slice Ao40 t218.length co40) : Value).ownBlock) (.slice Ao32 t210.length co32) t234) ∧ Aside0 (Kd.R (Kd.int .i64) 3 wc w.heap.size (fun k_=>some k_ ≠ ((.slice Ao23 t198.length co23) : Value).ownBlock ∧ some k_ ≠ ((.slice Ao24 t201.length co24) : Value).ownBlock ∧ some k_ ≠ ((.slice Ao31 t207.length co31) : Value).ownBlock ∧ some k_ ≠ ((.slice Ao32 t210.length co32) : Value).ownBlock ∧ some k_ ≠ ((.slice Ao40 t218.length co40) : Value).ownBlock) (.slice Ao39 t215.length co39) t215) ∧ Aside0 (Kd.R (Kd.int .i64) 3 wc w.heap.size (fun k_=>some k_ ≠ ((.slice Ao23 t198.length co23) : Value).ownBlock ∧ some k_ ≠ ((.slice Ao24 t201.length co24) : Value).ownBlock ∧ some k_ ≠ ((.slice Ao31 t207.length co31) : Value).ownBlock ∧ some k_ ≠ ((.slice Ao32 t210.length co32) : Value).ownBlock ∧ some k_ ≠ ((.slice Ao39 t215.length co39) : Value).ownBlock) (.slice Ao40 t218.length co40) t218) ∧ Aside0 (wc.heap[gb188]? = some (.cells #[.int .i64 a0_0,(.slice A0_1 l0_1.length c0_1),(.slice A0_2 l0_2.length c0_2)] 24 (0,0))) ∧ Aside0 (wc.heap[gb205]? = some (.cells #[.int .i64 t197,(.slice Ao23 t198.length co23),(.slice Ao24 t201.length co24)] 27 (0,0))) ∧ Aside0 (wc.heap[gb213]? = some (.cells #[.int .i64 t206,(.slice Ao31 t207.length co31),(.slice Ao32 t210.length co32)] 27 (0,0))) ∧ Aside0 (wc.heap[gb222]? = some (.cells #[.int .i64 t214,(.slice Ao39 t215.length co39),(.slice Ao40 t218.length co40)] 27 (0,0))) ∧ Aside0 (Below w.heap.size w wc))
  case first =>
   have H:=HC64.out
   clear HC64
   by_cases c75 : t232 < 0
   ·rw [if_pos c75] at H
    have c75b0 : decide (t232 < 0) = true:=decide_eq_true c75
    clear c75
    (first|rw [c75b0]|(simp only [i64_w,i32_w];rw [c75b0])|skip)
    have H':=Aside0.mk H
    clear H
    go_wp2
    go_meet
    case rel=>exact ⟨_,(true),(by first|rfl|(simp;done)|(simp [*];done)),H',⟨by have:=HJ10.out;first|omega|exact Nat.le_refl _⟩,⟨by (with_reducible repeat (first|apply R_alloc|apply R_drewN|apply R_drew));exact R_mono HO_206001.out (fun _ hk=>⟨hk.1,⟨hk.2.1,⟨hk.2.2.1,⟨hk.2.2.2.1,hk.2.2.2.2.1⟩⟩⟩⟩)⟩,⟨by (with_reducible repeat (first|apply R_alloc|apply R_drewN|apply R_drew));exact R_mono HO_206002.out (fun _ hk=>⟨hk.1,⟨hk.2.1,⟨hk.2.2.1,⟨hk.2.2.2.1,hk.2.2.2.2.1⟩⟩⟩⟩)⟩,⟨by (with_reducible repeat (first|apply R_alloc|apply R_drewN|apply R_drew));exact R_mono HO_214001.out (fun _ hk=>⟨hk.1.1.1,⟨hk.1.1.2.1,⟨hk.1.1.2.2.1,⟨hk.1.1.2.2.2.1,hk.1.1.2.2.2.2⟩⟩⟩⟩)⟩,⟨by (with_reducible repeat (first|apply R_alloc|apply R_drewN|apply R_drew));exact R_mono HO_214002.out (fun _ hk=>⟨hk.1.1.1,⟨hk.1.1.2.1,⟨hk.1.1.2.2.1,⟨hk.1.1.2.2.2.1,hk.1.1.2.2.2.2⟩⟩⟩⟩)⟩,⟨by (with_reducible repeat (first|apply R_alloc|apply R_drewN|apply R_drew));exact R_mono HO_223001.out (fun _ hk=>⟨hk.1,⟨hk.2.1,⟨hk.2.2.1,⟨hk.2.2.2.1,hk.2.2.2.2.1⟩⟩⟩⟩)⟩,⟨by (with_reducible repeat (first|apply R_alloc|apply R_drewN|apply R_drew));exact R_mono HO_223002.out (fun _ hk=>⟨hk.1,⟨hk.2.1,⟨hk.2.2.1,⟨hk.2.2.2.1,hk.2.2.2.2.1⟩⟩⟩⟩)⟩,⟨by (with_reducible repeat (first|apply blk_drewN|apply blk_drew|apply blk_alloc));exact BK188.out⟩,⟨by (with_reducible repeat (first|apply blk_drewN|apply blk_drew|apply blk_alloc));exact BK205.out⟩,⟨by (with_reducible repeat (first|apply blk_drewN|apply blk_drew|apply blk_alloc));exact BK213.out⟩,⟨by (with_reducible repeat (first|apply blk_drewN|apply blk_drew|apply blk_alloc));exact BK222.out⟩,⟨by repeat (first|(with_reducible first|exact HB.out|apply below_alloc|apply pw_below_drewN|apply below_drew1|refine below_set ?_ GE188.out|refine below_set ?_ GE205.out|refine below_set ?_ GE213.out|refine below_set ?_ GE222.out)|exact HB.out)⟩⟩
   rw [if_neg c75] at H
   have c75b0 : decide (t232 < 0) = false:=decide_eq_false c75
   clear c75
   (first|rw [c75b0]|(simp only [i64_w,i32_w];rw [c75b0])|skip)
   replace H:=Option.bind_eq_some_iff.mp H
   obtain ⟨t235,A760,H⟩:=H
   replace H : (if t235 = true then (laws_FnExactMirrorWire.j1 kj10 t204 (t221 != t204) a0_0 l0_1 l0_2 t197 t198 t201 t214 t215 t218) else (laws_FnExactMirrorWire.j1 kj10 t204 true a0_0 l0_1 l0_2 t197 t198 t201 t214 t215 t218)) = some r:=H
   have A76:=Aside0.mk A760
   clear A760
   by_cases c77 : t235 = true
   ·subst c77
    have H1 : (laws_FnExactMirrorWire.j1 kj10 t204 (t221 != t204) a0_0 l0_1 l0_2 t197 t198 t201 t214 t215 t218) = some r:=by rw [if_pos rfl] at H;exact H
    clear H
    have H:=H1
    clear H1
    have H':=Aside0.mk H
    clear H
    have hnb78:=NB222_188.out
    have hnc78:=NB188_222.out
    have hnb79:=NB222_205.out
    have hnc79:=NB205_222.out
    have hnb80:=NB222_213.out
    have hnc80:=NB213_222.out
    have hcz81_0 : w74.cell? ⟨gb222,0,none⟩ = some (.int .i64 t214):=(blk_cell BK222.out 0).trans rfl
    have hcz81_1 : w74.cell? ⟨gb222,1,none⟩ = some (.slice Ao39 t215.length co39):=(blk_cell BK222.out 1).trans rfl
    have hcz81_2 : w74.cell? ⟨gb222,2,none⟩ = some (.slice Ao40 t218.length co40):=(blk_cell BK222.out 2).trans rfl
    have hfz81_0:=blk_frozen BK222.out 0
    have hfz81_1:=blk_frozen BK222.out 1
    have hfz81_2:=blk_frozen BK222.out 2
    have hnb82:=NB205_188.out
    have hnc82:=NB188_205.out
    have hnb83:=NB205_213.out
    have hnc83:=NB213_205.out
    have hcz84_0 : w74.cell? ⟨gb205,0,none⟩ = some (.int .i64 t197):=(blk_cell BK205.out 0).trans rfl
    have hcz84_1 : w74.cell? ⟨gb205,1,none⟩ = some (.slice Ao23 t198.length co23):=(blk_cell BK205.out 1).trans rfl
    have hcz84_2 : w74.cell? ⟨gb205,2,none⟩ = some (.slice Ao24 t201.length co24):=(blk_cell BK205.out 2).trans rfl
    have hfz84_0:=blk_frozen BK205.out 0
    have hfz84_1:=blk_frozen BK205.out 1
    have hfz84_2:=blk_frozen BK205.out 2
    go_wp2_with (first|(go_at_call 15;(with_reducible refine (laws_eqWire.calls kj10 t214 _ _ t215 _ _ t218 t197 _ _ t198 _ _ t201 true _ ?side1 ?side2 ?side3 ?side4 ?side5 ?side6 ?side7 ?side8 A76.out).mono ?_);(case side1=>repeat (first|exact (R_reads' HO_223001.out).2.2|(with_reducible refine C_alloc ?_ _)|(with_reducible refine C_drewN ?_ _)|(with_reducible refine C_drew ?_)));(case side2=>exact (R_reads' HO_223001.out).2.1);(case side3=>repeat (first|exact (R_reads' HO_223002.out).2.2|(with_reducible refine C_alloc ?_ _)|(with_reducible refine C_drewN ?_ _)|(with_reducible refine C_drew ?_)));(case side4=>exact (R_reads' HO_223002.out).2.1);(case side5=>repeat (first|exact (R_reads' HO_206001.out).2.2|(with_reducible refine C_alloc ?_ _)|(with_reducible refine C_drewN ?_ _)|(with_reducible refine C_drew ?_)));(case side6=>exact (R_reads' HO_206001.out).2.1);(case side7=>repeat (first|exact (R_reads' HO_206002.out).2.2|(with_reducible refine C_alloc ?_ _)|(with_reducible refine C_drewN ?_ _)|(with_reducible refine C_drew ?_)));(case side8=>exact (R_reads' HO_206002.out).2.1);rintro e w85 ⟨rfl,hb⟩;have n0_:=Aside0.mk (R_below (by (with_reducible repeat (first|apply R_alloc|apply R_drewN|apply R_drew));exact HO_206001.out) hb);have n1_:=Aside0.mk (R_below (by (with_reducible repeat (first|apply R_alloc|apply R_drewN|apply R_drew));exact HO_206002.out) hb);have n2_:=Aside0.mk (R_below (by (with_reducible repeat (first|apply R_alloc|apply R_drewN|apply R_drew));exact HO_214001.out) hb);have n3_:=Aside0.mk (R_below (by (with_reducible repeat (first|apply R_alloc|apply R_drewN|apply R_drew));exact HO_214002.out) hb);have n4_:=Aside0.mk (R_below (by (with_reducible repeat (first|apply R_alloc|apply R_drewN|apply R_drew));exact HO_223001.out) hb);have n5_:=Aside0.mk (R_below (by (with_reducible repeat (first|apply R_alloc|apply R_drewN|apply R_drew));exact HO_223002.out) hb);have n6_:=Aside0.mk (R_below (by (with_reducible repeat (first|apply R_alloc|apply R_drewN|apply R_drew));exact HO227.out) hb);have n7_:=Aside0.mk (R_below (by (with_reducible repeat (first|apply R_alloc|apply R_drewN|apply R_drew));exact HO230.out) hb);have n8_:=Aside0.mk (blk_below (g:=gb188) (o:=.cells #[.int .i64 a0_0,.slice A0_1 l0_1.length c0_1,.slice A0_2 l0_2.length c0_2] 24 (0,0)) (by (with_reducible repeat (first|apply blk_drewN|apply blk_drew|apply blk_alloc));exact BK188.out) hb);have n9_:=Aside0.mk (blk_below (g:=gb205) (o:=.cells #[.int .i64 t197,.slice Ao23 t198.length co23,.slice Ao24 t201.length co24] 27 (0,0)) (by (with_reducible repeat (first|apply blk_drewN|apply blk_drew|apply blk_alloc));exact BK205.out) hb);have n10_:=Aside0.mk (blk_below (g:=gb213) (o:=.cells #[.int .i64 t206,.slice Ao31 t207.length co31,.slice Ao32 t210.length co32] 27 (0,0)) (by (with_reducible repeat (first|apply blk_drewN|apply blk_drew|apply blk_alloc));exact BK213.out) hb);have n11_:=Aside0.mk (blk_below (g:=gb222) (o:=.cells #[.int .i64 t214,.slice Ao39 t215.length co39,.slice Ao40 t218.length co40] 27 (0,0)) (by (with_reducible repeat (first|apply blk_drewN|apply blk_drew|apply blk_alloc));exact BK222.out) hb);have n12_:=Aside0.mk (below_step (by repeat (first|(with_reducible first|exact HB.out|apply below_alloc|apply pw_below_drewN|apply below_drew1|refine below_set ?_ GE188.out|refine below_set ?_ GE205.out|refine below_set ?_ GE213.out|refine below_set ?_ GE222.out)|exact HB.out)) hb);clear HO_206001;clear HO_206002;clear HO_214001;clear HO_214002;clear HO_223001;clear HO_223002;clear HO227;clear HO230;clear BK188;clear BK205;clear BK213;clear BK222;clear HB;have HO_206001:=n0_;have HO_206002:=n1_;have HO_214001:=n2_;have HO_214002:=n3_;have HO_223001:=n4_;have HO_223002:=n5_;have HO227:=n6_;have HO230:=n7_;have BK188:=n8_;have BK205:=n9_;have BK213:=n10_;have BK222:=n11_;have HB:=n12_;clear n0_ n1_ n2_ n3_ n4_ n5_ n6_ n7_ n8_ n9_ n10_ n11_ n12_;(try clear hb);(try clear hb2);(try clear hk);(try clear hi)))
    go_meet
    case rel=>exact ⟨_,((t221 != t204)),(by first|rfl|(simp;done)|(simp [*];done)),H',⟨by have:=HJ10.out;first|omega|exact Nat.le_refl _⟩,⟨by (with_reducible repeat (first|apply R_alloc|apply R_drewN|apply R_drew));exact R_mono HO_206001.out (fun _ hk=>⟨hk.1,⟨hk.2.1,⟨hk.2.2.1,⟨hk.2.2.2.1,hk.2.2.2.2.1⟩⟩⟩⟩)⟩,⟨by (with_reducible repeat (first|apply R_alloc|apply R_drewN|apply R_drew));exact R_mono HO_206002.out (fun _ hk=>⟨hk.1,⟨hk.2.1,⟨hk.2.2.1,⟨hk.2.2.2.1,hk.2.2.2.2.1⟩⟩⟩⟩)⟩,⟨by (with_reducible repeat (first|apply R_alloc|apply R_drewN|apply R_drew));exact R_mono HO_214001.out (fun _ hk=>⟨hk.1.1.1,⟨hk.1.1.2.1,⟨hk.1.1.2.2.1,⟨hk.1.1.2.2.2.1,hk.1.1.2.2.2.2⟩⟩⟩⟩)⟩,⟨by (with_reducible repeat (first|apply R_alloc|apply R_drewN|apply R_drew));exact R_mono HO_214002.out (fun _ hk=>⟨hk.1.1.1,⟨hk.1.1.2.1,⟨hk.1.1.2.2.1,⟨hk.1.1.2.2.2.1,hk.1.1.2.2.2.2⟩⟩⟩⟩)⟩,⟨by (with_reducible repeat (first|apply R_alloc|apply R_drewN|apply R_drew));exact R_mono HO_223001.out (fun _ hk=>⟨hk.1,⟨hk.2.1,⟨hk.2.2.1,⟨hk.2.2.2.1,hk.2.2.2.2.1⟩⟩⟩⟩)⟩,⟨by (with_reducible repeat (first|apply R_alloc|apply R_drewN|apply R_drew));exact R_mono HO_223002.out (fun _ hk=>⟨hk.1,⟨hk.2.1,⟨hk.2.2.1,⟨hk.2.2.2.1,hk.2.2.2.2.1⟩⟩⟩⟩)⟩,⟨by (with_reducible repeat (first|apply blk_drewN|apply blk_drew|apply blk_alloc));exact BK188.out⟩,⟨by (with_reducible repeat (first|apply blk_drewN|apply blk_drew|apply blk_alloc));exact BK205.out⟩,⟨by (with_reducible repeat (first|apply blk_drewN|apply blk_drew|apply blk_alloc));exact BK213.out⟩,⟨by (with_reducible repeat (first|apply blk_drewN|apply blk_drew|apply blk_alloc));exact BK222.out⟩,⟨by repeat (first|(with_reducible first|exact HB.out|apply below_alloc|apply pw_below_drewN|apply below_drew1|refine below_set ?_ GE188.out|refine below_set ?_ GE205.out|refine below_set ?_ GE213.out|refine below_set ?_ GE222.out)|exact HB.out)⟩⟩
   replace c77:=Bool.eq_false_iff.mpr c77
   subst c77
   have H1 : (laws_FnExactMirrorWire.j1 kj10 t204 true a0_0 l0_1 l0_2 t197 t198 t201 t214 t215 t218) = some r:=by rw [if_neg (show ¬ (false = true) by decide)] at H;exact H
   clear H
   have H:=H1
   clear H1
   have H':=Aside0.mk H
   clear H
   have hnb86:=NB222_188.out
   have hnc86:=NB188_222.out
   have hnb87:=NB222_205.out
   have hnc87:=NB205_222.out
   have hnb88:=NB222_213.out
   have hnc88:=NB213_222.out
   have hcz89_0 : w74.cell? ⟨gb222,0,none⟩ = some (.int .i64 t214):=(blk_cell BK222.out 0).trans rfl
   have hcz89_1 : w74.cell? ⟨gb222,1,none⟩ = some (.slice Ao39 t215.length co39):=(blk_cell BK222.out 1).trans rfl
   have hcz89_2 : w74.cell? ⟨gb222,2,none⟩ = some (.slice Ao40 t218.length co40):=(blk_cell BK222.out 2).trans rfl
   have hfz89_0:=blk_frozen BK222.out 0
   have hfz89_1:=blk_frozen BK222.out 1
   have hfz89_2:=blk_frozen BK222.out 2
   have hnb90:=NB205_188.out
   have hnc90:=NB188_205.out
   have hnb91:=NB205_213.out
   have hnc91:=NB213_205.out
   have hcz92_0 : w74.cell? ⟨gb205,0,none⟩ = some (.int .i64 t197):=(blk_cell BK205.out 0).trans rfl
   have hcz92_1 : w74.cell? ⟨gb205,1,none⟩ = some (.slice Ao23 t198.length co23):=(blk_cell BK205.out 1).trans rfl
   have hcz92_2 : w74.cell? ⟨gb205,2,none⟩ = some (.slice Ao24 t201.length co24):=(blk_cell BK205.out 2).trans rfl
   have hfz92_0:=blk_frozen BK205.out 0
   have hfz92_1:=blk_frozen BK205.out 1
   have hfz92_2:=blk_frozen BK205.out 2
   go_wp2_with (first|(go_at_call 15;(with_reducible refine (laws_eqWire.calls kj10 t214 _ _ t215 _ _ t218 t197 _ _ t198 _ _ t201 false _ ?side1 ?side2 ?side3 ?side4 ?side5 ?side6 ?side7 ?side8 A76.out).mono ?_);(case side1=>repeat (first|exact (R_reads' HO_223001.out).2.2|(with_reducible refine C_alloc ?_ _)|(with_reducible refine C_drewN ?_ _)|(with_reducible refine C_drew ?_)));(case side2=>exact (R_reads' HO_223001.out).2.1);(case side3=>repeat (first|exact (R_reads' HO_223002.out).2.2|(with_reducible refine C_alloc ?_ _)|(with_reducible refine C_drewN ?_ _)|(with_reducible refine C_drew ?_)));(case side4=>exact (R_reads' HO_223002.out).2.1);(case side5=>repeat (first|exact (R_reads' HO_206001.out).2.2|(with_reducible refine C_alloc ?_ _)|(with_reducible refine C_drewN ?_ _)|(with_reducible refine C_drew ?_)));(case side6=>exact (R_reads' HO_206001.out).2.1);(case side7=>repeat (first|exact (R_reads' HO_206002.out).2.2|(with_reducible refine C_alloc ?_ _)|(with_reducible refine C_drewN ?_ _)|(with_reducible refine C_drew ?_)));(case side8=>exact (R_reads' HO_206002.out).2.1);rintro e w93 ⟨rfl,hb⟩;have n0_:=Aside0.mk (R_below (by (with_reducible repeat (first|apply R_alloc|apply R_drewN|apply R_drew));exact HO_206001.out) hb);have n1_:=Aside0.mk (R_below (by (with_reducible repeat (first|apply R_alloc|apply R_drewN|apply R_drew));exact HO_206002.out) hb);have n2_:=Aside0.mk (R_below (by (with_reducible repeat (first|apply R_alloc|apply R_drewN|apply R_drew));exact HO_214001.out) hb);have n3_:=Aside0.mk (R_below (by (with_reducible repeat (first|apply R_alloc|apply R_drewN|apply R_drew));exact HO_214002.out) hb);have n4_:=Aside0.mk (R_below (by (with_reducible repeat (first|apply R_alloc|apply R_drewN|apply R_drew));exact HO_223001.out) hb);have n5_:=Aside0.mk (R_below (by (with_reducible repeat (first|apply R_alloc|apply R_drewN|apply R_drew));exact HO_223002.out) hb);have n6_:=Aside0.mk (R_below (by (with_reducible repeat (first|apply R_alloc|apply R_drewN|apply R_drew));exact HO227.out) hb);have n7_:=Aside0.mk (R_below (by (with_reducible repeat (first|apply R_alloc|apply R_drewN|apply R_drew));exact HO230.out) hb);have n8_:=Aside0.mk (blk_below (g:=gb188) (o:=.cells #[.int .i64 a0_0,.slice A0_1 l0_1.length c0_1,.slice A0_2 l0_2.length c0_2] 24 (0,0)) (by (with_reducible repeat (first|apply blk_drewN|apply blk_drew|apply blk_alloc));exact BK188.out) hb);have n9_:=Aside0.mk (blk_below (g:=gb205) (o:=.cells #[.int .i64 t197,.slice Ao23 t198.length co23,.slice Ao24 t201.length co24] 27 (0,0)) (by (with_reducible repeat (first|apply blk_drewN|apply blk_drew|apply blk_alloc));exact BK205.out) hb);have n10_:=Aside0.mk (blk_below (g:=gb213) (o:=.cells #[.int .i64 t206,.slice Ao31 t207.length co31,.slice Ao32 t210.length co32] 27 (0,0)) (by (with_reducible repeat (first|apply blk_drewN|apply blk_drew|apply blk_alloc));exact BK213.out) hb);have n11_:=Aside0.mk (blk_below (g:=gb222) (o:=.cells #[.int .i64 t214,.slice Ao39 t215.length co39,.slice Ao40 t218.length co40] 27 (0,0)) (by (with_reducible repeat (first|apply blk_drewN|apply blk_drew|apply blk_alloc));exact BK222.out) hb);have n12_:=Aside0.mk (below_step (by repeat (first|(with_reducible first|exact HB.out|apply below_alloc|apply pw_below_drewN|apply below_drew1|refine below_set ?_ GE188.out|refine below_set ?_ GE205.out|refine below_set ?_ GE213.out|refine below_set ?_ GE222.out)|exact HB.out)) hb);clear HO_206001;clear HO_206002;clear HO_214001;clear HO_214002;clear HO_223001;clear HO_223002;clear HO227;clear HO230;clear BK188;clear BK205;clear BK213;clear BK222;clear HB;have HO_206001:=n0_;have HO_206002:=n1_;have HO_214001:=n2_;have HO_214002:=n3_;have HO_223001:=n4_;have HO_223002:=n5_;have HO227:=n6_;have HO230:=n7_;have BK188:=n8_;have BK205:=n9_;have BK213:=n10_;have BK222:=n11_;have HB:=n12_;clear n0_ n1_ n2_ n3_ n4_ n5_ n6_ n7_ n8_ n9_ n10_ n11_ n12_;(try clear hb);(try clear hb2);(try clear hk);(try clear hi)))
   go_meet
   case rel=>exact ⟨_,(true),(by first|rfl|(simp;done)|(simp [*];done)),H',⟨by have:=HJ10.out;first|omega|exact Nat.le_refl _⟩,⟨by (with_reducible repeat (first|apply R_alloc|apply R_drewN|apply R_drew));exact R_mono HO_206001.out (fun _ hk=>⟨hk.1,⟨hk.2.1,⟨hk.2.2.1,⟨hk.2.2.2.1,hk.2.2.2.2.1⟩⟩⟩⟩)⟩,⟨by (with_reducible repeat (first|apply R_alloc|apply R_drewN|apply R_drew));exact R_mono HO_206002.out (fun _ hk=>⟨hk.1,⟨hk.2.1,⟨hk.2.2.1,⟨hk.2.2.2.1,hk.2.2.2.2.1⟩⟩⟩⟩)⟩,⟨by (with_reducible repeat (first|apply R_alloc|apply R_drewN|apply R_drew));exact R_mono HO_214001.out (fun _ hk=>⟨hk.1.1.1,⟨hk.1.1.2.1,⟨hk.1.1.2.2.1,⟨hk.1.1.2.2.2.1,hk.1.1.2.2.2.2⟩⟩⟩⟩)⟩,⟨by (with_reducible repeat (first|apply R_alloc|apply R_drewN|apply R_drew));exact R_mono HO_214002.out (fun _ hk=>⟨hk.1.1.1,⟨hk.1.1.2.1,⟨hk.1.1.2.2.1,⟨hk.1.1.2.2.2.1,hk.1.1.2.2.2.2⟩⟩⟩⟩)⟩,⟨by (with_reducible repeat (first|apply R_alloc|apply R_drewN|apply R_drew));exact R_mono HO_223001.out (fun _ hk=>⟨hk.1,⟨hk.2.1,⟨hk.2.2.1,⟨hk.2.2.2.1,hk.2.2.2.2.1⟩⟩⟩⟩)⟩,⟨by (with_reducible repeat (first|apply R_alloc|apply R_drewN|apply R_drew));exact R_mono HO_223002.out (fun _ hk=>⟨hk.1,⟨hk.2.1,⟨hk.2.2.1,⟨hk.2.2.2.1,hk.2.2.2.2.1⟩⟩⟩⟩)⟩,⟨by (with_reducible repeat (first|apply blk_drewN|apply blk_drew|apply blk_alloc));exact BK188.out⟩,⟨by (with_reducible repeat (first|apply blk_drewN|apply blk_drew|apply blk_alloc));exact BK205.out⟩,⟨by (with_reducible repeat (first|apply blk_drewN|apply blk_drew|apply blk_alloc));exact BK213.out⟩,⟨by (with_reducible repeat (first|apply blk_drewN|apply blk_drew|apply blk_alloc));exact BK222.out⟩,⟨by repeat (first|(with_reducible first|exact HB.out|apply below_alloc|apply pw_below_drewN|apply below_drew1|refine below_set ?_ GE188.out|refine below_set ?_ GE205.out|refine below_set ?_ GE213.out|refine below_set ?_ GE222.out)|exact HB.out)⟩⟩
  clear HC64
  try clear c1
  try clear c2
  try clear p2
  try clear c3
  try clear c3b0
  try clear c4
  try clear c5
  try clear c6
  try clear c7
  try clear c8
  try clear c9
  try clear c11
  try clear c13
  try clear c15
  try clear c21
  try clear c23
  try clear c26
  try clear c27
  try clear c28
  try clear c29
  try clear c35
  try clear c36
  try clear c37
  try clear c42
  try clear c43
  try clear c44
  try clear c45
  try clear c47
  try clear c48
  try clear c51
  try clear c52
  try clear c53
  try clear c55
  try clear c56
  try clear c59
  try clear c62
  try clear c70
  try clear c71
  try clear c72
  try clear c75
  try clear c75b0
  try clear c77
  try clear c78
  try clear c79
  try clear c80
  try clear c82
  try clear c83
  try clear c86
  try clear c87
  try clear c88
  try clear c90
  try clear c91
  try clear hcz13_0
  try clear hcz13_1
  try clear hcz13_2
  try clear hcz15_0
  try clear hcz15_1
  try clear hcz15_2
  try clear hcz22_0
  try clear hcz22_1
  try clear hcz22_2
  try clear hcz25_0
  try clear hcz25_1
  try clear hcz25_2
  try clear hcz30_0
  try clear hcz30_1
  try clear hcz30_2
  try clear hcz38_0
  try clear hcz38_1
  try clear hcz38_2
  try clear hcz46_0
  try clear hcz46_1
  try clear hcz46_2
  try clear hcz49_0
  try clear hcz49_1
  try clear hcz49_2
  try clear hcz54_0
  try clear hcz54_1
  try clear hcz54_2
  try clear hcz57_0
  try clear hcz57_1
  try clear hcz57_2
  try clear hcz5_0
  try clear hcz5_1
  try clear hcz5_2
  try clear hcz73_0
  try clear hcz73_1
  try clear hcz73_2
  try clear hcz81_0
  try clear hcz81_1
  try clear hcz81_2
  try clear hcz84_0
  try clear hcz84_1
  try clear hcz84_2
  try clear hcz89_0
  try clear hcz89_1
  try clear hcz89_2
  try clear hcz92_0
  try clear hcz92_1
  try clear hcz92_2
  try clear hfz13_0
  try clear hfz13_1
  try clear hfz13_2
  try clear hfz15_0
  try clear hfz15_1
  try clear hfz15_2
  try clear hfz22_0
  try clear hfz22_1
  try clear hfz22_2
  try clear hfz25_0
  try clear hfz25_1
  try clear hfz25_2
  try clear hfz30_0
  try clear hfz30_1
  try clear hfz30_2
  try clear hfz38_0
  try clear hfz38_1
  try clear hfz38_2
  try clear hfz46_0
  try clear hfz46_1
  try clear hfz46_2
  try clear hfz49_0
  try clear hfz49_1
  try clear hfz49_2
  try clear hfz54_0
  try clear hfz54_1
  try clear hfz54_2
  try clear hfz57_0
  try clear hfz57_1
  try clear hfz57_2
  try clear hfz5_0
  try clear hfz5_1
  try clear hfz5_2
  try clear hfz73_0
  try clear hfz73_1
  try clear hfz73_2
  try clear hfz81_0
  try clear hfz81_1
  try clear hfz81_2
  try clear hfz84_0
  try clear hfz84_1
  try clear hfz84_2
  try clear hfz89_0
  try clear hfz89_1
  try clear hfz89_2
  try clear hfz92_0
  try clear hfz92_1
  try clear hfz92_2
  try clear p2
  obtain ⟨kq,x61_63,rfl,HA,HJ63,HO_206001,HO_206002,HO_214001,HO_214002,HO_223001,HO_223002,BK188,BK205,BK213,BK222,HB⟩:=hcut
  have hl214001_63:=(R_reads' HO_214001.out).1
  rw [hl214001_63] at HO_214001
  (try simp only [hl214001_63])
  (try simp only [hl214001_63] at BK188)
  (try simp only [hl214001_63] at BK205)
  (try simp only [hl214001_63] at BK213)
  (try simp only [hl214001_63] at BK222)
  (try simp only [hl214001_63] at HO_206001)
  (try simp only [hl214001_63] at HO_206002)
  (try simp only [hl214001_63] at HO_214002)
  (try simp only [hl214001_63] at HO_223001)
  (try simp only [hl214001_63] at HO_223002)
  have hl214002_63:=(R_reads' HO_214002.out).1
  rw [hl214002_63] at HO_214002
  (try simp only [hl214002_63])
  (try simp only [hl214002_63] at BK188)
  (try simp only [hl214002_63] at BK205)
  (try simp only [hl214002_63] at BK213)
  (try simp only [hl214002_63] at BK222)
  (try simp only [hl214002_63] at HO_206001)
  (try simp only [hl214002_63] at HO_206002)
  (try simp only [hl214002_63] at HO_214001)
  (try simp only [hl214002_63] at HO_223001)
  (try simp only [hl214002_63] at HO_223002)
  cases kq with
  | zero=>exact absurd HA.out (by simp [laws_FnExactMirrorWire.j1])
  | succ kj63 =>
   have H:=HA.out
   clear HA
   simp only [laws_FnExactMirrorWire.j1] at H
   by_cases c94 : x61_63 = true
   ·subst c94
    have H1 : (some false) = some r:=by rw [if_pos rfl] at H;exact H
    clear H
    have H:=H1
    clear H1
    obtain rfl:=Option.some.inj H
    go_wp2
    go_ret
    exact ⟨by first|rfl|(simp [errW_none,errW_some] <;> rfl)|(simp [*,errW_none,errW_some] <;> rfl),by repeat (first|(with_reducible first|exact HB.out|apply below_alloc|apply pw_below_drewN|apply below_drew1|refine below_set ?_ GE188.out|refine below_set ?_ GE205.out|refine below_set ?_ GE213.out|refine below_set ?_ GE222.out)|exact HB.out)⟩
   replace c94:=Bool.eq_false_iff.mpr c94
   subst c94
   have H1 : ((laws_markWire.f kj63 t214 t215 t218 1).bind fun bt236=>((laws_heldWire.f kj63 t214 bt236.2.1 bt236.2.2 1).bind fun t239=>(if t239 < 0 then (some false) else (if t239 = bt236.1 then ((laws_toWire.f kj63 a0_0 l0_1 l0_2).bind fun bt240=>((impl_MirrorWire.f kj63 bt240.1 bt240.2.1 bt240.2.2).bind fun bt247=>((laws_eqWire.f kj63 bt247.1 bt247.2.1 bt247.2.2.1 t197 t198 t201).bind fun t256=>(if t256 = true then (laws_FnExactMirrorWire.j2 kj63 bt236.1 (bt247.2.2.2 != t204) t214 bt236.2.1 bt236.2.2) else (laws_FnExactMirrorWire.j2 kj63 bt236.1 true t214 bt236.2.1 bt236.2.2))))) else (some false))))) = some r:=by rw [if_neg (show ¬ (false = true) by decide)] at H;exact H
   clear H
   have H:=H1
   clear H1
   replace H:=Option.bind_eq_some_iff.mp H
   obtain ⟨⟨t236,t237,t238⟩,A950,H⟩:=H
   replace H : ((laws_heldWire.f kj63 t214 t237 t238 1).bind fun t239=>(if t239 < 0 then (some false) else (if t239 = t236 then ((laws_toWire.f kj63 a0_0 l0_1 l0_2).bind fun bt240=>((impl_MirrorWire.f kj63 bt240.1 bt240.2.1 bt240.2.2).bind fun bt247=>((laws_eqWire.f kj63 bt247.1 bt247.2.1 bt247.2.2.1 t197 t198 t201).bind fun t256=>(if t256 = true then (laws_FnExactMirrorWire.j2 kj63 t236 (bt247.2.2.2 != t204) t214 t237 t238) else (laws_FnExactMirrorWire.j2 kj63 t236 true t214 t237 t238))))) else (some false)))) = some r:=H
   have A95:=Aside0.mk A950
   clear A950
   replace H:=Option.bind_eq_some_iff.mp H
   obtain ⟨t239,A960,H⟩:=H
   replace H : (if t239 < 0 then (some false) else (if t239 = t236 then ((laws_toWire.f kj63 a0_0 l0_1 l0_2).bind fun bt240=>((impl_MirrorWire.f kj63 bt240.1 bt240.2.1 bt240.2.2).bind fun bt247=>((laws_eqWire.f kj63 bt247.1 bt247.2.1 bt247.2.2.1 t197 t198 t201).bind fun t256=>(if t256 = true then (laws_FnExactMirrorWire.j2 kj63 t236 (bt247.2.2.2 != t204) t214 t237 t238) else (laws_FnExactMirrorWire.j2 kj63 t236 true t214 t237 t238))))) else (some false))) = some r:=H
   have A96:=Aside0.mk A960
   clear A960
   by_cases c97 : t239 < 0
   ·rw [if_pos c97] at H
    have c97b0 : decide (t239 < 0) = true:=decide_eq_true c97
    clear c97
    obtain rfl:=Option.some.inj H
    have hnb98:=NB222_188.out
    have hnc98:=NB188_222.out
    have hnb99:=NB222_205.out
    have hnc99:=NB205_222.out
    have hnb100:=NB222_213.out
    have hnc100:=NB213_222.out
    have hcz101_0 : wc.cell? ⟨gb222,0,none⟩ = some (.int .i64 t214):=(blk_cell BK222.out 0).trans rfl
    have hcz101_1 : wc.cell? ⟨gb222,1,none⟩ = some (.slice Ao39 t215.length co39):=(blk_cell BK222.out 1).trans rfl
    have hcz101_2 : wc.cell? ⟨gb222,2,none⟩ = some (.slice Ao40 t218.length co40):=(blk_cell BK222.out 2).trans rfl
    have hfz101_0:=blk_frozen BK222.out 0
    have hfz101_1:=blk_frozen BK222.out 1
    have hfz101_2:=blk_frozen BK222.out 2
    go_wp2_with (first|((with_reducible refine gate_callee (f:=23) rfl ?_);refine goesL_ (some 64) rfl rfl Try.func23 (by kernel_rfl) rfl #[.agg #[.int .i64 t214,.slice Ao39 t215.length co39,.slice Ao40 t218.length co40],.int .i64 1] rfl (by (try simp only [List.map_toArray,List.map_cons,List.map_nil]);first|done|rfl|(simp only [List.length_drop,List.length_take];rfl)) ?_;(with_reducible refine (laws_markWire.calls kj63 t214 (fun k_=>some k_ = (.slice Ao39 t215.length co39 : Value).ownBlock) (.slice Ao39 t215.length co39) t215 (fun k_=>some k_ = (.slice Ao40 t218.length co40 : Value).ownBlock) (.slice Ao40 t218.length co40) t218 1 t236 t237 t238 w _ ?side1 ?side2 ?side3 ?side4 ?side5 A95.out).mono ?_);(case side1=>repeat (first|(with_reducible first|exact HB.out|apply below_alloc|apply pw_below_drewN|apply below_drew1|refine below_set ?_ GE188.out|refine below_set ?_ GE205.out|refine below_set ?_ GE213.out|refine below_set ?_ GE222.out)|exact HB.out));(case side2=>exact R_tight rfl HO_223001.out);(case side3=>exact fun k_ e_=>(HO_223001.out.1 k_ e_.symm).2.2.2.2);(case side4=>exact R_tight rfl HO_223002.out);(case side5=>exact fun k_ e_=>(HO_223002.out.1 k_ e_.symm).2.2.2.2);rintro e w102 ⟨rfl,hy0,hy1,hb,hkp⟩;refine ⟨_,rfl,?_⟩;have n0_:=Aside0.mk (R_mono (ok':=fun k_=>some k_ ≠ (.slice Ao24 t201.length co24 : Value).ownBlock ∧ some k_ ≠ (.slice Ao31 t233.length co31 : Value).ownBlock ∧ some k_ ≠ (.slice Ao32 t234.length co32 : Value).ownBlock ∧ some k_ ≠ (.slice Ao39 t215.length co39 : Value).ownBlock ∧ some k_ ≠ (.slice Ao40 t218.length co40 : Value).ownBlock) (R_keptB (HO_206001.out) hkp (fun k_ hk_ hs_=>Or.elim hs_ (fun e_=>(hk_.2.2.2.1) e_) (fun e_=>(hk_.2.2.2.2) e_))) (fun k_ hk_=>⟨hk_.1.1,hk_.1.2.1,hk_.1.2.2.1,hk_.1.2.2.2.1,hk_.1.2.2.2.2⟩));have n1_:=Aside0.mk (R_mono (ok':=fun k_=>some k_ ≠ (.slice Ao23 t198.length co23 : Value).ownBlock ∧ some k_ ≠ (.slice Ao31 t233.length co31 : Value).ownBlock ∧ some k_ ≠ (.slice Ao32 t234.length co32 : Value).ownBlock ∧ some k_ ≠ (.slice Ao39 t215.length co39 : Value).ownBlock ∧ some k_ ≠ (.slice Ao40 t218.length co40 : Value).ownBlock) (R_keptB (HO_206002.out) hkp (fun k_ hk_ hs_=>Or.elim hs_ (fun e_=>(hk_.2.2.2.1) e_) (fun e_=>(hk_.2.2.2.2) e_))) (fun k_ hk_=>⟨hk_.1.1,hk_.1.2.1,hk_.1.2.2.1,hk_.1.2.2.2.1,hk_.1.2.2.2.2⟩));have n2_:=Aside0.mk (R_mono (ok':=fun k_=>some k_ ≠ (.slice Ao23 t198.length co23 : Value).ownBlock ∧ some k_ ≠ (.slice Ao24 t201.length co24 : Value).ownBlock ∧ some k_ ≠ (.slice Ao32 t234.length co32 : Value).ownBlock ∧ some k_ ≠ (.slice Ao39 t215.length co39 : Value).ownBlock ∧ some k_ ≠ (.slice Ao40 t218.length co40 : Value).ownBlock) (R_keptB (HO_214001.out) hkp (fun k_ hk_ hs_=>Or.elim hs_ (fun e_=>(hk_.2.2.2.1) e_) (fun e_=>(hk_.2.2.2.2) e_))) (fun k_ hk_=>⟨hk_.1.1,hk_.1.2.1,hk_.1.2.2.1,hk_.1.2.2.2.1,hk_.1.2.2.2.2⟩));have n3_:=Aside0.mk (R_mono (ok':=fun k_=>some k_ ≠ (.slice Ao23 t198.length co23 : Value).ownBlock ∧ some k_ ≠ (.slice Ao24 t201.length co24 : Value).ownBlock ∧ some k_ ≠ (.slice Ao31 t233.length co31 : Value).ownBlock ∧ some k_ ≠ (.slice Ao39 t215.length co39 : Value).ownBlock ∧ some k_ ≠ (.slice Ao40 t218.length co40 : Value).ownBlock) (R_keptB (HO_214002.out) hkp (fun k_ hk_ hs_=>Or.elim hs_ (fun e_=>(hk_.2.2.2.1) e_) (fun e_=>(hk_.2.2.2.2) e_))) (fun k_ hk_=>⟨hk_.1.1,hk_.1.2.1,hk_.1.2.2.1,hk_.1.2.2.2.1,hk_.1.2.2.2.2⟩));have n4_:=Aside0.mk (R_reok rfl hy0 (fun k_ e_=>HO_223001.out.1 k_ e_));have n5_:=Aside0.mk (R_reok rfl hy1 (fun k_ e_=>HO_223002.out.1 k_ e_));have n6_:=Aside0.mk (blk_kept (by (with_reducible repeat (first|apply blk_drewN|apply blk_drew|apply blk_alloc));exact BK188.out) hkp (fun hs_=>Or.elim hs_ (fun e_=>(fun e_=>(R_ne HO_223001.out BK188.out (by decide)) e_) e_) (fun e_=>(fun e_=>(R_ne HO_223002.out BK188.out (by decide)) e_) e_)));have n7_:=Aside0.mk (blk_kept (by (with_reducible repeat (first|apply blk_drewN|apply blk_drew|apply blk_alloc));exact BK205.out) hkp (fun hs_=>Or.elim hs_ (fun e_=>(fun e_=>(R_ne HO_223001.out BK205.out (by decide)) e_) e_) (fun e_=>(fun e_=>(R_ne HO_223002.out BK205.out (by decide)) e_) e_)));have n8_:=Aside0.mk (blk_kept (by (with_reducible repeat (first|apply blk_drewN|apply blk_drew|apply blk_alloc));exact BK213.out) hkp (fun hs_=>Or.elim hs_ (fun e_=>(fun e_=>(R_ne HO_223001.out BK213.out (by decide)) e_) e_) (fun e_=>(fun e_=>(R_ne HO_223002.out BK213.out (by decide)) e_) e_)));have n9_:=Aside0.mk (blk_kept (by (with_reducible repeat (first|apply blk_drewN|apply blk_drew|apply blk_alloc));exact BK222.out) hkp (fun hs_=>Or.elim hs_ (fun e_=>(fun e_=>(R_ne HO_223001.out BK222.out (by decide)) e_) e_) (fun e_=>(fun e_=>(R_ne HO_223002.out BK222.out (by decide)) e_) e_)));have n10_:=Aside0.mk (hb);clear HO_206001;clear HO_206002;clear HO_214001;clear HO_214002;clear HO_223001;clear HO_223002;clear BK188;clear BK205;clear BK213;clear BK222;clear HB;have HO_206001:=n0_;have HO_206002:=n1_;have HO_214001:=n2_;have HO_214002:=n3_;have HO_223001:=n4_;have HO_223002:=n5_;have BK188:=n6_;have BK205:=n7_;have BK213:=n8_;have BK222:=n9_;have HB:=n10_;clear n0_ n1_ n2_ n3_ n4_ n5_ n6_ n7_ n8_ n9_ n10_;(try clear hb);(try clear hkp);(try clear hy0);(try clear hy1);have hcz103_0 : w102.cell? ⟨gb222,0,none⟩ = some (.int .i64 t214):=(blk_cell BK222.out 0).trans rfl;have hcz103_1 : w102.cell? ⟨gb222,1,none⟩ = some (.slice Ao39 t215.length co39):=(blk_cell BK222.out 1).trans rfl;have hcz103_2 : w102.cell? ⟨gb222,2,none⟩ = some (.slice Ao40 t218.length co40):=(blk_cell BK222.out 2).trans rfl;have hfz103_0:=blk_frozen BK222.out 0;have hfz103_1:=blk_frozen BK222.out 1;have hfz103_2:=blk_frozen BK222.out 2)|((with_reducible refine gate_callee (f:=28) rfl ?_);refine goesL_ (some 67) rfl rfl Try.func28 (by kernel_rfl) rfl #[.agg #[.int .i64 t214,.slice Ao39 t237.length co39,.slice Ao40 t238.length co40],.int .i64 1] rfl (by (try simp only [List.map_toArray,List.map_cons,List.map_nil]);first|done|(rw [show t237.length = t215.length from (R_reads' HO_223001.out).1.symm,show t238.length = t218.length from (R_reads' HO_223002.out).1.symm] <;> rfl)|rfl|(simp only [List.length_drop,List.length_take];rfl)) ?_;(with_reducible refine (laws_heldWire.calls kj63 t214 _ _ t237 _ _ t238 1 t239 _ ?side1 ?side2 ?side3 ?side4 A96.out).mono ?_);(case side1=>repeat (first|exact (R_reads' HO_223001.out).2.2|(with_reducible refine C_alloc ?_ _)|(with_reducible refine C_drewN ?_ _)|(with_reducible refine C_drew ?_)));(case side2=>rw [show t237.length = t215.length from (R_reads' HO_223001.out).1.symm];exact (R_reads' HO_223001.out).2.1);(case side3=>repeat (first|exact (R_reads' HO_223002.out).2.2|(with_reducible refine C_alloc ?_ _)|(with_reducible refine C_drewN ?_ _)|(with_reducible refine C_drew ?_)));(case side4=>rw [show t238.length = t218.length from (R_reads' HO_223002.out).1.symm];exact (R_reads' HO_223002.out).2.1);rintro e w104 ⟨rfl,hb⟩;refine ⟨_,rfl,?_⟩;have n0_:=Aside0.mk (R_below (by (with_reducible repeat (first|apply R_alloc|apply R_drewN|apply R_drew));exact HO_206001.out) hb);have n1_:=Aside0.mk (R_below (by (with_reducible repeat (first|apply R_alloc|apply R_drewN|apply R_drew));exact HO_206002.out) hb);have n2_:=Aside0.mk (R_below (by (with_reducible repeat (first|apply R_alloc|apply R_drewN|apply R_drew));exact HO_214001.out) hb);have n3_:=Aside0.mk (R_below (by (with_reducible repeat (first|apply R_alloc|apply R_drewN|apply R_drew));exact HO_214002.out) hb);have n4_:=Aside0.mk (R_below (by (with_reducible repeat (first|apply R_alloc|apply R_drewN|apply R_drew));exact HO_223001.out) hb);have n5_:=Aside0.mk (R_below (by (with_reducible repeat (first|apply R_alloc|apply R_drewN|apply R_drew));exact HO_223002.out) hb);have n6_:=Aside0.mk (blk_below (g:=gb188) (o:=.cells #[.int .i64 a0_0,.slice A0_1 l0_1.length c0_1,.slice A0_2 l0_2.length c0_2] 24 (0,0)) (by (with_reducible repeat (first|apply blk_drewN|apply blk_drew|apply blk_alloc));exact BK188.out) hb);have n7_:=Aside0.mk (blk_below (g:=gb205) (o:=.cells #[.int .i64 t197,.slice Ao23 t198.length co23,.slice Ao24 t201.length co24] 27 (0,0)) (by (with_reducible repeat (first|apply blk_drewN|apply blk_drew|apply blk_alloc));exact BK205.out) hb);have n8_:=Aside0.mk (blk_below (g:=gb213) (o:=.cells #[.int .i64 t206,.slice Ao31 t233.length co31,.slice Ao32 t234.length co32] 27 (0,0)) (by (with_reducible repeat (first|apply blk_drewN|apply blk_drew|apply blk_alloc));exact BK213.out) hb);have n9_:=Aside0.mk (blk_below (g:=gb222) (o:=.cells #[.int .i64 t214,.slice Ao39 t215.length co39,.slice Ao40 t218.length co40] 27 (0,0)) (by (with_reducible repeat (first|apply blk_drewN|apply blk_drew|apply blk_alloc));exact BK222.out) hb);have n10_:=Aside0.mk (below_step (by repeat (first|(with_reducible first|exact HB.out|apply below_alloc|apply pw_below_drewN|apply below_drew1|refine below_set ?_ GE188.out|refine below_set ?_ GE205.out|refine below_set ?_ GE213.out|refine below_set ?_ GE222.out)|exact HB.out)) hb);clear HO_206001;clear HO_206002;clear HO_214001;clear HO_214002;clear HO_223001;clear HO_223002;clear BK188;clear BK205;clear BK213;clear BK222;clear HB;have HO_206001:=n0_;have HO_206002:=n1_;have HO_214001:=n2_;have HO_214002:=n3_;have HO_223001:=n4_;have HO_223002:=n5_;have BK188:=n6_;have BK205:=n7_;have BK213:=n8_;have BK222:=n9_;have HB:=n10_;clear n0_ n1_ n2_ n3_ n4_ n5_ n6_ n7_ n8_ n9_ n10_;(try clear hb);(try clear hb2);(try clear hk);(try clear hi)))
    go_ret
    exact ⟨by first|rfl|(simp [errW_none,errW_some] <;> rfl)|(simp [*,errW_none,errW_some] <;> rfl),by repeat (first|(with_reducible first|exact HB.out|apply below_alloc|apply pw_below_drewN|apply below_drew1|refine below_set ?_ GE188.out|refine below_set ?_ GE205.out|refine below_set ?_ GE213.out|refine below_set ?_ GE222.out)|exact HB.out)⟩
   rw [if_neg c97] at H
   have c97b0 : decide (t239 < 0) = false:=decide_eq_false c97
   clear c97
   by_cases c105 : t239 = t236
   rotate_left
   ·rw [if_neg c105] at H
    have c105b0 : (t239 == t236) = false:=beq_eq_false_iff_ne.mpr c105
    have c105b1 : (t239 != t236) = true:=bne_iff_ne.mpr c105
    obtain rfl:=Option.some.inj H
    have hnb175:=NB222_188.out
    have hnc175:=NB188_222.out
    have hnb176:=NB222_205.out
    have hnc176:=NB205_222.out
    have hnb177:=NB222_213.out
    have hnc177:=NB213_222.out
    have hcz178_0 : wc.cell? ⟨gb222,0,none⟩ = some (.int .i64 t214):=(blk_cell BK222.out 0).trans rfl
    have hcz178_1 : wc.cell? ⟨gb222,1,none⟩ = some (.slice Ao39 t215.length co39):=(blk_cell BK222.out 1).trans rfl
    have hcz178_2 : wc.cell? ⟨gb222,2,none⟩ = some (.slice Ao40 t218.length co40):=(blk_cell BK222.out 2).trans rfl
    have hfz178_0:=blk_frozen BK222.out 0
    have hfz178_1:=blk_frozen BK222.out 1
    have hfz178_2:=blk_frozen BK222.out 2
    go_wp2_with (first|((with_reducible refine gate_callee (f:=23) rfl ?_);refine goesL_ (some 64) rfl rfl Try.func23 (by kernel_rfl) rfl #[.agg #[.int .i64 t214,.slice Ao39 t215.length co39,.slice Ao40 t218.length co40],.int .i64 1] rfl (by (try simp only [List.map_toArray,List.map_cons,List.map_nil]);first|done|rfl|(simp only [List.length_drop,List.length_take];rfl)) ?_;(with_reducible refine (laws_markWire.calls kj63 t214 (fun k_=>some k_ = (.slice Ao39 t215.length co39 : Value).ownBlock) (.slice Ao39 t215.length co39) t215 (fun k_=>some k_ = (.slice Ao40 t218.length co40 : Value).ownBlock) (.slice Ao40 t218.length co40) t218 1 t236 t237 t238 w _ ?side1 ?side2 ?side3 ?side4 ?side5 A95.out).mono ?_);(case side1=>repeat (first|(with_reducible first|exact HB.out|apply below_alloc|apply pw_below_drewN|apply below_drew1|refine below_set ?_ GE188.out|refine below_set ?_ GE205.out|refine below_set ?_ GE213.out|refine below_set ?_ GE222.out)|exact HB.out));(case side2=>exact R_tight rfl HO_223001.out);(case side3=>exact fun k_ e_=>(HO_223001.out.1 k_ e_.symm).2.2.2.2);(case side4=>exact R_tight rfl HO_223002.out);(case side5=>exact fun k_ e_=>(HO_223002.out.1 k_ e_.symm).2.2.2.2);rintro e w179 ⟨rfl,hy0,hy1,hb,hkp⟩;refine ⟨_,rfl,?_⟩;have n0_:=Aside0.mk (R_mono (ok':=fun k_=>some k_ ≠ (.slice Ao24 t201.length co24 : Value).ownBlock ∧ some k_ ≠ (.slice Ao31 t233.length co31 : Value).ownBlock ∧ some k_ ≠ (.slice Ao32 t234.length co32 : Value).ownBlock ∧ some k_ ≠ (.slice Ao39 t215.length co39 : Value).ownBlock ∧ some k_ ≠ (.slice Ao40 t218.length co40 : Value).ownBlock) (R_keptB (HO_206001.out) hkp (fun k_ hk_ hs_=>Or.elim hs_ (fun e_=>(hk_.2.2.2.1) e_) (fun e_=>(hk_.2.2.2.2) e_))) (fun k_ hk_=>⟨hk_.1.1,hk_.1.2.1,hk_.1.2.2.1,hk_.1.2.2.2.1,hk_.1.2.2.2.2⟩));have n1_:=Aside0.mk (R_mono (ok':=fun k_=>some k_ ≠ (.slice Ao23 t198.length co23 : Value).ownBlock ∧ some k_ ≠ (.slice Ao31 t233.length co31 : Value).ownBlock ∧ some k_ ≠ (.slice Ao32 t234.length co32 : Value).ownBlock ∧ some k_ ≠ (.slice Ao39 t215.length co39 : Value).ownBlock ∧ some k_ ≠ (.slice Ao40 t218.length co40 : Value).ownBlock) (R_keptB (HO_206002.out) hkp (fun k_ hk_ hs_=>Or.elim hs_ (fun e_=>(hk_.2.2.2.1) e_) (fun e_=>(hk_.2.2.2.2) e_))) (fun k_ hk_=>⟨hk_.1.1,hk_.1.2.1,hk_.1.2.2.1,hk_.1.2.2.2.1,hk_.1.2.2.2.2⟩));have n2_:=Aside0.mk (R_mono (ok':=fun k_=>some k_ ≠ (.slice Ao23 t198.length co23 : Value).ownBlock ∧ some k_ ≠ (.slice Ao24 t201.length co24 : Value).ownBlock ∧ some k_ ≠ (.slice Ao32 t234.length co32 : Value).ownBlock ∧ some k_ ≠ (.slice Ao39 t215.length co39 : Value).ownBlock ∧ some k_ ≠ (.slice Ao40 t218.length co40 : Value).ownBlock) (R_keptB (HO_214001.out) hkp (fun k_ hk_ hs_=>Or.elim hs_ (fun e_=>(hk_.2.2.2.1) e_) (fun e_=>(hk_.2.2.2.2) e_))) (fun k_ hk_=>⟨hk_.1.1,hk_.1.2.1,hk_.1.2.2.1,hk_.1.2.2.2.1,hk_.1.2.2.2.2⟩));have n3_:=Aside0.mk (R_mono (ok':=fun k_=>some k_ ≠ (.slice Ao23 t198.length co23 : Value).ownBlock ∧ some k_ ≠ (.slice Ao24 t201.length co24 : Value).ownBlock ∧ some k_ ≠ (.slice Ao31 t233.length co31 : Value).ownBlock ∧ some k_ ≠ (.slice Ao39 t215.length co39 : Value).ownBlock ∧ some k_ ≠ (.slice Ao40 t218.length co40 : Value).ownBlock) (R_keptB (HO_214002.out) hkp (fun k_ hk_ hs_=>Or.elim hs_ (fun e_=>(hk_.2.2.2.1) e_) (fun e_=>(hk_.2.2.2.2) e_))) (fun k_ hk_=>⟨hk_.1.1,hk_.1.2.1,hk_.1.2.2.1,hk_.1.2.2.2.1,hk_.1.2.2.2.2⟩));have n4_:=Aside0.mk (R_reok rfl hy0 (fun k_ e_=>HO_223001.out.1 k_ e_));have n5_:=Aside0.mk (R_reok rfl hy1 (fun k_ e_=>HO_223002.out.1 k_ e_));have n6_:=Aside0.mk (blk_kept (by (with_reducible repeat (first|apply blk_drewN|apply blk_drew|apply blk_alloc));exact BK188.out) hkp (fun hs_=>Or.elim hs_ (fun e_=>(fun e_=>(R_ne HO_223001.out BK188.out (by decide)) e_) e_) (fun e_=>(fun e_=>(R_ne HO_223002.out BK188.out (by decide)) e_) e_)));have n7_:=Aside0.mk (blk_kept (by (with_reducible repeat (first|apply blk_drewN|apply blk_drew|apply blk_alloc));exact BK205.out) hkp (fun hs_=>Or.elim hs_ (fun e_=>(fun e_=>(R_ne HO_223001.out BK205.out (by decide)) e_) e_) (fun e_=>(fun e_=>(R_ne HO_223002.out BK205.out (by decide)) e_) e_)));have n8_:=Aside0.mk (blk_kept (by (with_reducible repeat (first|apply blk_drewN|apply blk_drew|apply blk_alloc));exact BK213.out) hkp (fun hs_=>Or.elim hs_ (fun e_=>(fun e_=>(R_ne HO_223001.out BK213.out (by decide)) e_) e_) (fun e_=>(fun e_=>(R_ne HO_223002.out BK213.out (by decide)) e_) e_)));have n9_:=Aside0.mk (blk_kept (by (with_reducible repeat (first|apply blk_drewN|apply blk_drew|apply blk_alloc));exact BK222.out) hkp (fun hs_=>Or.elim hs_ (fun e_=>(fun e_=>(R_ne HO_223001.out BK222.out (by decide)) e_) e_) (fun e_=>(fun e_=>(R_ne HO_223002.out BK222.out (by decide)) e_) e_)));have n10_:=Aside0.mk (hb);clear HO_206001;clear HO_206002;clear HO_214001;clear HO_214002;clear HO_223001;clear HO_223002;clear BK188;clear BK205;clear BK213;clear BK222;clear HB;have HO_206001:=n0_;have HO_206002:=n1_;have HO_214001:=n2_;have HO_214002:=n3_;have HO_223001:=n4_;have HO_223002:=n5_;have BK188:=n6_;have BK205:=n7_;have BK213:=n8_;have BK222:=n9_;have HB:=n10_;clear n0_ n1_ n2_ n3_ n4_ n5_ n6_ n7_ n8_ n9_ n10_;(try clear hb);(try clear hkp);(try clear hy0);(try clear hy1);have hcz180_0 : w179.cell? ⟨gb222,0,none⟩ = some (.int .i64 t214):=(blk_cell BK222.out 0).trans rfl;have hcz180_1 : w179.cell? ⟨gb222,1,none⟩ = some (.slice Ao39 t215.length co39):=(blk_cell BK222.out 1).trans rfl;have hcz180_2 : w179.cell? ⟨gb222,2,none⟩ = some (.slice Ao40 t218.length co40):=(blk_cell BK222.out 2).trans rfl;have hfz180_0:=blk_frozen BK222.out 0;have hfz180_1:=blk_frozen BK222.out 1;have hfz180_2:=blk_frozen BK222.out 2)|((with_reducible refine gate_callee (f:=28) rfl ?_);refine goesL_ (some 67) rfl rfl Try.func28 (by kernel_rfl) rfl #[.agg #[.int .i64 t214,.slice Ao39 t237.length co39,.slice Ao40 t238.length co40],.int .i64 1] rfl (by (try simp only [List.map_toArray,List.map_cons,List.map_nil]);first|done|(rw [show t237.length = t215.length from (R_reads' HO_223001.out).1.symm,show t238.length = t218.length from (R_reads' HO_223002.out).1.symm] <;> rfl)|rfl|(simp only [List.length_drop,List.length_take];rfl)) ?_;(with_reducible refine (laws_heldWire.calls kj63 t214 _ _ t237 _ _ t238 1 t239 _ ?side1 ?side2 ?side3 ?side4 A96.out).mono ?_);(case side1=>repeat (first|exact (R_reads' HO_223001.out).2.2|(with_reducible refine C_alloc ?_ _)|(with_reducible refine C_drewN ?_ _)|(with_reducible refine C_drew ?_)));(case side2=>rw [show t237.length = t215.length from (R_reads' HO_223001.out).1.symm];exact (R_reads' HO_223001.out).2.1);(case side3=>repeat (first|exact (R_reads' HO_223002.out).2.2|(with_reducible refine C_alloc ?_ _)|(with_reducible refine C_drewN ?_ _)|(with_reducible refine C_drew ?_)));(case side4=>rw [show t238.length = t218.length from (R_reads' HO_223002.out).1.symm];exact (R_reads' HO_223002.out).2.1);rintro e w181 ⟨rfl,hb⟩;refine ⟨_,rfl,?_⟩;have n0_:=Aside0.mk (R_below (by (with_reducible repeat (first|apply R_alloc|apply R_drewN|apply R_drew));exact HO_206001.out) hb);have n1_:=Aside0.mk (R_below (by (with_reducible repeat (first|apply R_alloc|apply R_drewN|apply R_drew));exact HO_206002.out) hb);have n2_:=Aside0.mk (R_below (by (with_reducible repeat (first|apply R_alloc|apply R_drewN|apply R_drew));exact HO_214001.out) hb);have n3_:=Aside0.mk (R_below (by (with_reducible repeat (first|apply R_alloc|apply R_drewN|apply R_drew));exact HO_214002.out) hb);have n4_:=Aside0.mk (R_below (by (with_reducible repeat (first|apply R_alloc|apply R_drewN|apply R_drew));exact HO_223001.out) hb);have n5_:=Aside0.mk (R_below (by (with_reducible repeat (first|apply R_alloc|apply R_drewN|apply R_drew));exact HO_223002.out) hb);have n6_:=Aside0.mk (blk_below (g:=gb188) (o:=.cells #[.int .i64 a0_0,.slice A0_1 l0_1.length c0_1,.slice A0_2 l0_2.length c0_2] 24 (0,0)) (by (with_reducible repeat (first|apply blk_drewN|apply blk_drew|apply blk_alloc));exact BK188.out) hb);have n7_:=Aside0.mk (blk_below (g:=gb205) (o:=.cells #[.int .i64 t197,.slice Ao23 t198.length co23,.slice Ao24 t201.length co24] 27 (0,0)) (by (with_reducible repeat (first|apply blk_drewN|apply blk_drew|apply blk_alloc));exact BK205.out) hb);have n8_:=Aside0.mk (blk_below (g:=gb213) (o:=.cells #[.int .i64 t206,.slice Ao31 t233.length co31,.slice Ao32 t234.length co32] 27 (0,0)) (by (with_reducible repeat (first|apply blk_drewN|apply blk_drew|apply blk_alloc));exact BK213.out) hb);have n9_:=Aside0.mk (blk_below (g:=gb222) (o:=.cells #[.int .i64 t214,.slice Ao39 t215.length co39,.slice Ao40 t218.length co40] 27 (0,0)) (by (with_reducible repeat (first|apply blk_drewN|apply blk_drew|apply blk_alloc));exact BK222.out) hb);have n10_:=Aside0.mk (below_step (by repeat (first|(with_reducible first|exact HB.out|apply below_alloc|apply pw_below_drewN|apply below_drew1|refine below_set ?_ GE188.out|refine below_set ?_ GE205.out|refine below_set ?_ GE213.out|refine below_set ?_ GE222.out)|exact HB.out)) hb);clear HO_206001;clear HO_206002;clear HO_214001;clear HO_214002;clear HO_223001;clear HO_223002;clear BK188;clear BK205;clear BK213;clear BK222;clear HB;have HO_206001:=n0_;have HO_206002:=n1_;have HO_214001:=n2_;have HO_214002:=n3_;have HO_223001:=n4_;have HO_223002:=n5_;have BK188:=n6_;have BK205:=n7_;have BK213:=n8_;have BK222:=n9_;have HB:=n10_;clear n0_ n1_ n2_ n3_ n4_ n5_ n6_ n7_ n8_ n9_ n10_;(try clear hb);(try clear hb2);(try clear hk);(try clear hi)))
    go_ret
    exact ⟨by first|rfl|(simp [errW_none,errW_some] <;> rfl)|(simp [*,errW_none,errW_some] <;> rfl),by repeat (first|(with_reducible first|exact HB.out|apply below_alloc|apply pw_below_drewN|apply below_drew1|refine below_set ?_ GE188.out|refine below_set ?_ GE205.out|refine below_set ?_ GE213.out|refine below_set ?_ GE222.out)|exact HB.out)⟩
   rw [if_pos c105] at H
   have c105b0 : (t239 == t236) = true:=beq_iff_eq.mpr c105
   have c105b1 : (t239 != t236) = false:=bne_eq_false_iff_eq.mpr c105
   clear c105
   replace H:=Option.bind_eq_some_iff.mp H
   obtain ⟨⟨t240,t241,t244⟩,A1060,H⟩:=H
   replace H : ((impl_MirrorWire.f kj63 t240 t241 t244).bind fun bt247=>((laws_eqWire.f kj63 bt247.1 bt247.2.1 bt247.2.2.1 t197 t198 t201).bind fun t256=>(if t256 = true then (laws_FnExactMirrorWire.j2 kj63 t236 (bt247.2.2.2 != t204) t214 t237 t238) else (laws_FnExactMirrorWire.j2 kj63 t236 true t214 t237 t238)))) = some r:=H
   have A106:=Aside0.mk A1060
   clear A1060
   replace H:=Option.bind_eq_some_iff.mp H
   obtain ⟨⟨t247,t248,t251,t254⟩,A1070,H⟩:=H
   replace H : ((laws_eqWire.f kj63 t247 t248 t251 t197 t198 t201).bind fun t256=>(if t256 = true then (laws_FnExactMirrorWire.j2 kj63 t236 (t254 != t204) t214 t237 t238) else (laws_FnExactMirrorWire.j2 kj63 t236 true t214 t237 t238))) = some r:=H
   have A107:=Aside0.mk A1070
   clear A1070
   have HC108:=Aside0.mk H
   clear H
   have hnb109:=NB222_188.out
   have hnc109:=NB188_222.out
   have hnb110:=NB222_205.out
   have hnc110:=NB205_222.out
   have hnb111:=NB222_213.out
   have hnc111:=NB213_222.out
   have hcz112_0 : wc.cell? ⟨gb222,0,none⟩ = some (.int .i64 t214):=(blk_cell BK222.out 0).trans rfl
   have hcz112_1 : wc.cell? ⟨gb222,1,none⟩ = some (.slice Ao39 t215.length co39):=(blk_cell BK222.out 1).trans rfl
   have hcz112_2 : wc.cell? ⟨gb222,2,none⟩ = some (.slice Ao40 t218.length co40):=(blk_cell BK222.out 2).trans rfl
   have hfz112_0:=blk_frozen BK222.out 0
   have hfz112_1:=blk_frozen BK222.out 1
   have hfz112_2:=blk_frozen BK222.out 2
   go_upto_region 25 with (first|((with_reducible refine gate_callee (f:=23) rfl ?_);refine goesL_ (some 64) rfl rfl Try.func23 (by kernel_rfl) rfl #[.agg #[.int .i64 t214,.slice Ao39 t215.length co39,.slice Ao40 t218.length co40],.int .i64 1] rfl (by (try simp only [List.map_toArray,List.map_cons,List.map_nil]);first|done|rfl|(simp only [List.length_drop,List.length_take];rfl)) ?_;(with_reducible refine (laws_markWire.calls kj63 t214 (fun k_=>some k_ = (.slice Ao39 t215.length co39 : Value).ownBlock) (.slice Ao39 t215.length co39) t215 (fun k_=>some k_ = (.slice Ao40 t218.length co40 : Value).ownBlock) (.slice Ao40 t218.length co40) t218 1 t236 t237 t238 w _ ?side1 ?side2 ?side3 ?side4 ?side5 A95.out).mono ?_);(case side1=>repeat (first|(with_reducible first|exact HB.out|apply below_alloc|apply pw_below_drewN|apply below_drew1|refine below_set ?_ GE188.out|refine below_set ?_ GE205.out|refine below_set ?_ GE213.out|refine below_set ?_ GE222.out)|exact HB.out));(case side2=>exact R_tight rfl HO_223001.out);(case side3=>exact fun k_ e_=>(HO_223001.out.1 k_ e_.symm).2.2.2.2);(case side4=>exact R_tight rfl HO_223002.out);(case side5=>exact fun k_ e_=>(HO_223002.out.1 k_ e_.symm).2.2.2.2);rintro e w113 ⟨rfl,hy0,hy1,hb,hkp⟩;refine ⟨_,rfl,?_⟩;have n0_:=Aside0.mk (R_mono (ok':=fun k_=>some k_ ≠ (.slice Ao24 t201.length co24 : Value).ownBlock ∧ some k_ ≠ (.slice Ao31 t233.length co31 : Value).ownBlock ∧ some k_ ≠ (.slice Ao32 t234.length co32 : Value).ownBlock ∧ some k_ ≠ (.slice Ao39 t215.length co39 : Value).ownBlock ∧ some k_ ≠ (.slice Ao40 t218.length co40 : Value).ownBlock) (R_keptB (HO_206001.out) hkp (fun k_ hk_ hs_=>Or.elim hs_ (fun e_=>(hk_.2.2.2.1) e_) (fun e_=>(hk_.2.2.2.2) e_))) (fun k_ hk_=>⟨hk_.1.1,hk_.1.2.1,hk_.1.2.2.1,hk_.1.2.2.2.1,hk_.1.2.2.2.2⟩));have n1_:=Aside0.mk (R_mono (ok':=fun k_=>some k_ ≠ (.slice Ao23 t198.length co23 : Value).ownBlock ∧ some k_ ≠ (.slice Ao31 t233.length co31 : Value).ownBlock ∧ some k_ ≠ (.slice Ao32 t234.length co32 : Value).ownBlock ∧ some k_ ≠ (.slice Ao39 t215.length co39 : Value).ownBlock ∧ some k_ ≠ (.slice Ao40 t218.length co40 : Value).ownBlock) (R_keptB (HO_206002.out) hkp (fun k_ hk_ hs_=>Or.elim hs_ (fun e_=>(hk_.2.2.2.1) e_) (fun e_=>(hk_.2.2.2.2) e_))) (fun k_ hk_=>⟨hk_.1.1,hk_.1.2.1,hk_.1.2.2.1,hk_.1.2.2.2.1,hk_.1.2.2.2.2⟩));have n2_:=Aside0.mk (R_mono (ok':=fun k_=>some k_ ≠ (.slice Ao23 t198.length co23 : Value).ownBlock ∧ some k_ ≠ (.slice Ao24 t201.length co24 : Value).ownBlock ∧ some k_ ≠ (.slice Ao32 t234.length co32 : Value).ownBlock ∧ some k_ ≠ (.slice Ao39 t215.length co39 : Value).ownBlock ∧ some k_ ≠ (.slice Ao40 t218.length co40 : Value).ownBlock) (R_keptB (HO_214001.out) hkp (fun k_ hk_ hs_=>Or.elim hs_ (fun e_=>(hk_.2.2.2.1) e_) (fun e_=>(hk_.2.2.2.2) e_))) (fun k_ hk_=>⟨hk_.1.1,hk_.1.2.1,hk_.1.2.2.1,hk_.1.2.2.2.1,hk_.1.2.2.2.2⟩));have n3_:=Aside0.mk (R_mono (ok':=fun k_=>some k_ ≠ (.slice Ao23 t198.length co23 : Value).ownBlock ∧ some k_ ≠ (.slice Ao24 t201.length co24 : Value).ownBlock ∧ some k_ ≠ (.slice Ao31 t233.length co31 : Value).ownBlock ∧ some k_ ≠ (.slice Ao39 t215.length co39 : Value).ownBlock ∧ some k_ ≠ (.slice Ao40 t218.length co40 : Value).ownBlock) (R_keptB (HO_214002.out) hkp (fun k_ hk_ hs_=>Or.elim hs_ (fun e_=>(hk_.2.2.2.1) e_) (fun e_=>(hk_.2.2.2.2) e_))) (fun k_ hk_=>⟨hk_.1.1,hk_.1.2.1,hk_.1.2.2.1,hk_.1.2.2.2.1,hk_.1.2.2.2.2⟩));have n4_:=Aside0.mk (R_reok rfl hy0 (fun k_ e_=>HO_223001.out.1 k_ e_));have n5_:=Aside0.mk (R_reok rfl hy1 (fun k_ e_=>HO_223002.out.1 k_ e_));have n6_:=Aside0.mk (blk_kept (by (with_reducible repeat (first|apply blk_drewN|apply blk_drew|apply blk_alloc));exact BK188.out) hkp (fun hs_=>Or.elim hs_ (fun e_=>(fun e_=>(R_ne HO_223001.out BK188.out (by decide)) e_) e_) (fun e_=>(fun e_=>(R_ne HO_223002.out BK188.out (by decide)) e_) e_)));have n7_:=Aside0.mk (blk_kept (by (with_reducible repeat (first|apply blk_drewN|apply blk_drew|apply blk_alloc));exact BK205.out) hkp (fun hs_=>Or.elim hs_ (fun e_=>(fun e_=>(R_ne HO_223001.out BK205.out (by decide)) e_) e_) (fun e_=>(fun e_=>(R_ne HO_223002.out BK205.out (by decide)) e_) e_)));have n8_:=Aside0.mk (blk_kept (by (with_reducible repeat (first|apply blk_drewN|apply blk_drew|apply blk_alloc));exact BK213.out) hkp (fun hs_=>Or.elim hs_ (fun e_=>(fun e_=>(R_ne HO_223001.out BK213.out (by decide)) e_) e_) (fun e_=>(fun e_=>(R_ne HO_223002.out BK213.out (by decide)) e_) e_)));have n9_:=Aside0.mk (blk_kept (by (with_reducible repeat (first|apply blk_drewN|apply blk_drew|apply blk_alloc));exact BK222.out) hkp (fun hs_=>Or.elim hs_ (fun e_=>(fun e_=>(R_ne HO_223001.out BK222.out (by decide)) e_) e_) (fun e_=>(fun e_=>(R_ne HO_223002.out BK222.out (by decide)) e_) e_)));have n10_:=Aside0.mk (hb);clear HO_206001;clear HO_206002;clear HO_214001;clear HO_214002;clear HO_223001;clear HO_223002;clear BK188;clear BK205;clear BK213;clear BK222;clear HB;have HO_206001:=n0_;have HO_206002:=n1_;have HO_214001:=n2_;have HO_214002:=n3_;have HO_223001:=n4_;have HO_223002:=n5_;have BK188:=n6_;have BK205:=n7_;have BK213:=n8_;have BK222:=n9_;have HB:=n10_;clear n0_ n1_ n2_ n3_ n4_ n5_ n6_ n7_ n8_ n9_ n10_;(try clear hb);(try clear hkp);(try clear hy0);(try clear hy1);have hcz114_0 : w113.cell? ⟨gb222,0,none⟩ = some (.int .i64 t214):=(blk_cell BK222.out 0).trans rfl;have hcz114_1 : w113.cell? ⟨gb222,1,none⟩ = some (.slice Ao39 t215.length co39):=(blk_cell BK222.out 1).trans rfl;have hcz114_2 : w113.cell? ⟨gb222,2,none⟩ = some (.slice Ao40 t218.length co40):=(blk_cell BK222.out 2).trans rfl;have hfz114_0:=blk_frozen BK222.out 0;have hfz114_1:=blk_frozen BK222.out 1;have hfz114_2:=blk_frozen BK222.out 2)|((with_reducible refine gate_callee (f:=28) rfl ?_);refine goesL_ (some 67) rfl rfl Try.func28 (by kernel_rfl) rfl #[.agg #[.int .i64 t214,.slice Ao39 t237.length co39,.slice Ao40 t238.length co40],.int .i64 1] rfl (by (try simp only [List.map_toArray,List.map_cons,List.map_nil]);first|done|(rw [show t237.length = t215.length from (R_reads' HO_223001.out).1.symm,show t238.length = t218.length from (R_reads' HO_223002.out).1.symm] <;> rfl)|rfl|(simp only [List.length_drop,List.length_take];rfl)) ?_;(with_reducible refine (laws_heldWire.calls kj63 t214 _ _ t237 _ _ t238 1 t239 _ ?side1 ?side2 ?side3 ?side4 A96.out).mono ?_);(case side1=>repeat (first|exact (R_reads' HO_223001.out).2.2|(with_reducible refine C_alloc ?_ _)|(with_reducible refine C_drewN ?_ _)|(with_reducible refine C_drew ?_)));(case side2=>rw [show t237.length = t215.length from (R_reads' HO_223001.out).1.symm];exact (R_reads' HO_223001.out).2.1);(case side3=>repeat (first|exact (R_reads' HO_223002.out).2.2|(with_reducible refine C_alloc ?_ _)|(with_reducible refine C_drewN ?_ _)|(with_reducible refine C_drew ?_)));(case side4=>rw [show t238.length = t218.length from (R_reads' HO_223002.out).1.symm];exact (R_reads' HO_223002.out).2.1);rintro e w115 ⟨rfl,hb⟩;refine ⟨_,rfl,?_⟩;have n0_:=Aside0.mk (R_below (by (with_reducible repeat (first|apply R_alloc|apply R_drewN|apply R_drew));exact HO_206001.out) hb);have n1_:=Aside0.mk (R_below (by (with_reducible repeat (first|apply R_alloc|apply R_drewN|apply R_drew));exact HO_206002.out) hb);have n2_:=Aside0.mk (R_below (by (with_reducible repeat (first|apply R_alloc|apply R_drewN|apply R_drew));exact HO_214001.out) hb);have n3_:=Aside0.mk (R_below (by (with_reducible repeat (first|apply R_alloc|apply R_drewN|apply R_drew));exact HO_214002.out) hb);have n4_:=Aside0.mk (R_below (by (with_reducible repeat (first|apply R_alloc|apply R_drewN|apply R_drew));exact HO_223001.out) hb);have n5_:=Aside0.mk (R_below (by (with_reducible repeat (first|apply R_alloc|apply R_drewN|apply R_drew));exact HO_223002.out) hb);have n6_:=Aside0.mk (blk_below (g:=gb188) (o:=.cells #[.int .i64 a0_0,.slice A0_1 l0_1.length c0_1,.slice A0_2 l0_2.length c0_2] 24 (0,0)) (by (with_reducible repeat (first|apply blk_drewN|apply blk_drew|apply blk_alloc));exact BK188.out) hb);have n7_:=Aside0.mk (blk_below (g:=gb205) (o:=.cells #[.int .i64 t197,.slice Ao23 t198.length co23,.slice Ao24 t201.length co24] 27 (0,0)) (by (with_reducible repeat (first|apply blk_drewN|apply blk_drew|apply blk_alloc));exact BK205.out) hb);have n8_:=Aside0.mk (blk_below (g:=gb213) (o:=.cells #[.int .i64 t206,.slice Ao31 t233.length co31,.slice Ao32 t234.length co32] 27 (0,0)) (by (with_reducible repeat (first|apply blk_drewN|apply blk_drew|apply blk_alloc));exact BK213.out) hb);have n9_:=Aside0.mk (blk_below (g:=gb222) (o:=.cells #[.int .i64 t214,.slice Ao39 t215.length co39,.slice Ao40 t218.length co40] 27 (0,0)) (by (with_reducible repeat (first|apply blk_drewN|apply blk_drew|apply blk_alloc));exact BK222.out) hb);have n10_:=Aside0.mk (below_step (by repeat (first|(with_reducible first|exact HB.out|apply below_alloc|apply pw_below_drewN|apply below_drew1|refine below_set ?_ GE188.out|refine below_set ?_ GE205.out|refine below_set ?_ GE213.out|refine below_set ?_ GE222.out)|exact HB.out)) hb);clear HO_206001;clear HO_206002;clear HO_214001;clear HO_214002;clear HO_223001;clear HO_223002;clear BK188;clear BK205;clear BK213;clear BK222;clear HB;have HO_206001:=n0_;have HO_206002:=n1_;have HO_214001:=n2_;have HO_214002:=n3_;have HO_223001:=n4_;have HO_223002:=n5_;have BK188:=n6_;have BK205:=n7_;have BK213:=n8_;have BK222:=n9_;have HB:=n10_;clear n0_ n1_ n2_ n3_ n4_ n5_ n6_ n7_ n8_ n9_ n10_;(try clear hb);(try clear hb2);(try clear hk);(try clear hi);have hnb116:=NB188_205.out;have hnc116:=NB205_188.out;have hnb117:=NB188_213.out;have hnc117:=NB213_188.out;have hcz118_0 : w115.cell? ⟨gb188,0,none⟩ = some (.int .i64 a0_0):=(blk_cell BK188.out 0).trans rfl;have hcz118_1 : w115.cell? ⟨gb188,1,none⟩ = some (.slice A0_1 l0_1.length c0_1):=(blk_cell BK188.out 1).trans rfl;have hcz118_2 : w115.cell? ⟨gb188,2,none⟩ = some (.slice A0_2 l0_2.length c0_2):=(blk_cell BK188.out 2).trans rfl;have hfz118_0:=blk_frozen BK188.out 0;have hfz118_1:=blk_frozen BK188.out 1;have hfz118_2:=blk_frozen BK188.out 2)|((with_reducible refine gate_callee (f:=13) rfl ?_);refine goesL_ (some 75) rfl rfl Try.func13 (by kernel_rfl) rfl #[.agg #[.int .i64 a0_0,.slice A0_1 l0_1.length c0_1,.slice A0_2 l0_2.length c0_2]] rfl (by (try simp only [List.map_toArray,List.map_cons,List.map_nil]);first|done|rfl|(simp only [List.length_drop,List.length_take];rfl)) ?_;(with_reducible refine (laws_toWire.calls kj63 a0_0 _ _ l0_1 _ _ l0_2 t240 t241 t244 _ ?side1 ?side2 ?side3 ?side4 A106.out).mono ?_);(case side1=>repeat (first|exact (C_below HR0_1.out HB.out)|(with_reducible refine C_alloc ?_ _)|(with_reducible refine C_drewN ?_ _)|(with_reducible refine C_drew ?_)));(case side2=>exact HC0_1.out);(case side3=>repeat (first|exact (C_below HR0_2.out HB.out)|(with_reducible refine C_alloc ?_ _)|(with_reducible refine C_drewN ?_ _)|(with_reducible refine C_drew ?_)));(case side4=>exact HC0_2.out);rintro e w119 ⟨v242,v245,rfl,ho0,ho1,hb⟩;refine ⟨_,rfl,?_⟩;have n0_:=Aside0.mk (R_mono (R_told (R_told (R_old (by (with_reducible repeat (first|apply R_alloc|apply R_drewN|apply R_drew));exact HO_206001.out) hb) (R_base ho0)) (R_base ho1)) (fun _ h_=>h_.1));have n1_:=Aside0.mk (R_mono (R_told (R_told (R_old (by (with_reducible repeat (first|apply R_alloc|apply R_drewN|apply R_drew));exact HO_206002.out) hb) (R_base ho0)) (R_base ho1)) (fun _ h_=>h_.1));have n2_:=Aside0.mk (R_mono (R_told (R_told (R_old (by (with_reducible repeat (first|apply R_alloc|apply R_drewN|apply R_drew));exact HO_214001.out) hb) (R_base ho0)) (R_base ho1)) (fun _ h_=>h_.1));have n3_:=Aside0.mk (R_mono (R_told (R_told (R_old (by (with_reducible repeat (first|apply R_alloc|apply R_drewN|apply R_drew));exact HO_214002.out) hb) (R_base ho0)) (R_base ho1)) (fun _ h_=>h_.1));have n4_:=Aside0.mk (R_mono (R_told (R_told (R_old (by (with_reducible repeat (first|apply R_alloc|apply R_drewN|apply R_drew));exact HO_223001.out) hb) (R_base ho0)) (R_base ho1)) (fun _ h_=>h_.1));have n5_:=Aside0.mk (R_mono (R_told (R_told (R_old (by (with_reducible repeat (first|apply R_alloc|apply R_drewN|apply R_drew));exact HO_223002.out) hb) (R_base ho0)) (R_base ho1)) (fun _ h_=>h_.1));have n6_:=Aside0.mk (R_lower (R_new' (R_new' (R_new' (R_new' (R_new' (R_new' ho0 (R_lt (by (with_reducible repeat (first|apply R_alloc|apply R_drewN|apply R_drew));exact HO_206001.out))) (R_lt (by (with_reducible repeat (first|apply R_alloc|apply R_drewN|apply R_drew));exact HO_206002.out))) (R_lt (by (with_reducible repeat (first|apply R_alloc|apply R_drewN|apply R_drew));exact HO_214001.out))) (R_lt (by (with_reducible repeat (first|apply R_alloc|apply R_drewN|apply R_drew));exact HO_214002.out))) (R_lt (by (with_reducible repeat (first|apply R_alloc|apply R_drewN|apply R_drew));exact HO_223001.out))) (R_lt (by (with_reducible repeat (first|apply R_alloc|apply R_drewN|apply R_drew));exact HO_223002.out))) (below_size (by repeat (first|(with_reducible first|exact HB.out|apply below_alloc|apply pw_below_drewN|apply below_drew1|refine below_set ?_ GE188.out|refine below_set ?_ GE205.out|refine below_set ?_ GE213.out|refine below_set ?_ GE222.out)|exact HB.out))));have n7_:=Aside0.mk (R_lower (R_new' (R_new' (R_new' (R_new' (R_new' (R_new' ho1 (R_lt (by (with_reducible repeat (first|apply R_alloc|apply R_drewN|apply R_drew));exact HO_206001.out))) (R_lt (by (with_reducible repeat (first|apply R_alloc|apply R_drewN|apply R_drew));exact HO_206002.out))) (R_lt (by (with_reducible repeat (first|apply R_alloc|apply R_drewN|apply R_drew));exact HO_214001.out))) (R_lt (by (with_reducible repeat (first|apply R_alloc|apply R_drewN|apply R_drew));exact HO_214002.out))) (R_lt (by (with_reducible repeat (first|apply R_alloc|apply R_drewN|apply R_drew));exact HO_223001.out))) (R_lt (by (with_reducible repeat (first|apply R_alloc|apply R_drewN|apply R_drew));exact HO_223002.out))) (below_size (by repeat (first|(with_reducible first|exact HB.out|apply below_alloc|apply pw_below_drewN|apply below_drew1|refine below_set ?_ GE188.out|refine below_set ?_ GE205.out|refine below_set ?_ GE213.out|refine below_set ?_ GE222.out)|exact HB.out))));have n8_:=Aside0.mk (blk_below (g:=gb188) (o:=.cells #[.int .i64 a0_0,.slice A0_1 l0_1.length c0_1,.slice A0_2 l0_2.length c0_2] 24 (0,0)) (by (with_reducible repeat (first|apply blk_drewN|apply blk_drew|apply blk_alloc));exact BK188.out) hb);have n9_:=Aside0.mk (blk_below (g:=gb205) (o:=.cells #[.int .i64 t197,.slice Ao23 t198.length co23,.slice Ao24 t201.length co24] 27 (0,0)) (by (with_reducible repeat (first|apply blk_drewN|apply blk_drew|apply blk_alloc));exact BK205.out) hb);have n10_:=Aside0.mk (blk_below (g:=gb213) (o:=.cells #[.int .i64 t206,.slice Ao31 t233.length co31,.slice Ao32 t234.length co32] 27 (0,0)) (by (with_reducible repeat (first|apply blk_drewN|apply blk_drew|apply blk_alloc));exact BK213.out) hb);have n11_:=Aside0.mk (blk_below (g:=gb222) (o:=.cells #[.int .i64 t214,.slice Ao39 t215.length co39,.slice Ao40 t218.length co40] 27 (0,0)) (by (with_reducible repeat (first|apply blk_drewN|apply blk_drew|apply blk_alloc));exact BK222.out) hb);have n12_:=Aside0.mk (below_step (by repeat (first|(with_reducible first|exact HB.out|apply below_alloc|apply pw_below_drewN|apply below_drew1|refine below_set ?_ GE188.out|refine below_set ?_ GE205.out|refine below_set ?_ GE213.out|refine below_set ?_ GE222.out)|exact HB.out)) hb);clear HO_206001;clear HO_206002;clear HO_214001;clear HO_214002;clear HO_223001;clear HO_223002;clear BK188;clear BK205;clear BK213;clear BK222;clear HB;have HO_206001:=n0_;have HO_206002:=n1_;have HO_214001:=n2_;have HO_214002:=n3_;have HO_223001:=n4_;have HO_223002:=n5_;have HO243:=n6_;have HO246:=n7_;have BK188:=n8_;have BK205:=n9_;have BK213:=n10_;have BK222:=n11_;have HB:=n12_;clear n0_ n1_ n2_ n3_ n4_ n5_ n6_ n7_ n8_ n9_ n10_ n11_ n12_;(try clear hb);(try clear hb2);(try clear hk);(try clear hi);(try clear ho0);(try clear ho1);obtain ⟨Ao120,co120,eo120⟩:=R_slice HO243.out;subst eo120;obtain ⟨Ao121,co121,eo121⟩:=R_slice HO246.out;subst eo121)|((with_reducible refine gate_callee (f:=27) rfl ?_);refine goesL_ (some 76) rfl rfl Try.func27 (by kernel_rfl) rfl #[.agg #[.int .i64 t240,.slice Ao120 t241.length co120,.slice Ao121 t244.length co121]] rfl (by (try simp only [List.map_toArray,List.map_cons,List.map_nil]);first|done|rfl|(simp only [List.length_drop,List.length_take];rfl)) ?_;(with_reducible refine (impl_MirrorWire.calls kj63 t240 _ _ t241 _ _ t244 t247 t248 t251 t254 _ ?side1 ?side2 ?side3 ?side4 A107.out).mono ?_);(case side1=>repeat (first|exact (R_reads' HO243.out).2.2|(with_reducible refine C_alloc ?_ _)|(with_reducible refine C_drewN ?_ _)|(with_reducible refine C_drew ?_)));(case side2=>exact (R_reads' HO243.out).2.1);(case side3=>repeat (first|exact (R_reads' HO246.out).2.2|(with_reducible refine C_alloc ?_ _)|(with_reducible refine C_drewN ?_ _)|(with_reducible refine C_drew ?_)));(case side4=>exact (R_reads' HO246.out).2.1);rintro e w122 ⟨v249,v252,rfl,ho0,ho1,hb⟩;refine ⟨_,rfl,?_⟩;have n0_:=Aside0.mk (R_mono (R_told (R_told (R_old (by (with_reducible repeat (first|apply R_alloc|apply R_drewN|apply R_drew));exact HO_206001.out) hb) (R_base ho0)) (R_base ho1)) (fun _ h_=>h_.1));have n1_:=Aside0.mk (R_mono (R_told (R_told (R_old (by (with_reducible repeat (first|apply R_alloc|apply R_drewN|apply R_drew));exact HO_206002.out) hb) (R_base ho0)) (R_base ho1)) (fun _ h_=>h_.1));have n2_:=Aside0.mk (R_mono (R_told (R_told (R_old (by (with_reducible repeat (first|apply R_alloc|apply R_drewN|apply R_drew));exact HO_214001.out) hb) (R_base ho0)) (R_base ho1)) (fun _ h_=>h_.1));have n3_:=Aside0.mk (R_mono (R_told (R_told (R_old (by (with_reducible repeat (first|apply R_alloc|apply R_drewN|apply R_drew));exact HO_214002.out) hb) (R_base ho0)) (R_base ho1)) (fun _ h_=>h_.1));have n4_:=Aside0.mk (R_mono (R_told (R_told (R_old (by (with_reducible repeat (first|apply R_alloc|apply R_drewN|apply R_drew));exact HO_223001.out) hb) (R_base ho0)) (R_base ho1)) (fun _ h_=>h_.1));have n5_:=Aside0.mk (R_mono (R_told (R_told (R_old (by (with_reducible repeat (first|apply R_alloc|apply R_drewN|apply R_drew));exact HO_223002.out) hb) (R_base ho0)) (R_base ho1)) (fun _ h_=>h_.1));have n6_:=Aside0.mk (R_mono (R_told (R_told (R_old (by (with_reducible repeat (first|apply R_alloc|apply R_drewN|apply R_drew));exact HO243.out) hb) (R_base ho0)) (R_base ho1)) (fun _ h_=>h_.1));have n7_:=Aside0.mk (R_mono (R_told (R_told (R_old (by (with_reducible repeat (first|apply R_alloc|apply R_drewN|apply R_drew));exact HO246.out) hb) (R_base ho0)) (R_base ho1)) (fun _ h_=>h_.1));have n8_:=Aside0.mk (R_lower (R_new' (R_new' (R_new' (R_new' (R_new' (R_new' (R_new' (R_new' ho0 (R_lt (by (with_reducible repeat (first|apply R_alloc|apply R_drewN|apply R_drew));exact HO_206001.out))) (R_lt (by (with_reducible repeat (first|apply R_alloc|apply R_drewN|apply R_drew));exact HO_206002.out))) (R_lt (by (with_reducible repeat (first|apply R_alloc|apply R_drewN|apply R_drew));exact HO_214001.out))) (R_lt (by (with_reducible repeat (first|apply R_alloc|apply R_drewN|apply R_drew));exact HO_214002.out))) (R_lt (by (with_reducible repeat (first|apply R_alloc|apply R_drewN|apply R_drew));exact HO_223001.out))) (R_lt (by (with_reducible repeat (first|apply R_alloc|apply R_drewN|apply R_drew));exact HO_223002.out))) (R_lt (by (with_reducible repeat (first|apply R_alloc|apply R_drewN|apply R_drew));exact HO243.out))) (R_lt (by (with_reducible repeat (first|apply R_alloc|apply R_drewN|apply R_drew));exact HO246.out))) (below_size (by repeat (first|(with_reducible first|exact HB.out|apply below_alloc|apply pw_below_drewN|apply below_drew1|refine below_set ?_ GE188.out|refine below_set ?_ GE205.out|refine below_set ?_ GE213.out|refine below_set ?_ GE222.out)|exact HB.out))));have n9_:=Aside0.mk (R_lower (R_new' (R_new' (R_new' (R_new' (R_new' (R_new' (R_new' (R_new' ho1 (R_lt (by (with_reducible repeat (first|apply R_alloc|apply R_drewN|apply R_drew));exact HO_206001.out))) (R_lt (by (with_reducible repeat (first|apply R_alloc|apply R_drewN|apply R_drew));exact HO_206002.out))) (R_lt (by (with_reducible repeat (first|apply R_alloc|apply R_drewN|apply R_drew));exact HO_214001.out))) (R_lt (by (with_reducible repeat (first|apply R_alloc|apply R_drewN|apply R_drew));exact HO_214002.out))) (R_lt (by (with_reducible repeat (first|apply R_alloc|apply R_drewN|apply R_drew));exact HO_223001.out))) (R_lt (by (with_reducible repeat (first|apply R_alloc|apply R_drewN|apply R_drew));exact HO_223002.out))) (R_lt (by (with_reducible repeat (first|apply R_alloc|apply R_drewN|apply R_drew));exact HO243.out))) (R_lt (by (with_reducible repeat (first|apply R_alloc|apply R_drewN|apply R_drew));exact HO246.out))) (below_size (by repeat (first|(with_reducible first|exact HB.out|apply below_alloc|apply pw_below_drewN|apply below_drew1|refine below_set ?_ GE188.out|refine below_set ?_ GE205.out|refine below_set ?_ GE213.out|refine below_set ?_ GE222.out)|exact HB.out))));have n10_:=Aside0.mk (blk_below (g:=gb188) (o:=.cells #[.int .i64 a0_0,.slice A0_1 l0_1.length c0_1,.slice A0_2 l0_2.length c0_2] 24 (0,0)) (by (with_reducible repeat (first|apply blk_drewN|apply blk_drew|apply blk_alloc));exact BK188.out) hb);have n11_:=Aside0.mk (blk_below (g:=gb205) (o:=.cells #[.int .i64 t197,.slice Ao23 t198.length co23,.slice Ao24 t201.length co24] 27 (0,0)) (by (with_reducible repeat (first|apply blk_drewN|apply blk_drew|apply blk_alloc));exact BK205.out) hb);have n12_:=Aside0.mk (blk_below (g:=gb213) (o:=.cells #[.int .i64 t206,.slice Ao31 t233.length co31,.slice Ao32 t234.length co32] 27 (0,0)) (by (with_reducible repeat (first|apply blk_drewN|apply blk_drew|apply blk_alloc));exact BK213.out) hb);have n13_:=Aside0.mk (blk_below (g:=gb222) (o:=.cells #[.int .i64 t214,.slice Ao39 t215.length co39,.slice Ao40 t218.length co40] 27 (0,0)) (by (with_reducible repeat (first|apply blk_drewN|apply blk_drew|apply blk_alloc));exact BK222.out) hb);have n14_:=Aside0.mk (below_step (by repeat (first|(with_reducible first|exact HB.out|apply below_alloc|apply pw_below_drewN|apply below_drew1|refine below_set ?_ GE188.out|refine below_set ?_ GE205.out|refine below_set ?_ GE213.out|refine below_set ?_ GE222.out)|exact HB.out)) hb);clear HO_206001;clear HO_206002;clear HO_214001;clear HO_214002;clear HO_223001;clear HO_223002;clear HO243;clear HO246;clear BK188;clear BK205;clear BK213;clear BK222;clear HB;have HO_206001:=n0_;have HO_206002:=n1_;have HO_214001:=n2_;have HO_214002:=n3_;have HO_223001:=n4_;have HO_223002:=n5_;have HO243:=n6_;have HO246:=n7_;have HO250:=n8_;have HO253:=n9_;have BK188:=n10_;have BK205:=n11_;have BK213:=n12_;have BK222:=n13_;have HB:=n14_;clear n0_ n1_ n2_ n3_ n4_ n5_ n6_ n7_ n8_ n9_ n10_ n11_ n12_ n13_ n14_;(try clear hb);(try clear hb2);(try clear hk);(try clear hi);(try clear ho0);(try clear ho1))|((with_reducible refine gate_dst (N:=12) rfl ?_);refine box_event ?hg (N:=12) ?hd (cs:=#[.int .i64 0,.slice none 0 0,.slice none 0 0]) (t:=27) ?hr ?_;(case hd=>rfl);(case hg=>rfl);(case hr=>first|(go_simp;done)|(go_simp;rfl));intro gb255 hg w123 hbox hb;have n0_:=Aside0.mk (R_below (by (with_reducible repeat (first|apply R_alloc|apply R_drewN|apply R_drew));exact HO_206001.out) hb);have n1_:=Aside0.mk (R_below (by (with_reducible repeat (first|apply R_alloc|apply R_drewN|apply R_drew));exact HO_206002.out) hb);have n2_:=Aside0.mk (R_below (by (with_reducible repeat (first|apply R_alloc|apply R_drewN|apply R_drew));exact HO_214001.out) hb);have n3_:=Aside0.mk (R_below (by (with_reducible repeat (first|apply R_alloc|apply R_drewN|apply R_drew));exact HO_214002.out) hb);have n4_:=Aside0.mk (R_below (by (with_reducible repeat (first|apply R_alloc|apply R_drewN|apply R_drew));exact HO_223001.out) hb);have n5_:=Aside0.mk (R_below (by (with_reducible repeat (first|apply R_alloc|apply R_drewN|apply R_drew));exact HO_223002.out) hb);have n6_:=Aside0.mk (R_below (by (with_reducible repeat (first|apply R_alloc|apply R_drewN|apply R_drew));exact HO243.out) hb);have n7_:=Aside0.mk (R_below (by (with_reducible repeat (first|apply R_alloc|apply R_drewN|apply R_drew));exact HO246.out) hb);have n8_:=Aside0.mk (R_below (by (with_reducible repeat (first|apply R_alloc|apply R_drewN|apply R_drew));exact HO250.out) hb);have n9_:=Aside0.mk (R_below (by (with_reducible repeat (first|apply R_alloc|apply R_drewN|apply R_drew));exact HO253.out) hb);have n10_:=Aside0.mk (blk_below (g:=gb188) (o:=.cells #[.int .i64 a0_0,.slice A0_1 l0_1.length c0_1,.slice A0_2 l0_2.length c0_2] 24 (0,0)) (by (with_reducible repeat (first|apply blk_drewN|apply blk_drew|apply blk_alloc));exact BK188.out) hb);have n11_:=Aside0.mk (blk_below (g:=gb205) (o:=.cells #[.int .i64 t197,.slice Ao23 t198.length co23,.slice Ao24 t201.length co24] 27 (0,0)) (by (with_reducible repeat (first|apply blk_drewN|apply blk_drew|apply blk_alloc));exact BK205.out) hb);have n12_:=Aside0.mk (blk_below (g:=gb213) (o:=.cells #[.int .i64 t206,.slice Ao31 t233.length co31,.slice Ao32 t234.length co32] 27 (0,0)) (by (with_reducible repeat (first|apply blk_drewN|apply blk_drew|apply blk_alloc));exact BK213.out) hb);have n13_:=Aside0.mk (blk_below (g:=gb222) (o:=.cells #[.int .i64 t214,.slice Ao39 t215.length co39,.slice Ao40 t218.length co40] 27 (0,0)) (by (with_reducible repeat (first|apply blk_drewN|apply blk_drew|apply blk_alloc));exact BK222.out) hb);have n14_:=Aside0.mk (below_step (by repeat (first|(with_reducible first|exact HB.out|apply below_alloc|apply pw_below_drewN|apply below_drew1|refine below_set ?_ GE188.out|refine below_set ?_ GE205.out|refine below_set ?_ GE213.out|refine below_set ?_ GE222.out)|exact HB.out)) hb);have n15_:=Aside0.mk (hbox);have n16_:=Aside0.mk ((by rw [hg];exact (below_size (by repeat (first|(with_reducible first|exact HB.out|apply below_alloc|apply pw_below_drewN|apply below_drew1|refine below_set ?_ GE188.out|refine below_set ?_ GE205.out|refine below_set ?_ GE213.out|refine below_set ?_ GE222.out)|exact HB.out))) : w.heap.size ≤ gb255));have n17_:=Aside0.mk ((by rw [hg];exact (below_size (by repeat (first|(with_reducible first|exact HB.out|apply below_alloc|apply pw_below_drewN|apply below_drew1|refine below_set ?_ GE188.out|refine below_set ?_ GE205.out|refine below_set ?_ GE213.out|refine below_set ?_ GE222.out)|exact HB.out))) : w.heap.size ≤ gb255));have n18_:=Aside0.mk ((by rw [hg];exact Nat.ne_of_lt (blk_lt (g:=gb188) (by (with_reducible repeat (first|apply blk_drewN|apply blk_drew|apply blk_alloc));exact BK188.out)) : gb188 ≠ gb255));have n19_:=Aside0.mk ((by rw [hg];exact Nat.ne_of_gt (blk_lt (g:=gb188) (by (with_reducible repeat (first|apply blk_drewN|apply blk_drew|apply blk_alloc));exact BK188.out)) : gb255 ≠ gb188));have n20_:=Aside0.mk ((by rw [hg];exact Nat.ne_of_lt (blk_lt (g:=gb205) (by (with_reducible repeat (first|apply blk_drewN|apply blk_drew|apply blk_alloc));exact BK205.out)) : gb205 ≠ gb255));have n21_:=Aside0.mk ((by rw [hg];exact Nat.ne_of_gt (blk_lt (g:=gb205) (by (with_reducible repeat (first|apply blk_drewN|apply blk_drew|apply blk_alloc));exact BK205.out)) : gb255 ≠ gb205));have n22_:=Aside0.mk ((by rw [hg];exact Nat.ne_of_lt (blk_lt (g:=gb213) (by (with_reducible repeat (first|apply blk_drewN|apply blk_drew|apply blk_alloc));exact BK213.out)) : gb213 ≠ gb255));have n23_:=Aside0.mk ((by rw [hg];exact Nat.ne_of_gt (blk_lt (g:=gb213) (by (with_reducible repeat (first|apply blk_drewN|apply blk_drew|apply blk_alloc));exact BK213.out)) : gb255 ≠ gb213));have n24_:=Aside0.mk ((by rw [hg];exact Nat.ne_of_lt (blk_lt (g:=gb222) (by (with_reducible repeat (first|apply blk_drewN|apply blk_drew|apply blk_alloc));exact BK222.out)) : gb222 ≠ gb255));have n25_:=Aside0.mk ((by rw [hg];exact Nat.ne_of_gt (blk_lt (g:=gb222) (by (with_reducible repeat (first|apply blk_drewN|apply blk_drew|apply blk_alloc));exact BK222.out)) : gb255 ≠ gb222));clear HO_206001;clear HO_206002;clear HO_214001;clear HO_214002;clear HO_223001;clear HO_223002;clear HO243;clear HO246;clear HO250;clear HO253;clear BK188;clear BK205;clear BK213;clear BK222;clear HB;have HO_206001:=n0_;have HO_206002:=n1_;have HO_214001:=n2_;have HO_214002:=n3_;have HO_223001:=n4_;have HO_223002:=n5_;have HO243:=n6_;have HO246:=n7_;have HO250:=n8_;have HO253:=n9_;have BK188:=n10_;have BK205:=n11_;have BK213:=n12_;have BK222:=n13_;have HB:=n14_;have BK255:=n15_;have GW255:=n16_;have GE255:=n17_;have NB188_255:=n18_;have NB255_188:=n19_;have NB205_255:=n20_;have NB255_205:=n21_;have NB213_255:=n22_;have NB255_213:=n23_;have NB222_255:=n24_;have NB255_222:=n25_;clear n0_ n1_ n2_ n3_ n4_ n5_ n6_ n7_ n8_ n9_ n10_ n11_ n12_ n13_ n14_ n15_ n16_ n17_ n18_ n19_ n20_ n21_ n22_ n23_ n24_ n25_;clear hb hbox hg;have hnb124:=NB255_188.out;have hnc124:=NB188_255.out;have hnb125:=NB255_205.out;have hnc125:=NB205_255.out;have hnb126:=NB255_213.out;have hnc126:=NB213_255.out;have hnb127:=NB255_222.out;have hnc127:=NB222_255.out;have hcz128_0 : w123.cell? ⟨gb255,0,none⟩ = some (.int .i64 0):=(blk_cell BK255.out 0).trans rfl;have hcz128_1 : w123.cell? ⟨gb255,1,none⟩ = some (.slice none 0 0):=(blk_cell BK255.out 1).trans rfl;have hcz128_2 : w123.cell? ⟨gb255,2,none⟩ = some (.slice none 0 0):=(blk_cell BK255.out 2).trans rfl;have hfz128_0:=blk_frozen BK255.out 0;have hfz128_1:=blk_frozen BK255.out 1;have hfz128_2:=blk_frozen BK255.out 2;obtain ⟨Ao129,co129,eo129⟩:=R_slice HO250.out;subst eo129;obtain ⟨Ao130,co130,eo130⟩:=R_slice HO253.out;subst eo130))
   (try simp only [Act.put,List.setIfInBounds_toArray,List.set_cons_zero,List.set_cons_succ])
   go_cut [87] (fun v87 wc=>∃ (kq : Nat) (x87_107 : Bool),v87 = .bool x87_107 ∧ Aside0 (laws_FnExactMirrorWire.j2 kq t236 x87_107 t214 t237 t238 = some r) ∧ Aside0 (kq ≤ kj63) ∧ Aside0 (Kd.R (Kd.int .i64) 3 wc w.heap.size (fun k_=>some k_ ≠ ((.slice Ao24 t201.length co24) : Value).ownBlock ∧ some k_ ≠ ((.slice Ao31 t233.length co31) : Value).ownBlock ∧ some k_ ≠ ((.slice Ao32 t234.length co32) : Value).ownBlock ∧ some k_ ≠ ((.slice Ao39 t215.length co39) : Value).ownBlock ∧ some k_ ≠ ((.slice Ao40 t218.length co40) : Value).ownBlock ∧ some k_ ≠ ((.slice Ao129 t248.length co129) : Value).ownBlock ∧ some k_ ≠ ((.slice Ao130 t251.length co130) : Value).ownBlock) (.slice Ao23 t198.length co23) t198) ∧ Aside0 (Kd.R (Kd.int .i64) 3 wc w.heap.size (fun k_=>some k_ ≠ ((.slice Ao23 t198.length co23) : Value).ownBlock ∧ some k_ ≠ ((.slice Ao31 t233.length co31) : Value).ownBlock ∧ some k_ ≠ ((.slice Ao32 t234.length co32) : Value).ownBlock ∧ some k_ ≠ ((.slice Ao39 t215.length co39) : Value).ownBlock ∧ some k_ ≠ ((.slice Ao40 t218.length co40) : Value).ownBlock ∧ some k_ ≠ ((.slice Ao129 t248.length co129) : Value).ownBlock ∧ some k_ ≠ ((.slice Ao130 t251.length co130) : Value).ownBlock) (.slice Ao24 t201.length co24) t201) ∧ Aside0 (Kd.R (Kd.int .i64) 3 wc w.heap.size (fun k_=>some k_ ≠ ((.slice Ao23 t198.length co23) : Value).ownBlock ∧ some k_ ≠ ((.slice Ao24 t201.length co24) : Value).ownBlock ∧ some k_ ≠ ((.slice Ao32 t234.length co32) : Value).ownBlock ∧ some k_ ≠ ((.slice Ao39 t215.length co39) : Value).ownBlock ∧ some k_ ≠ ((.slice Ao40 t218.length co40) : Value).ownBlock ∧ some k_ ≠ ((.slice Ao129 t248.length co129) : Value).ownBlock ∧ some k_ ≠ ((.slice Ao130 t251.length co130) : Value).ownBlock) (.slice Ao31 t233.length co31) t233) ∧ Aside0 (Kd.R (Kd.int .i64) 3 wc w.heap.size (fun k_=>some k_ ≠ ((.slice Ao23 t198.length co23) : Value).ownBlock ∧ some k_ ≠ ((.slice Ao24 t201.length co24) : Value).ownBlock ∧ some k_ ≠ ((.slice Ao31 t233.length co31) : Value).ownBlock ∧ some k_ ≠ ((.slice Ao39 t215.length co39) : Value).ownBlock ∧ some k_ ≠ ((.slice Ao40 t218.length co40) : Value).ownBlock ∧ some k_ ≠ ((.slice Ao129 t248.length co129) : Value).ownBlock ∧ some k_ ≠ ((.slice Ao130 t251.length co130) : Value).ownBlock) (.slice Ao32 t234.length co32) t234) ∧ Aside0 (Kd.R (Kd.int .i64) 3 wc w.heap.size (fun k_=>some k_ ≠ ((.slice Ao23 t198.length co23) : Value).ownBlock ∧ some k_ ≠ ((.slice Ao24 t201.length co24) : Value).ownBlock ∧ some k_ ≠ ((.slice Ao31 t233.length co31) : Value).ownBlock ∧ some k_ ≠ ((.slice Ao32 t234.length co32) : Value).ownBlock ∧ some k_ ≠ ((.slice Ao40 t218.length co40) : Value).ownBlock ∧ some k_ ≠ ((.slice Ao129 t248.length co129) : Value).ownBlock ∧ some k_ ≠ ((.slice Ao130 t251.length co130) : Value).ownBlock) (.slice Ao39 t215.length co39) t237) ∧ Aside0 (Kd.R (Kd.int .i64) 3 wc w.heap.size (fun k_=>some k_ ≠ ((.slice Ao23 t198.length co23) : Value).ownBlock ∧ some k_ ≠ ((.slice Ao24 t201.length co24) : Value).ownBlock ∧ some k_ ≠ ((.slice Ao31 t233.length co31) : Value).ownBlock ∧ some k_ ≠ ((.slice Ao32 t234.length co32) : Value).ownBlock ∧ some k_ ≠ ((.slice Ao39 t215.length co39) : Value).ownBlock ∧ some k_ ≠ ((.slice Ao129 t248.length co129) : Value).ownBlock ∧ some k_ ≠ ((.slice Ao130 t251.length co130) : Value).ownBlock) (.slice Ao40 t218.length co40) t238) ∧ Aside0 (Kd.R (Kd.int .i64) 3 wc w.heap.size (fun k_=>some k_ ≠ ((.slice Ao23 t198.length co23) : Value).ownBlock ∧ some k_ ≠ ((.slice Ao24 t201.length co24) : Value).ownBlock ∧ some k_ ≠ ((.slice Ao31 t233.length co31) : Value).ownBlock ∧ some k_ ≠ ((.slice Ao32 t234.length co32) : Value).ownBlock ∧ some k_ ≠ ((.slice Ao39 t215.length co39) : Value).ownBlock ∧ some k_ ≠ ((.slice Ao40 t218.length co40) : Value).ownBlock ∧ some k_ ≠ ((.slice Ao130 t251.length co130) : Value).ownBlock) (.slice Ao129 t248.length co129) t248) ∧ Aside0 (Kd.R (Kd.int .i64) 3 wc w.heap.size (fun k_=>some k_ ≠ ((.slice Ao23 t198.length co23) : Value).ownBlock ∧ some k_ ≠ ((.slice Ao24 t201.length co24) : Value).ownBlock ∧ some k_ ≠ ((.slice Ao31 t233.length co31) : Value).ownBlock ∧ some k_ ≠ ((.slice Ao32 t234.length co32) : Value).ownBlock ∧ some k_ ≠ ((.slice Ao39 t215.length co39) : Value).ownBlock ∧ some k_ ≠ ((.slice Ao40 t218.length co40) : Value).ownBlock ∧ some k_ ≠ ((.slice Ao129 t248.length co129) : Value).ownBlock) (.slice Ao130 t251.length co130) t251) ∧ Aside0 (wc.heap[gb188]? = some (.cells #[.int .i64 a0_0,(.slice A0_1 l0_1.length c0_1),(.slice A0_2 l0_2.length c0_2)] 24 (0,0))) ∧ Aside0 (wc.heap[gb205]? = some (.cells #[.int .i64 t197,(.slice Ao23 t198.length co23),(.slice Ao24 t201.length co24)] 27 (0,0))) ∧ Aside0 (wc.heap[gb213]? = some (.cells #[.int .i64 t206,(.slice Ao31 t233.length co31),(.slice Ao32 t234.length co32)] 27 (0,0))) ∧ Aside0 (wc.heap[gb222]? = some (.cells #[.int .i64 t214,(.slice Ao39 t215.length co39),(.slice Ao40 t218.length co40)] 27 (0,0))) ∧ Aside0 (wc.heap[gb255]? = some (.cells #[.int .i64 t247,(.slice Ao129 t248.length co129),(.slice Ao130 t251.length co130)] 27 (0,0))) ∧ Aside0 (Below w.heap.size w wc))
   case first =>
    have H:=HC108.out
    clear HC108
    replace H:=Option.bind_eq_some_iff.mp H
    obtain ⟨t256,A1310,H⟩:=H
    replace H : (if t256 = true then (laws_FnExactMirrorWire.j2 kj63 t236 (t254 != t204) t214 t237 t238) else (laws_FnExactMirrorWire.j2 kj63 t236 true t214 t237 t238)) = some r:=H
    have A131:=Aside0.mk A1310
    clear A1310
    by_cases c132 : t256 = true
    ·subst c132
     have H1 : (laws_FnExactMirrorWire.j2 kj63 t236 (t254 != t204) t214 t237 t238) = some r:=by rw [if_pos rfl] at H;exact H
     clear H
     have H:=H1
     clear H1
     have H':=Aside0.mk H
     clear H
     have hnb133:=NB255_188.out
     have hnc133:=NB188_255.out
     have hnb134:=NB255_205.out
     have hnc134:=NB205_255.out
     have hnb135:=NB255_213.out
     have hnc135:=NB213_255.out
     have hnb136:=NB255_222.out
     have hnc136:=NB222_255.out
     have hcz137_0 : w123.cell? ⟨gb255,0,none⟩ = some (.int .i64 0):=(blk_cell BK255.out 0).trans rfl
     have hcz137_1 : w123.cell? ⟨gb255,1,none⟩ = some (.slice none 0 0):=(blk_cell BK255.out 1).trans rfl
     have hcz137_2 : w123.cell? ⟨gb255,2,none⟩ = some (.slice none 0 0):=(blk_cell BK255.out 2).trans rfl
     have hfz137_0:=blk_frozen BK255.out 0
     have hfz137_1:=blk_frozen BK255.out 1
     have hfz137_2:=blk_frozen BK255.out 2
     have hnb138:=NB205_188.out
     have hnc138:=NB188_205.out
     have hnb139:=NB205_213.out
     have hnc139:=NB213_205.out
     have hnb140:=NB205_222.out
     have hnc140:=NB222_205.out
     have hcz141_0 : w123.cell? ⟨gb205,0,none⟩ = some (.int .i64 t197):=(blk_cell BK205.out 0).trans rfl
     have hcz141_1 : w123.cell? ⟨gb205,1,none⟩ = some (.slice Ao23 t198.length co23):=(blk_cell BK205.out 1).trans rfl
     have hcz141_2 : w123.cell? ⟨gb205,2,none⟩ = some (.slice Ao24 t201.length co24):=(blk_cell BK205.out 2).trans rfl
     have hfz141_0:=blk_frozen BK205.out 0
     have hfz141_1:=blk_frozen BK205.out 1
     have hfz141_2:=blk_frozen BK205.out 2
     go_wp2_with (first|((with_reducible refine gate_callee (f:=15) rfl ?_);refine goesL_ (some 81) rfl rfl Try.func15 (by kernel_rfl) rfl #[.agg #[.int .i64 t247,.slice Ao129 t248.length co129,.slice Ao130 t251.length co130],.agg #[.int .i64 t197,.slice Ao23 t198.length co23,.slice Ao24 t201.length co24]] rfl (by (try simp only [List.map_toArray,List.map_cons,List.map_nil]);first|done|rfl|(simp only [List.length_drop,List.length_take];rfl)) ?_;(with_reducible refine (laws_eqWire.calls kj63 t247 _ _ t248 _ _ t251 t197 _ _ t198 _ _ t201 true _ ?side1 ?side2 ?side3 ?side4 ?side5 ?side6 ?side7 ?side8 A131.out).mono ?_);(case side1=>refine (R_reads' (e:=3) (base:=w.heap.size) (ok:=fun k_=>((((((((some k_ ≠ (.slice Ao130 t251.length co130 : Value).ownBlock ∧ some k_ ≠ (.slice Ao23 t198.length co23 : Value).ownBlock) ∧ some k_ ≠ (.slice Ao24 t201.length co24 : Value).ownBlock) ∧ some k_ ≠ (.slice Ao31 t233.length co31 : Value).ownBlock) ∧ some k_ ≠ (.slice Ao32 t234.length co32 : Value).ownBlock) ∧ some k_ ≠ (.slice Ao39 t215.length co39 : Value).ownBlock) ∧ some k_ ≠ (.slice Ao40 t218.length co40 : Value).ownBlock) ∧ some k_ ≠ (.slice Ao120 t241.length co120 : Value).ownBlock) ∧ some k_ ≠ (.slice Ao121 t244.length co121 : Value).ownBlock)) (n:=t248.length) (c:=co129) ?_).2.2;exact (by (with_reducible repeat (first|apply R_alloc|apply R_drewN|apply R_drew));exact (R_mono (R_far (p:=⟨gb255,2,none⟩) (R_far (p:=⟨gb255,1,none⟩) (R_far (p:=⟨gb255,0,none⟩) (R_types HO250.out BK255.out (by decide)) (fun _ hk=>hk.2) (.int .i64 t247)) (fun _ hk=>hk.2) (.slice Ao129 t248.length co129)) (fun _ hk=>hk.2) (.slice Ao130 t251.length co130)) (fun _ h_=>h_.1))));(case side2=>exact (R_reads' HO250.out).2.1);(case side3=>refine (R_reads' (e:=3) (base:=w.heap.size) (ok:=fun k_=>((((((((some k_ ≠ (.slice Ao129 t248.length co129 : Value).ownBlock ∧ some k_ ≠ (.slice Ao23 t198.length co23 : Value).ownBlock) ∧ some k_ ≠ (.slice Ao24 t201.length co24 : Value).ownBlock) ∧ some k_ ≠ (.slice Ao31 t233.length co31 : Value).ownBlock) ∧ some k_ ≠ (.slice Ao32 t234.length co32 : Value).ownBlock) ∧ some k_ ≠ (.slice Ao39 t215.length co39 : Value).ownBlock) ∧ some k_ ≠ (.slice Ao40 t218.length co40 : Value).ownBlock) ∧ some k_ ≠ (.slice Ao120 t241.length co120 : Value).ownBlock) ∧ some k_ ≠ (.slice Ao121 t244.length co121 : Value).ownBlock)) (n:=t251.length) (c:=co130) ?_).2.2;exact (by (with_reducible repeat (first|apply R_alloc|apply R_drewN|apply R_drew));exact (R_mono (R_far (p:=⟨gb255,2,none⟩) (R_far (p:=⟨gb255,1,none⟩) (R_far (p:=⟨gb255,0,none⟩) (R_types HO253.out BK255.out (by decide)) (fun _ hk=>hk.2) (.int .i64 t247)) (fun _ hk=>hk.2) (.slice Ao129 t248.length co129)) (fun _ hk=>hk.2) (.slice Ao130 t251.length co130)) (fun _ h_=>h_.1))));(case side4=>exact (R_reads' HO253.out).2.1);(case side5=>refine (R_reads' (e:=3) (base:=w.heap.size) (ok:=fun k_=>(((((some k_ ≠ (.slice Ao24 t201.length co24 : Value).ownBlock ∧ (some k_ ≠ (.slice Ao31 t233.length co31 : Value).ownBlock ∧ (some k_ ≠ (.slice Ao32 t234.length co32 : Value).ownBlock ∧ (some k_ ≠ (.slice Ao39 t215.length co39 : Value).ownBlock ∧ some k_ ≠ (.slice Ao40 t218.length co40 : Value).ownBlock)))) ∧ some k_ ≠ (.slice Ao120 t241.length co120 : Value).ownBlock) ∧ some k_ ≠ (.slice Ao121 t244.length co121 : Value).ownBlock) ∧ some k_ ≠ (.slice Ao129 t248.length co129 : Value).ownBlock) ∧ some k_ ≠ (.slice Ao130 t251.length co130 : Value).ownBlock)) (n:=t198.length) (c:=co23) ?_).2.2;exact (by (with_reducible repeat (first|apply R_alloc|apply R_drewN|apply R_drew));exact (R_mono (R_far (p:=⟨gb255,2,none⟩) (R_far (p:=⟨gb255,1,none⟩) (R_far (p:=⟨gb255,0,none⟩) (R_types HO_206001.out BK255.out (by decide)) (fun _ hk=>hk.2) (.int .i64 t247)) (fun _ hk=>hk.2) (.slice Ao129 t248.length co129)) (fun _ hk=>hk.2) (.slice Ao130 t251.length co130)) (fun _ h_=>h_.1))));(case side6=>exact (R_reads' HO_206001.out).2.1);(case side7=>refine (R_reads' (e:=3) (base:=w.heap.size) (ok:=fun k_=>(((((some k_ ≠ (.slice Ao23 t198.length co23 : Value).ownBlock ∧ (some k_ ≠ (.slice Ao31 t233.length co31 : Value).ownBlock ∧ (some k_ ≠ (.slice Ao32 t234.length co32 : Value).ownBlock ∧ (some k_ ≠ (.slice Ao39 t215.length co39 : Value).ownBlock ∧ some k_ ≠ (.slice Ao40 t218.length co40 : Value).ownBlock)))) ∧ some k_ ≠ (.slice Ao120 t241.length co120 : Value).ownBlock) ∧ some k_ ≠ (.slice Ao121 t244.length co121 : Value).ownBlock) ∧ some k_ ≠ (.slice Ao129 t248.length co129 : Value).ownBlock) ∧ some k_ ≠ (.slice Ao130 t251.length co130 : Value).ownBlock)) (n:=t201.length) (c:=co24) ?_).2.2;exact (by (with_reducible repeat (first|apply R_alloc|apply R_drewN|apply R_drew));exact (R_mono (R_far (p:=⟨gb255,2,none⟩) (R_far (p:=⟨gb255,1,none⟩) (R_far (p:=⟨gb255,0,none⟩) (R_types HO_206002.out BK255.out (by decide)) (fun _ hk=>hk.2) (.int .i64 t247)) (fun _ hk=>hk.2) (.slice Ao129 t248.length co129)) (fun _ hk=>hk.2) (.slice Ao130 t251.length co130)) (fun _ h_=>h_.1))));(case side8=>exact (R_reads' HO_206002.out).2.1);rintro e w142 ⟨rfl,hb⟩;refine ⟨_,rfl,?_⟩;have n0_:=Aside0.mk (R_below (by (with_reducible repeat (first|apply R_alloc|apply R_drewN|apply R_drew));exact (R_mono (R_far (p:=⟨gb255,2,none⟩) (R_far (p:=⟨gb255,1,none⟩) (R_far (p:=⟨gb255,0,none⟩) (R_types HO_206001.out BK255.out (by decide)) (fun _ hk=>hk.2) (.int .i64 t247)) (fun _ hk=>hk.2) (.slice Ao129 t248.length co129)) (fun _ hk=>hk.2) (.slice Ao130 t251.length co130)) (fun _ h_=>h_.1))) hb);have n1_:=Aside0.mk (R_below (by (with_reducible repeat (first|apply R_alloc|apply R_drewN|apply R_drew));exact (R_mono (R_far (p:=⟨gb255,2,none⟩) (R_far (p:=⟨gb255,1,none⟩) (R_far (p:=⟨gb255,0,none⟩) (R_types HO_206002.out BK255.out (by decide)) (fun _ hk=>hk.2) (.int .i64 t247)) (fun _ hk=>hk.2) (.slice Ao129 t248.length co129)) (fun _ hk=>hk.2) (.slice Ao130 t251.length co130)) (fun _ h_=>h_.1))) hb);have n2_:=Aside0.mk (R_below (by (with_reducible repeat (first|apply R_alloc|apply R_drewN|apply R_drew));exact (R_mono (R_far (p:=⟨gb255,2,none⟩) (R_far (p:=⟨gb255,1,none⟩) (R_far (p:=⟨gb255,0,none⟩) (R_types HO_214001.out BK255.out (by decide)) (fun _ hk=>hk.2) (.int .i64 t247)) (fun _ hk=>hk.2) (.slice Ao129 t248.length co129)) (fun _ hk=>hk.2) (.slice Ao130 t251.length co130)) (fun _ h_=>h_.1))) hb);have n3_:=Aside0.mk (R_below (by (with_reducible repeat (first|apply R_alloc|apply R_drewN|apply R_drew));exact (R_mono (R_far (p:=⟨gb255,2,none⟩) (R_far (p:=⟨gb255,1,none⟩) (R_far (p:=⟨gb255,0,none⟩) (R_types HO_214002.out BK255.out (by decide)) (fun _ hk=>hk.2) (.int .i64 t247)) (fun _ hk=>hk.2) (.slice Ao129 t248.length co129)) (fun _ hk=>hk.2) (.slice Ao130 t251.length co130)) (fun _ h_=>h_.1))) hb);have n4_:=Aside0.mk (R_below (by (with_reducible repeat (first|apply R_alloc|apply R_drewN|apply R_drew));exact (R_mono (R_far (p:=⟨gb255,2,none⟩) (R_far (p:=⟨gb255,1,none⟩) (R_far (p:=⟨gb255,0,none⟩) (R_types HO_223001.out BK255.out (by decide)) (fun _ hk=>hk.2) (.int .i64 t247)) (fun _ hk=>hk.2) (.slice Ao129 t248.length co129)) (fun _ hk=>hk.2) (.slice Ao130 t251.length co130)) (fun _ h_=>h_.1))) hb);have n5_:=Aside0.mk (R_below (by (with_reducible repeat (first|apply R_alloc|apply R_drewN|apply R_drew));exact (R_mono (R_far (p:=⟨gb255,2,none⟩) (R_far (p:=⟨gb255,1,none⟩) (R_far (p:=⟨gb255,0,none⟩) (R_types HO_223002.out BK255.out (by decide)) (fun _ hk=>hk.2) (.int .i64 t247)) (fun _ hk=>hk.2) (.slice Ao129 t248.length co129)) (fun _ hk=>hk.2) (.slice Ao130 t251.length co130)) (fun _ h_=>h_.1))) hb);have n6_:=Aside0.mk (R_below (by (with_reducible repeat (first|apply R_alloc|apply R_drewN|apply R_drew));exact (R_mono (R_far (p:=⟨gb255,2,none⟩) (R_far (p:=⟨gb255,1,none⟩) (R_far (p:=⟨gb255,0,none⟩) (R_types HO243.out BK255.out (by decide)) (fun _ hk=>hk.2) (.int .i64 t247)) (fun _ hk=>hk.2) (.slice Ao129 t248.length co129)) (fun _ hk=>hk.2) (.slice Ao130 t251.length co130)) (fun _ h_=>h_.1))) hb);have n7_:=Aside0.mk (R_below (by (with_reducible repeat (first|apply R_alloc|apply R_drewN|apply R_drew));exact (R_mono (R_far (p:=⟨gb255,2,none⟩) (R_far (p:=⟨gb255,1,none⟩) (R_far (p:=⟨gb255,0,none⟩) (R_types HO246.out BK255.out (by decide)) (fun _ hk=>hk.2) (.int .i64 t247)) (fun _ hk=>hk.2) (.slice Ao129 t248.length co129)) (fun _ hk=>hk.2) (.slice Ao130 t251.length co130)) (fun _ h_=>h_.1))) hb);have n8_:=Aside0.mk (R_below (by (with_reducible repeat (first|apply R_alloc|apply R_drewN|apply R_drew));exact (R_mono (R_far (p:=⟨gb255,2,none⟩) (R_far (p:=⟨gb255,1,none⟩) (R_far (p:=⟨gb255,0,none⟩) (R_types HO250.out BK255.out (by decide)) (fun _ hk=>hk.2) (.int .i64 t247)) (fun _ hk=>hk.2) (.slice Ao129 t248.length co129)) (fun _ hk=>hk.2) (.slice Ao130 t251.length co130)) (fun _ h_=>h_.1))) hb);have n9_:=Aside0.mk (R_below (by (with_reducible repeat (first|apply R_alloc|apply R_drewN|apply R_drew));exact (R_mono (R_far (p:=⟨gb255,2,none⟩) (R_far (p:=⟨gb255,1,none⟩) (R_far (p:=⟨gb255,0,none⟩) (R_types HO253.out BK255.out (by decide)) (fun _ hk=>hk.2) (.int .i64 t247)) (fun _ hk=>hk.2) (.slice Ao129 t248.length co129)) (fun _ hk=>hk.2) (.slice Ao130 t251.length co130)) (fun _ h_=>h_.1))) hb);have n10_:=Aside0.mk (blk_below (g:=gb188) (o:=.cells #[.int .i64 a0_0,.slice A0_1 l0_1.length c0_1,.slice A0_2 l0_2.length c0_2] 24 (0,0)) (by (with_reducible repeat (first|apply blk_drewN|apply blk_drew|apply blk_alloc));refine blk_far ?_ NB188_255.out _;(with_reducible repeat (first|apply blk_drewN|apply blk_drew|apply blk_alloc));refine blk_far ?_ NB188_255.out _;(with_reducible repeat (first|apply blk_drewN|apply blk_drew|apply blk_alloc));refine blk_far ?_ NB188_255.out _;(with_reducible repeat (first|apply blk_drewN|apply blk_drew|apply blk_alloc));exact BK188.out) hb);have n11_:=Aside0.mk (blk_below (g:=gb205) (o:=.cells #[.int .i64 t197,.slice Ao23 t198.length co23,.slice Ao24 t201.length co24] 27 (0,0)) (by (with_reducible repeat (first|apply blk_drewN|apply blk_drew|apply blk_alloc));refine blk_far ?_ NB205_255.out _;(with_reducible repeat (first|apply blk_drewN|apply blk_drew|apply blk_alloc));refine blk_far ?_ NB205_255.out _;(with_reducible repeat (first|apply blk_drewN|apply blk_drew|apply blk_alloc));refine blk_far ?_ NB205_255.out _;(with_reducible repeat (first|apply blk_drewN|apply blk_drew|apply blk_alloc));exact BK205.out) hb);have n12_:=Aside0.mk (blk_below (g:=gb213) (o:=.cells #[.int .i64 t206,.slice Ao31 t233.length co31,.slice Ao32 t234.length co32] 27 (0,0)) (by (with_reducible repeat (first|apply blk_drewN|apply blk_drew|apply blk_alloc));refine blk_far ?_ NB213_255.out _;(with_reducible repeat (first|apply blk_drewN|apply blk_drew|apply blk_alloc));refine blk_far ?_ NB213_255.out _;(with_reducible repeat (first|apply blk_drewN|apply blk_drew|apply blk_alloc));refine blk_far ?_ NB213_255.out _;(with_reducible repeat (first|apply blk_drewN|apply blk_drew|apply blk_alloc));exact BK213.out) hb);have n13_:=Aside0.mk (blk_below (g:=gb222) (o:=.cells #[.int .i64 t214,.slice Ao39 t215.length co39,.slice Ao40 t218.length co40] 27 (0,0)) (by (with_reducible repeat (first|apply blk_drewN|apply blk_drew|apply blk_alloc));refine blk_far ?_ NB222_255.out _;(with_reducible repeat (first|apply blk_drewN|apply blk_drew|apply blk_alloc));refine blk_far ?_ NB222_255.out _;(with_reducible repeat (first|apply blk_drewN|apply blk_drew|apply blk_alloc));refine blk_far ?_ NB222_255.out _;(with_reducible repeat (first|apply blk_drewN|apply blk_drew|apply blk_alloc));exact BK222.out) hb);have n14_:=Aside0.mk (blk_below (g:=gb255) (o:=.cells #[.int .i64 t247,.slice Ao129 t248.length co129,.slice Ao130 t251.length co130] 27 (0,0)) (by (with_reducible repeat (first|apply blk_drewN|apply blk_drew|apply blk_alloc));refine blk_put (cs:=#[.int .i64 t247,.slice Ao129 t248.length co129,.slice none 0 0]) ?_ 2 _ rfl;(with_reducible repeat (first|apply blk_drewN|apply blk_drew|apply blk_alloc));refine blk_put (cs:=#[.int .i64 t247,.slice none 0 0,.slice none 0 0]) ?_ 1 _ rfl;(with_reducible repeat (first|apply blk_drewN|apply blk_drew|apply blk_alloc));refine blk_put (cs:=#[.int .i64 0,.slice none 0 0,.slice none 0 0]) ?_ 0 _ rfl;(with_reducible repeat (first|apply blk_drewN|apply blk_drew|apply blk_alloc));exact BK255.out) hb);have n15_:=Aside0.mk (below_step (by repeat (first|(with_reducible first|exact HB.out|apply below_alloc|apply pw_below_drewN|apply below_drew1|refine below_set ?_ GE188.out|refine below_set ?_ GE205.out|refine below_set ?_ GE213.out|refine below_set ?_ GE222.out|refine below_set ?_ GE255.out)|exact HB.out)) hb);clear HO_206001;clear HO_206002;clear HO_214001;clear HO_214002;clear HO_223001;clear HO_223002;clear HO243;clear HO246;clear HO250;clear HO253;clear BK188;clear BK205;clear BK213;clear BK222;clear BK255;clear HB;have HO_206001:=n0_;have HO_206002:=n1_;have HO_214001:=n2_;have HO_214002:=n3_;have HO_223001:=n4_;have HO_223002:=n5_;have HO243:=n6_;have HO246:=n7_;have HO250:=n8_;have HO253:=n9_;have BK188:=n10_;have BK205:=n11_;have BK213:=n12_;have BK222:=n13_;have BK255:=n14_;have HB:=n15_;clear n0_ n1_ n2_ n3_ n4_ n5_ n6_ n7_ n8_ n9_ n10_ n11_ n12_ n13_ n14_ n15_;(try clear hb);(try clear hb2);(try clear hk);(try clear hi)))
     go_meet
     case rel=>exact ⟨_,((t254 != t204)),(by first|rfl|(simp;done)|(simp [*];done)),H',⟨by have:=HJ10.out;have:=HJ63.out;first|omega|exact Nat.le_refl _⟩,⟨by (try simp only [hl214001_63]);(try simp only [hl214002_63]);(with_reducible repeat (first|apply R_alloc|apply R_drewN|apply R_drew));exact R_mono HO_206001.out (fun _ hk=>⟨hk.1.1.1.1.1,⟨hk.1.1.1.1.2.1,⟨hk.1.1.1.1.2.2.1,⟨hk.1.1.1.1.2.2.2.1,⟨hk.1.1.1.1.2.2.2.2,⟨hk.1.2,hk.2⟩⟩⟩⟩⟩⟩)⟩,⟨by (try simp only [hl214001_63]);(try simp only [hl214002_63]);(with_reducible repeat (first|apply R_alloc|apply R_drewN|apply R_drew));exact R_mono HO_206002.out (fun _ hk=>⟨hk.1.1.1.1.1,⟨hk.1.1.1.1.2.1,⟨hk.1.1.1.1.2.2.1,⟨hk.1.1.1.1.2.2.2.1,⟨hk.1.1.1.1.2.2.2.2,⟨hk.1.2,hk.2⟩⟩⟩⟩⟩⟩)⟩,⟨by (try simp only [hl214001_63]);(try simp only [hl214002_63]);(with_reducible repeat (first|apply R_alloc|apply R_drewN|apply R_drew));exact R_mono HO_214001.out (fun _ hk=>⟨hk.1.1.1.1.1,⟨hk.1.1.1.1.2.1,⟨hk.1.1.1.1.2.2.1,⟨hk.1.1.1.1.2.2.2.1,⟨hk.1.1.1.1.2.2.2.2,⟨hk.1.2,hk.2⟩⟩⟩⟩⟩⟩)⟩,⟨by (try simp only [hl214001_63]);(try simp only [hl214002_63]);(with_reducible repeat (first|apply R_alloc|apply R_drewN|apply R_drew));exact R_mono HO_214002.out (fun _ hk=>⟨hk.1.1.1.1.1,⟨hk.1.1.1.1.2.1,⟨hk.1.1.1.1.2.2.1,⟨hk.1.1.1.1.2.2.2.1,⟨hk.1.1.1.1.2.2.2.2,⟨hk.1.2,hk.2⟩⟩⟩⟩⟩⟩)⟩,⟨by (try simp only [hl214001_63]);(try simp only [hl214002_63]);(with_reducible repeat (first|apply R_alloc|apply R_drewN|apply R_drew));exact R_mono HO_223001.out (fun _ hk=>⟨hk.1.1.1.1.1,⟨hk.1.1.1.1.2.1,⟨hk.1.1.1.1.2.2.1,⟨hk.1.1.1.1.2.2.2.1,⟨hk.1.1.1.1.2.2.2.2,⟨hk.1.2,hk.2⟩⟩⟩⟩⟩⟩)⟩,⟨by (try simp only [hl214001_63]);(try simp only [hl214002_63]);(with_reducible repeat (first|apply R_alloc|apply R_drewN|apply R_drew));exact R_mono HO_223002.out (fun _ hk=>⟨hk.1.1.1.1.1,⟨hk.1.1.1.1.2.1,⟨hk.1.1.1.1.2.2.1,⟨hk.1.1.1.1.2.2.2.1,⟨hk.1.1.1.1.2.2.2.2,⟨hk.1.2,hk.2⟩⟩⟩⟩⟩⟩)⟩,⟨by (try simp only [hl214001_63]);(try simp only [hl214002_63]);(with_reducible repeat (first|apply R_alloc|apply R_drewN|apply R_drew));exact R_mono HO250.out (fun _ hk=>⟨hk.1.1.1.1.1.1.1.2,⟨hk.1.1.1.1.1.1.2,⟨hk.1.1.1.1.1.2,⟨hk.1.1.1.1.2,⟨hk.1.1.1.2,⟨hk.1.1.2,hk.1.1.1.1.1.1.1.1⟩⟩⟩⟩⟩⟩)⟩,⟨by (try simp only [hl214001_63]);(try simp only [hl214002_63]);(with_reducible repeat (first|apply R_alloc|apply R_drewN|apply R_drew));exact R_mono HO253.out (fun _ hk=>⟨hk.1.1.1.1.1.1.1.2,⟨hk.1.1.1.1.1.1.2,⟨hk.1.1.1.1.1.2,⟨hk.1.1.1.1.2,⟨hk.1.1.1.2,⟨hk.1.1.2,hk.1.1.1.1.1.1.1.1⟩⟩⟩⟩⟩⟩)⟩,⟨by (try simp only [hl214001_63]);(try simp only [hl214002_63]);(with_reducible repeat (first|apply blk_drewN|apply blk_drew|apply blk_alloc));exact BK188.out⟩,⟨by (try simp only [hl214001_63]);(try simp only [hl214002_63]);(with_reducible repeat (first|apply blk_drewN|apply blk_drew|apply blk_alloc));exact BK205.out⟩,⟨by (try simp only [hl214001_63]);(try simp only [hl214002_63]);(with_reducible repeat (first|apply blk_drewN|apply blk_drew|apply blk_alloc));exact BK213.out⟩,⟨by (try simp only [hl214001_63]);(try simp only [hl214002_63]);(with_reducible repeat (first|apply blk_drewN|apply blk_drew|apply blk_alloc));exact BK222.out⟩,⟨by (try simp only [hl214001_63]);(try simp only [hl214002_63]);(with_reducible repeat (first|apply blk_drewN|apply blk_drew|apply blk_alloc));exact BK255.out⟩,⟨by repeat (first|(with_reducible first|exact HB.out|apply below_alloc|apply pw_below_drewN|apply below_drew1|refine below_set ?_ GE188.out|refine below_set ?_ GE205.out|refine below_set ?_ GE213.out|refine below_set ?_ GE222.out|refine below_set ?_ GE255.out)|exact HB.out)⟩⟩
    replace c132:=Bool.eq_false_iff.mpr c132
    subst c132
    have H1 : (laws_FnExactMirrorWire.j2 kj63 t236 true t214 t237 t238) = some r:=by rw [if_neg (show ¬ (false = true) by decide)] at H;exact H
    clear H
    have H:=H1
    clear H1
    have H':=Aside0.mk H
    clear H
    have hnb143:=NB255_188.out
    have hnc143:=NB188_255.out
    have hnb144:=NB255_205.out
    have hnc144:=NB205_255.out
    have hnb145:=NB255_213.out
    have hnc145:=NB213_255.out
    have hnb146:=NB255_222.out
    have hnc146:=NB222_255.out
    have hcz147_0 : w123.cell? ⟨gb255,0,none⟩ = some (.int .i64 0):=(blk_cell BK255.out 0).trans rfl
    have hcz147_1 : w123.cell? ⟨gb255,1,none⟩ = some (.slice none 0 0):=(blk_cell BK255.out 1).trans rfl
    have hcz147_2 : w123.cell? ⟨gb255,2,none⟩ = some (.slice none 0 0):=(blk_cell BK255.out 2).trans rfl
    have hfz147_0:=blk_frozen BK255.out 0
    have hfz147_1:=blk_frozen BK255.out 1
    have hfz147_2:=blk_frozen BK255.out 2
    have hnb148:=NB205_188.out
    have hnc148:=NB188_205.out
    have hnb149:=NB205_213.out
    have hnc149:=NB213_205.out
    have hnb150:=NB205_222.out
    have hnc150:=NB222_205.out
    have hcz151_0 : w123.cell? ⟨gb205,0,none⟩ = some (.int .i64 t197):=(blk_cell BK205.out 0).trans rfl
    have hcz151_1 : w123.cell? ⟨gb205,1,none⟩ = some (.slice Ao23 t198.length co23):=(blk_cell BK205.out 1).trans rfl
    have hcz151_2 : w123.cell? ⟨gb205,2,none⟩ = some (.slice Ao24 t201.length co24):=(blk_cell BK205.out 2).trans rfl
    have hfz151_0:=blk_frozen BK205.out 0
    have hfz151_1:=blk_frozen BK205.out 1
    have hfz151_2:=blk_frozen BK205.out 2
    go_wp2_with (first|((with_reducible refine gate_callee (f:=15) rfl ?_);refine goesL_ (some 81) rfl rfl Try.func15 (by kernel_rfl) rfl #[.agg #[.int .i64 t247,.slice Ao129 t248.length co129,.slice Ao130 t251.length co130],.agg #[.int .i64 t197,.slice Ao23 t198.length co23,.slice Ao24 t201.length co24]] rfl (by (try simp only [List.map_toArray,List.map_cons,List.map_nil]);first|done|rfl|(simp only [List.length_drop,List.length_take];rfl)) ?_;(with_reducible refine (laws_eqWire.calls kj63 t247 _ _ t248 _ _ t251 t197 _ _ t198 _ _ t201 false _ ?side1 ?side2 ?side3 ?side4 ?side5 ?side6 ?side7 ?side8 A131.out).mono ?_);(case side1=>refine (R_reads' (e:=3) (base:=w.heap.size) (ok:=fun k_=>((((((((some k_ ≠ (.slice Ao130 t251.length co130 : Value).ownBlock ∧ some k_ ≠ (.slice Ao23 t198.length co23 : Value).ownBlock) ∧ some k_ ≠ (.slice Ao24 t201.length co24 : Value).ownBlock) ∧ some k_ ≠ (.slice Ao31 t233.length co31 : Value).ownBlock) ∧ some k_ ≠ (.slice Ao32 t234.length co32 : Value).ownBlock) ∧ some k_ ≠ (.slice Ao39 t215.length co39 : Value).ownBlock) ∧ some k_ ≠ (.slice Ao40 t218.length co40 : Value).ownBlock) ∧ some k_ ≠ (.slice Ao120 t241.length co120 : Value).ownBlock) ∧ some k_ ≠ (.slice Ao121 t244.length co121 : Value).ownBlock)) (n:=t248.length) (c:=co129) ?_).2.2;exact (by (with_reducible repeat (first|apply R_alloc|apply R_drewN|apply R_drew));exact (R_mono (R_far (p:=⟨gb255,2,none⟩) (R_far (p:=⟨gb255,1,none⟩) (R_far (p:=⟨gb255,0,none⟩) (R_types HO250.out BK255.out (by decide)) (fun _ hk=>hk.2) (.int .i64 t247)) (fun _ hk=>hk.2) (.slice Ao129 t248.length co129)) (fun _ hk=>hk.2) (.slice Ao130 t251.length co130)) (fun _ h_=>h_.1))));(case side2=>exact (R_reads' HO250.out).2.1);(case side3=>refine (R_reads' (e:=3) (base:=w.heap.size) (ok:=fun k_=>((((((((some k_ ≠ (.slice Ao129 t248.length co129 : Value).ownBlock ∧ some k_ ≠ (.slice Ao23 t198.length co23 : Value).ownBlock) ∧ some k_ ≠ (.slice Ao24 t201.length co24 : Value).ownBlock) ∧ some k_ ≠ (.slice Ao31 t233.length co31 : Value).ownBlock) ∧ some k_ ≠ (.slice Ao32 t234.length co32 : Value).ownBlock) ∧ some k_ ≠ (.slice Ao39 t215.length co39 : Value).ownBlock) ∧ some k_ ≠ (.slice Ao40 t218.length co40 : Value).ownBlock) ∧ some k_ ≠ (.slice Ao120 t241.length co120 : Value).ownBlock) ∧ some k_ ≠ (.slice Ao121 t244.length co121 : Value).ownBlock)) (n:=t251.length) (c:=co130) ?_).2.2;exact (by (with_reducible repeat (first|apply R_alloc|apply R_drewN|apply R_drew));exact (R_mono (R_far (p:=⟨gb255,2,none⟩) (R_far (p:=⟨gb255,1,none⟩) (R_far (p:=⟨gb255,0,none⟩) (R_types HO253.out BK255.out (by decide)) (fun _ hk=>hk.2) (.int .i64 t247)) (fun _ hk=>hk.2) (.slice Ao129 t248.length co129)) (fun _ hk=>hk.2) (.slice Ao130 t251.length co130)) (fun _ h_=>h_.1))));(case side4=>exact (R_reads' HO253.out).2.1);(case side5=>refine (R_reads' (e:=3) (base:=w.heap.size) (ok:=fun k_=>(((((some k_ ≠ (.slice Ao24 t201.length co24 : Value).ownBlock ∧ (some k_ ≠ (.slice Ao31 t233.length co31 : Value).ownBlock ∧ (some k_ ≠ (.slice Ao32 t234.length co32 : Value).ownBlock ∧ (some k_ ≠ (.slice Ao39 t215.length co39 : Value).ownBlock ∧ some k_ ≠ (.slice Ao40 t218.length co40 : Value).ownBlock)))) ∧ some k_ ≠ (.slice Ao120 t241.length co120 : Value).ownBlock) ∧ some k_ ≠ (.slice Ao121 t244.length co121 : Value).ownBlock) ∧ some k_ ≠ (.slice Ao129 t248.length co129 : Value).ownBlock) ∧ some k_ ≠ (.slice Ao130 t251.length co130 : Value).ownBlock)) (n:=t198.length) (c:=co23) ?_).2.2;exact (by (with_reducible repeat (first|apply R_alloc|apply R_drewN|apply R_drew));exact (R_mono (R_far (p:=⟨gb255,2,none⟩) (R_far (p:=⟨gb255,1,none⟩) (R_far (p:=⟨gb255,0,none⟩) (R_types HO_206001.out BK255.out (by decide)) (fun _ hk=>hk.2) (.int .i64 t247)) (fun _ hk=>hk.2) (.slice Ao129 t248.length co129)) (fun _ hk=>hk.2) (.slice Ao130 t251.length co130)) (fun _ h_=>h_.1))));(case side6=>exact (R_reads' HO_206001.out).2.1);(case side7=>refine (R_reads' (e:=3) (base:=w.heap.size) (ok:=fun k_=>(((((some k_ ≠ (.slice Ao23 t198.length co23 : Value).ownBlock ∧ (some k_ ≠ (.slice Ao31 t233.length co31 : Value).ownBlock ∧ (some k_ ≠ (.slice Ao32 t234.length co32 : Value).ownBlock ∧ (some k_ ≠ (.slice Ao39 t215.length co39 : Value).ownBlock ∧ some k_ ≠ (.slice Ao40 t218.length co40 : Value).ownBlock)))) ∧ some k_ ≠ (.slice Ao120 t241.length co120 : Value).ownBlock) ∧ some k_ ≠ (.slice Ao121 t244.length co121 : Value).ownBlock) ∧ some k_ ≠ (.slice Ao129 t248.length co129 : Value).ownBlock) ∧ some k_ ≠ (.slice Ao130 t251.length co130 : Value).ownBlock)) (n:=t201.length) (c:=co24) ?_).2.2;exact (by (with_reducible repeat (first|apply R_alloc|apply R_drewN|apply R_drew));exact (R_mono (R_far (p:=⟨gb255,2,none⟩) (R_far (p:=⟨gb255,1,none⟩) (R_far (p:=⟨gb255,0,none⟩) (R_types HO_206002.out BK255.out (by decide)) (fun _ hk=>hk.2) (.int .i64 t247)) (fun _ hk=>hk.2) (.slice Ao129 t248.length co129)) (fun _ hk=>hk.2) (.slice Ao130 t251.length co130)) (fun _ h_=>h_.1))));(case side8=>exact (R_reads' HO_206002.out).2.1);rintro e w152 ⟨rfl,hb⟩;refine ⟨_,rfl,?_⟩;have n0_:=Aside0.mk (R_below (by (with_reducible repeat (first|apply R_alloc|apply R_drewN|apply R_drew));exact (R_mono (R_far (p:=⟨gb255,2,none⟩) (R_far (p:=⟨gb255,1,none⟩) (R_far (p:=⟨gb255,0,none⟩) (R_types HO_206001.out BK255.out (by decide)) (fun _ hk=>hk.2) (.int .i64 t247)) (fun _ hk=>hk.2) (.slice Ao129 t248.length co129)) (fun _ hk=>hk.2) (.slice Ao130 t251.length co130)) (fun _ h_=>h_.1))) hb);have n1_:=Aside0.mk (R_below (by (with_reducible repeat (first|apply R_alloc|apply R_drewN|apply R_drew));exact (R_mono (R_far (p:=⟨gb255,2,none⟩) (R_far (p:=⟨gb255,1,none⟩) (R_far (p:=⟨gb255,0,none⟩) (R_types HO_206002.out BK255.out (by decide)) (fun _ hk=>hk.2) (.int .i64 t247)) (fun _ hk=>hk.2) (.slice Ao129 t248.length co129)) (fun _ hk=>hk.2) (.slice Ao130 t251.length co130)) (fun _ h_=>h_.1))) hb);have n2_:=Aside0.mk (R_below (by (with_reducible repeat (first|apply R_alloc|apply R_drewN|apply R_drew));exact (R_mono (R_far (p:=⟨gb255,2,none⟩) (R_far (p:=⟨gb255,1,none⟩) (R_far (p:=⟨gb255,0,none⟩) (R_types HO_214001.out BK255.out (by decide)) (fun _ hk=>hk.2) (.int .i64 t247)) (fun _ hk=>hk.2) (.slice Ao129 t248.length co129)) (fun _ hk=>hk.2) (.slice Ao130 t251.length co130)) (fun _ h_=>h_.1))) hb);have n3_:=Aside0.mk (R_below (by (with_reducible repeat (first|apply R_alloc|apply R_drewN|apply R_drew));exact (R_mono (R_far (p:=⟨gb255,2,none⟩) (R_far (p:=⟨gb255,1,none⟩) (R_far (p:=⟨gb255,0,none⟩) (R_types HO_214002.out BK255.out (by decide)) (fun _ hk=>hk.2) (.int .i64 t247)) (fun _ hk=>hk.2) (.slice Ao129 t248.length co129)) (fun _ hk=>hk.2) (.slice Ao130 t251.length co130)) (fun _ h_=>h_.1))) hb);have n4_:=Aside0.mk (R_below (by (with_reducible repeat (first|apply R_alloc|apply R_drewN|apply R_drew));exact (R_mono (R_far (p:=⟨gb255,2,none⟩) (R_far (p:=⟨gb255,1,none⟩) (R_far (p:=⟨gb255,0,none⟩) (R_types HO_223001.out BK255.out (by decide)) (fun _ hk=>hk.2) (.int .i64 t247)) (fun _ hk=>hk.2) (.slice Ao129 t248.length co129)) (fun _ hk=>hk.2) (.slice Ao130 t251.length co130)) (fun _ h_=>h_.1))) hb);have n5_:=Aside0.mk (R_below (by (with_reducible repeat (first|apply R_alloc|apply R_drewN|apply R_drew));exact (R_mono (R_far (p:=⟨gb255,2,none⟩) (R_far (p:=⟨gb255,1,none⟩) (R_far (p:=⟨gb255,0,none⟩) (R_types HO_223002.out BK255.out (by decide)) (fun _ hk=>hk.2) (.int .i64 t247)) (fun _ hk=>hk.2) (.slice Ao129 t248.length co129)) (fun _ hk=>hk.2) (.slice Ao130 t251.length co130)) (fun _ h_=>h_.1))) hb);have n6_:=Aside0.mk (R_below (by (with_reducible repeat (first|apply R_alloc|apply R_drewN|apply R_drew));exact (R_mono (R_far (p:=⟨gb255,2,none⟩) (R_far (p:=⟨gb255,1,none⟩) (R_far (p:=⟨gb255,0,none⟩) (R_types HO243.out BK255.out (by decide)) (fun _ hk=>hk.2) (.int .i64 t247)) (fun _ hk=>hk.2) (.slice Ao129 t248.length co129)) (fun _ hk=>hk.2) (.slice Ao130 t251.length co130)) (fun _ h_=>h_.1))) hb);have n7_:=Aside0.mk (R_below (by (with_reducible repeat (first|apply R_alloc|apply R_drewN|apply R_drew));exact (R_mono (R_far (p:=⟨gb255,2,none⟩) (R_far (p:=⟨gb255,1,none⟩) (R_far (p:=⟨gb255,0,none⟩) (R_types HO246.out BK255.out (by decide)) (fun _ hk=>hk.2) (.int .i64 t247)) (fun _ hk=>hk.2) (.slice Ao129 t248.length co129)) (fun _ hk=>hk.2) (.slice Ao130 t251.length co130)) (fun _ h_=>h_.1))) hb);have n8_:=Aside0.mk (R_below (by (with_reducible repeat (first|apply R_alloc|apply R_drewN|apply R_drew));exact (R_mono (R_far (p:=⟨gb255,2,none⟩) (R_far (p:=⟨gb255,1,none⟩) (R_far (p:=⟨gb255,0,none⟩) (R_types HO250.out BK255.out (by decide)) (fun _ hk=>hk.2) (.int .i64 t247)) (fun _ hk=>hk.2) (.slice Ao129 t248.length co129)) (fun _ hk=>hk.2) (.slice Ao130 t251.length co130)) (fun _ h_=>h_.1))) hb);have n9_:=Aside0.mk (R_below (by (with_reducible repeat (first|apply R_alloc|apply R_drewN|apply R_drew));exact (R_mono (R_far (p:=⟨gb255,2,none⟩) (R_far (p:=⟨gb255,1,none⟩) (R_far (p:=⟨gb255,0,none⟩) (R_types HO253.out BK255.out (by decide)) (fun _ hk=>hk.2) (.int .i64 t247)) (fun _ hk=>hk.2) (.slice Ao129 t248.length co129)) (fun _ hk=>hk.2) (.slice Ao130 t251.length co130)) (fun _ h_=>h_.1))) hb);have n10_:=Aside0.mk (blk_below (g:=gb188) (o:=.cells #[.int .i64 a0_0,.slice A0_1 l0_1.length c0_1,.slice A0_2 l0_2.length c0_2] 24 (0,0)) (by (with_reducible repeat (first|apply blk_drewN|apply blk_drew|apply blk_alloc));refine blk_far ?_ NB188_255.out _;(with_reducible repeat (first|apply blk_drewN|apply blk_drew|apply blk_alloc));refine blk_far ?_ NB188_255.out _;(with_reducible repeat (first|apply blk_drewN|apply blk_drew|apply blk_alloc));refine blk_far ?_ NB188_255.out _;(with_reducible repeat (first|apply blk_drewN|apply blk_drew|apply blk_alloc));exact BK188.out) hb);have n11_:=Aside0.mk (blk_below (g:=gb205) (o:=.cells #[.int .i64 t197,.slice Ao23 t198.length co23,.slice Ao24 t201.length co24] 27 (0,0)) (by (with_reducible repeat (first|apply blk_drewN|apply blk_drew|apply blk_alloc));refine blk_far ?_ NB205_255.out _;(with_reducible repeat (first|apply blk_drewN|apply blk_drew|apply blk_alloc));refine blk_far ?_ NB205_255.out _;(with_reducible repeat (first|apply blk_drewN|apply blk_drew|apply blk_alloc));refine blk_far ?_ NB205_255.out _;(with_reducible repeat (first|apply blk_drewN|apply blk_drew|apply blk_alloc));exact BK205.out) hb);have n12_:=Aside0.mk (blk_below (g:=gb213) (o:=.cells #[.int .i64 t206,.slice Ao31 t233.length co31,.slice Ao32 t234.length co32] 27 (0,0)) (by (with_reducible repeat (first|apply blk_drewN|apply blk_drew|apply blk_alloc));refine blk_far ?_ NB213_255.out _;(with_reducible repeat (first|apply blk_drewN|apply blk_drew|apply blk_alloc));refine blk_far ?_ NB213_255.out _;(with_reducible repeat (first|apply blk_drewN|apply blk_drew|apply blk_alloc));refine blk_far ?_ NB213_255.out _;(with_reducible repeat (first|apply blk_drewN|apply blk_drew|apply blk_alloc));exact BK213.out) hb);have n13_:=Aside0.mk (blk_below (g:=gb222) (o:=.cells #[.int .i64 t214,.slice Ao39 t215.length co39,.slice Ao40 t218.length co40] 27 (0,0)) (by (with_reducible repeat (first|apply blk_drewN|apply blk_drew|apply blk_alloc));refine blk_far ?_ NB222_255.out _;(with_reducible repeat (first|apply blk_drewN|apply blk_drew|apply blk_alloc));refine blk_far ?_ NB222_255.out _;(with_reducible repeat (first|apply blk_drewN|apply blk_drew|apply blk_alloc));refine blk_far ?_ NB222_255.out _;(with_reducible repeat (first|apply blk_drewN|apply blk_drew|apply blk_alloc));exact BK222.out) hb);have n14_:=Aside0.mk (blk_below (g:=gb255) (o:=.cells #[.int .i64 t247,.slice Ao129 t248.length co129,.slice Ao130 t251.length co130] 27 (0,0)) (by (with_reducible repeat (first|apply blk_drewN|apply blk_drew|apply blk_alloc));refine blk_put (cs:=#[.int .i64 t247,.slice Ao129 t248.length co129,.slice none 0 0]) ?_ 2 _ rfl;(with_reducible repeat (first|apply blk_drewN|apply blk_drew|apply blk_alloc));refine blk_put (cs:=#[.int .i64 t247,.slice none 0 0,.slice none 0 0]) ?_ 1 _ rfl;(with_reducible repeat (first|apply blk_drewN|apply blk_drew|apply blk_alloc));refine blk_put (cs:=#[.int .i64 0,.slice none 0 0,.slice none 0 0]) ?_ 0 _ rfl;(with_reducible repeat (first|apply blk_drewN|apply blk_drew|apply blk_alloc));exact BK255.out) hb);have n15_:=Aside0.mk (below_step (by repeat (first|(with_reducible first|exact HB.out|apply below_alloc|apply pw_below_drewN|apply below_drew1|refine below_set ?_ GE188.out|refine below_set ?_ GE205.out|refine below_set ?_ GE213.out|refine below_set ?_ GE222.out|refine below_set ?_ GE255.out)|exact HB.out)) hb);clear HO_206001;clear HO_206002;clear HO_214001;clear HO_214002;clear HO_223001;clear HO_223002;clear HO243;clear HO246;clear HO250;clear HO253;clear BK188;clear BK205;clear BK213;clear BK222;clear BK255;clear HB;have HO_206001:=n0_;have HO_206002:=n1_;have HO_214001:=n2_;have HO_214002:=n3_;have HO_223001:=n4_;have HO_223002:=n5_;have HO243:=n6_;have HO246:=n7_;have HO250:=n8_;have HO253:=n9_;have BK188:=n10_;have BK205:=n11_;have BK213:=n12_;have BK222:=n13_;have BK255:=n14_;have HB:=n15_;clear n0_ n1_ n2_ n3_ n4_ n5_ n6_ n7_ n8_ n9_ n10_ n11_ n12_ n13_ n14_ n15_;(try clear hb);(try clear hb2);(try clear hk);(try clear hi)))
    go_meet
    case rel=>exact ⟨_,(true),(by first|rfl|(simp;done)|(simp [*];done)),H',⟨by have:=HJ10.out;have:=HJ63.out;first|omega|exact Nat.le_refl _⟩,⟨by (try simp only [hl214001_63]);(try simp only [hl214002_63]);(with_reducible repeat (first|apply R_alloc|apply R_drewN|apply R_drew));exact R_mono HO_206001.out (fun _ hk=>⟨hk.1.1.1.1.1,⟨hk.1.1.1.1.2.1,⟨hk.1.1.1.1.2.2.1,⟨hk.1.1.1.1.2.2.2.1,⟨hk.1.1.1.1.2.2.2.2,⟨hk.1.2,hk.2⟩⟩⟩⟩⟩⟩)⟩,⟨by (try simp only [hl214001_63]);(try simp only [hl214002_63]);(with_reducible repeat (first|apply R_alloc|apply R_drewN|apply R_drew));exact R_mono HO_206002.out (fun _ hk=>⟨hk.1.1.1.1.1,⟨hk.1.1.1.1.2.1,⟨hk.1.1.1.1.2.2.1,⟨hk.1.1.1.1.2.2.2.1,⟨hk.1.1.1.1.2.2.2.2,⟨hk.1.2,hk.2⟩⟩⟩⟩⟩⟩)⟩,⟨by (try simp only [hl214001_63]);(try simp only [hl214002_63]);(with_reducible repeat (first|apply R_alloc|apply R_drewN|apply R_drew));exact R_mono HO_214001.out (fun _ hk=>⟨hk.1.1.1.1.1,⟨hk.1.1.1.1.2.1,⟨hk.1.1.1.1.2.2.1,⟨hk.1.1.1.1.2.2.2.1,⟨hk.1.1.1.1.2.2.2.2,⟨hk.1.2,hk.2⟩⟩⟩⟩⟩⟩)⟩,⟨by (try simp only [hl214001_63]);(try simp only [hl214002_63]);(with_reducible repeat (first|apply R_alloc|apply R_drewN|apply R_drew));exact R_mono HO_214002.out (fun _ hk=>⟨hk.1.1.1.1.1,⟨hk.1.1.1.1.2.1,⟨hk.1.1.1.1.2.2.1,⟨hk.1.1.1.1.2.2.2.1,⟨hk.1.1.1.1.2.2.2.2,⟨hk.1.2,hk.2⟩⟩⟩⟩⟩⟩)⟩,⟨by (try simp only [hl214001_63]);(try simp only [hl214002_63]);(with_reducible repeat (first|apply R_alloc|apply R_drewN|apply R_drew));exact R_mono HO_223001.out (fun _ hk=>⟨hk.1.1.1.1.1,⟨hk.1.1.1.1.2.1,⟨hk.1.1.1.1.2.2.1,⟨hk.1.1.1.1.2.2.2.1,⟨hk.1.1.1.1.2.2.2.2,⟨hk.1.2,hk.2⟩⟩⟩⟩⟩⟩)⟩,⟨by (try simp only [hl214001_63]);(try simp only [hl214002_63]);(with_reducible repeat (first|apply R_alloc|apply R_drewN|apply R_drew));exact R_mono HO_223002.out (fun _ hk=>⟨hk.1.1.1.1.1,⟨hk.1.1.1.1.2.1,⟨hk.1.1.1.1.2.2.1,⟨hk.1.1.1.1.2.2.2.1,⟨hk.1.1.1.1.2.2.2.2,⟨hk.1.2,hk.2⟩⟩⟩⟩⟩⟩)⟩,⟨by (try simp only [hl214001_63]);(try simp only [hl214002_63]);(with_reducible repeat (first|apply R_alloc|apply R_drewN|apply R_drew));exact R_mono HO250.out (fun _ hk=>⟨hk.1.1.1.1.1.1.1.2,⟨hk.1.1.1.1.1.1.2,⟨hk.1.1.1.1.1.2,⟨hk.1.1.1.1.2,⟨hk.1.1.1.2,⟨hk.1.1.2,hk.1.1.1.1.1.1.1.1⟩⟩⟩⟩⟩⟩)⟩,⟨by (try simp only [hl214001_63]);(try simp only [hl214002_63]);(with_reducible repeat (first|apply R_alloc|apply R_drewN|apply R_drew));exact R_mono HO253.out (fun _ hk=>⟨hk.1.1.1.1.1.1.1.2,⟨hk.1.1.1.1.1.1.2,⟨hk.1.1.1.1.1.2,⟨hk.1.1.1.1.2,⟨hk.1.1.1.2,⟨hk.1.1.2,hk.1.1.1.1.1.1.1.1⟩⟩⟩⟩⟩⟩)⟩,⟨by (try simp only [hl214001_63]);(try simp only [hl214002_63]);(with_reducible repeat (first|apply blk_drewN|apply blk_drew|apply blk_alloc));exact BK188.out⟩,⟨by (try simp only [hl214001_63]);(try simp only [hl214002_63]);(with_reducible repeat (first|apply blk_drewN|apply blk_drew|apply blk_alloc));exact BK205.out⟩,⟨by (try simp only [hl214001_63]);(try simp only [hl214002_63]);(with_reducible repeat (first|apply blk_drewN|apply blk_drew|apply blk_alloc));exact BK213.out⟩,⟨by (try simp only [hl214001_63]);(try simp only [hl214002_63]);(with_reducible repeat (first|apply blk_drewN|apply blk_drew|apply blk_alloc));exact BK222.out⟩,⟨by (try simp only [hl214001_63]);(try simp only [hl214002_63]);(with_reducible repeat (first|apply blk_drewN|apply blk_drew|apply blk_alloc));exact BK255.out⟩,⟨by repeat (first|(with_reducible first|exact HB.out|apply below_alloc|apply pw_below_drewN|apply below_drew1|refine below_set ?_ GE188.out|refine below_set ?_ GE205.out|refine below_set ?_ GE213.out|refine below_set ?_ GE222.out|refine below_set ?_ GE255.out)|exact HB.out)⟩⟩
   clear HC108
   try clear c1
   try clear c2
   try clear p2
   try clear c3
   try clear c3b0
   try clear c4
   try clear c5
   try clear c6
   try clear c7
   try clear c8
   try clear c9
   try clear c10
   try clear c11
   try clear c12
   try clear c13
   try clear c14
   try clear c15
   try clear c21
   try clear c23
   try clear c26
   try clear c27
   try clear c28
   try clear c29
   try clear c35
   try clear c36
   try clear c37
   try clear c42
   try clear c43
   try clear c44
   try clear c45
   try clear c47
   try clear c48
   try clear c51
   try clear c52
   try clear c53
   try clear c55
   try clear c56
   try clear c59
   try clear c62
   try clear c70
   try clear c71
   try clear c72
   try clear c75
   try clear c75b0
   try clear c77
   try clear c78
   try clear c79
   try clear c80
   try clear c82
   try clear c83
   try clear c86
   try clear c87
   try clear c88
   try clear c90
   try clear c91
   try clear c94
   try clear c97
   try clear c97b0
   try clear c98
   try clear c99
   try clear c100
   try clear c105
   try clear c105b0
   try clear c105b1
   try clear c109
   try clear c110
   try clear c111
   try clear c116
   try clear c117
   try clear c124
   try clear c125
   try clear c126
   try clear c127
   try clear c132
   try clear c133
   try clear c134
   try clear c135
   try clear c136
   try clear c138
   try clear c139
   try clear c140
   try clear c143
   try clear c144
   try clear c145
   try clear c146
   try clear c148
   try clear c149
   try clear c150
   try clear hcz101_0
   try clear hcz101_1
   try clear hcz101_2
   try clear hcz103_0
   try clear hcz103_1
   try clear hcz103_2
   try clear hcz112_0
   try clear hcz112_1
   try clear hcz112_2
   try clear hcz114_0
   try clear hcz114_1
   try clear hcz114_2
   try clear hcz118_0
   try clear hcz118_1
   try clear hcz118_2
   try clear hcz128_0
   try clear hcz128_1
   try clear hcz128_2
   try clear hcz137_0
   try clear hcz137_1
   try clear hcz137_2
   try clear hcz13_0
   try clear hcz13_1
   try clear hcz13_2
   try clear hcz141_0
   try clear hcz141_1
   try clear hcz141_2
   try clear hcz147_0
   try clear hcz147_1
   try clear hcz147_2
   try clear hcz151_0
   try clear hcz151_1
   try clear hcz151_2
   try clear hcz15_0
   try clear hcz15_1
   try clear hcz15_2
   try clear hcz22_0
   try clear hcz22_1
   try clear hcz22_2
   try clear hcz25_0
   try clear hcz25_1
   try clear hcz25_2
   try clear hcz30_0
   try clear hcz30_1
   try clear hcz30_2
   try clear hcz38_0
   try clear hcz38_1
   try clear hcz38_2
   try clear hcz46_0
   try clear hcz46_1
   try clear hcz46_2
   try clear hcz49_0
   try clear hcz49_1
   try clear hcz49_2
   try clear hcz54_0
   try clear hcz54_1
   try clear hcz54_2
   try clear hcz57_0
   try clear hcz57_1
   try clear hcz57_2
   try clear hcz5_0
   try clear hcz5_1
   try clear hcz5_2
   try clear hcz73_0
   try clear hcz73_1
   try clear hcz73_2
   try clear hcz81_0
   try clear hcz81_1
   try clear hcz81_2
   try clear hcz84_0
   try clear hcz84_1
   try clear hcz84_2
   try clear hcz89_0
   try clear hcz89_1
   try clear hcz89_2
   try clear hcz92_0
   try clear hcz92_1
   try clear hcz92_2
   try clear hfz101_0
   try clear hfz101_1
   try clear hfz101_2
   try clear hfz103_0
   try clear hfz103_1
   try clear hfz103_2
   try clear hfz112_0
   try clear hfz112_1
   try clear hfz112_2
   try clear hfz114_0
   try clear hfz114_1
   try clear hfz114_2
   try clear hfz118_0
   try clear hfz118_1
   try clear hfz118_2
   try clear hfz128_0
   try clear hfz128_1
   try clear hfz128_2
   try clear hfz137_0
   try clear hfz137_1
   try clear hfz137_2
   try clear hfz13_0
   try clear hfz13_1
   try clear hfz13_2
   try clear hfz141_0
   try clear hfz141_1
   try clear hfz141_2
   try clear hfz147_0
   try clear hfz147_1
   try clear hfz147_2
   try clear hfz151_0
   try clear hfz151_1
   try clear hfz151_2
   try clear hfz15_0
   try clear hfz15_1
   try clear hfz15_2
   try clear hfz22_0
   try clear hfz22_1
   try clear hfz22_2
   try clear hfz25_0
   try clear hfz25_1
   try clear hfz25_2
   try clear hfz30_0
   try clear hfz30_1
   try clear hfz30_2
   try clear hfz38_0
   try clear hfz38_1
   try clear hfz38_2
   try clear hfz46_0
   try clear hfz46_1
   try clear hfz46_2
   try clear hfz49_0
   try clear hfz49_1
   try clear hfz49_2
   try clear hfz54_0
   try clear hfz54_1
   try clear hfz54_2
   try clear hfz57_0
   try clear hfz57_1
   try clear hfz57_2
   try clear hfz5_0
   try clear hfz5_1
   try clear hfz5_2
   try clear hfz73_0
   try clear hfz73_1
   try clear hfz73_2
   try clear hfz81_0
   try clear hfz81_1
   try clear hfz81_2
   try clear hfz84_0
   try clear hfz84_1
   try clear hfz84_2
   try clear hfz89_0
   try clear hfz89_1
   try clear hfz89_2
   try clear hfz92_0
   try clear hfz92_1
   try clear hfz92_2
   try clear p2
   obtain ⟨kq,x87_107,rfl,HA,HJ107,HO_206001,HO_206002,HO_214001,HO_214002,HO_223001,HO_223002,HO_256001,HO_256002,BK188,BK205,BK213,BK222,BK255,HB⟩:=hcut
   have hl223001_107:=(R_reads' HO_223001.out).1
   rw [hl223001_107] at HO_223001
   (try simp only [hl223001_107])
   (try simp only [hl223001_107] at BK188)
   (try simp only [hl223001_107] at BK205)
   (try simp only [hl223001_107] at BK213)
   (try simp only [hl223001_107] at BK222)
   (try simp only [hl223001_107] at BK255)
   (try simp only [hl223001_107] at HO_206001)
   (try simp only [hl223001_107] at HO_206002)
   (try simp only [hl223001_107] at HO_214001)
   (try simp only [hl223001_107] at HO_214002)
   (try simp only [hl223001_107] at HO_223002)
   (try simp only [hl223001_107] at HO_256001)
   (try simp only [hl223001_107] at HO_256002)
   have hl223002_107:=(R_reads' HO_223002.out).1
   rw [hl223002_107] at HO_223002
   (try simp only [hl223002_107])
   (try simp only [hl223002_107] at BK188)
   (try simp only [hl223002_107] at BK205)
   (try simp only [hl223002_107] at BK213)
   (try simp only [hl223002_107] at BK222)
   (try simp only [hl223002_107] at BK255)
   (try simp only [hl223002_107] at HO_206001)
   (try simp only [hl223002_107] at HO_206002)
   (try simp only [hl223002_107] at HO_214001)
   (try simp only [hl223002_107] at HO_214002)
   (try simp only [hl223002_107] at HO_223001)
   (try simp only [hl223002_107] at HO_256001)
   (try simp only [hl223002_107] at HO_256002)
   cases kq with
   | zero=>exact absurd HA.out (by simp [laws_FnExactMirrorWire.j2])
   | succ kj107 =>
    have H:=HA.out
    clear HA
    simp only [laws_FnExactMirrorWire.j2] at H
    by_cases c153 : x87_107 = true
    ·subst c153
     have H1 : (some false) = some r:=by rw [if_pos rfl] at H;exact H
     clear H
     have H:=H1
     clear H1
     obtain rfl:=Option.some.inj H
     go_wp2
     go_ret
     exact ⟨by first|rfl|(simp [errW_none,errW_some] <;> rfl)|(simp [*,errW_none,errW_some] <;> rfl),by repeat (first|(with_reducible first|exact HB.out|apply below_alloc|apply pw_below_drewN|apply below_drew1|refine below_set ?_ GE188.out|refine below_set ?_ GE205.out|refine below_set ?_ GE213.out|refine below_set ?_ GE222.out|refine below_set ?_ GE255.out)|exact HB.out)⟩
    replace c153:=Bool.eq_false_iff.mpr c153
    subst c153
    have H1 : ((laws_heldWire.f kj107 t214 t237 t238 1).bind fun t257=>(if t257 < 0 then (some false) else (if t257 = t236 then (some true) else (some false)))) = some r:=by rw [if_neg (show ¬ (false = true) by decide)] at H;exact H
    clear H
    have H:=H1
    clear H1
    replace H:=Option.bind_eq_some_iff.mp H
    obtain ⟨t257,A1540,H⟩:=H
    replace H : (if t257 < 0 then (some false) else (if t257 = t236 then (some true) else (some false))) = some r:=H
    have A154:=Aside0.mk A1540
    clear A1540
    by_cases c155 : t257 < 0
    ·rw [if_pos c155] at H
     have c155b0 : decide (t257 < 0) = true:=decide_eq_true c155
     clear c155
     obtain rfl:=Option.some.inj H
     have hnb156:=NB222_188.out
     have hnc156:=NB188_222.out
     have hnb157:=NB222_205.out
     have hnc157:=NB205_222.out
     have hnb158:=NB222_213.out
     have hnc158:=NB213_222.out
     have hnb159:=NB222_255.out
     have hnc159:=NB255_222.out
     have hcz160_0 : wc.cell? ⟨gb222,0,none⟩ = some (.int .i64 t214):=(blk_cell BK222.out 0).trans rfl
     have hcz160_1 : wc.cell? ⟨gb222,1,none⟩ = some (.slice Ao39 t237.length co39):=(blk_cell BK222.out 1).trans rfl
     have hcz160_2 : wc.cell? ⟨gb222,2,none⟩ = some (.slice Ao40 t238.length co40):=(blk_cell BK222.out 2).trans rfl
     have hfz160_0:=blk_frozen BK222.out 0
     have hfz160_1:=blk_frozen BK222.out 1
     have hfz160_2:=blk_frozen BK222.out 2
     go_wp2_with (first|((with_reducible refine gate_callee (f:=28) rfl ?_);refine goesL_ (some 90) rfl rfl Try.func28 (by kernel_rfl) rfl #[.agg #[.int .i64 t214,.slice Ao39 t237.length co39,.slice Ao40 t238.length co40],.int .i64 1] rfl (by (try simp only [List.map_toArray,List.map_cons,List.map_nil]);first|done|rfl|(simp only [List.length_drop,List.length_take];rfl)) ?_;(with_reducible refine (laws_heldWire.calls kj107 t214 _ _ t237 _ _ t238 1 t257 _ ?side1 ?side2 ?side3 ?side4 A154.out).mono ?_);(case side1=>repeat (first|exact (R_reads' HO_223001.out).2.2|(with_reducible refine C_alloc ?_ _)|(with_reducible refine C_drewN ?_ _)|(with_reducible refine C_drew ?_)));(case side2=>exact (R_reads' HO_223001.out).2.1);(case side3=>repeat (first|exact (R_reads' HO_223002.out).2.2|(with_reducible refine C_alloc ?_ _)|(with_reducible refine C_drewN ?_ _)|(with_reducible refine C_drew ?_)));(case side4=>exact (R_reads' HO_223002.out).2.1);rintro e w161 ⟨rfl,hb⟩;refine ⟨_,rfl,?_⟩;have n0_:=Aside0.mk (R_below (by (with_reducible repeat (first|apply R_alloc|apply R_drewN|apply R_drew));exact HO_206001.out) hb);have n1_:=Aside0.mk (R_below (by (with_reducible repeat (first|apply R_alloc|apply R_drewN|apply R_drew));exact HO_206002.out) hb);have n2_:=Aside0.mk (R_below (by (with_reducible repeat (first|apply R_alloc|apply R_drewN|apply R_drew));exact HO_214001.out) hb);have n3_:=Aside0.mk (R_below (by (with_reducible repeat (first|apply R_alloc|apply R_drewN|apply R_drew));exact HO_214002.out) hb);have n4_:=Aside0.mk (R_below (by (with_reducible repeat (first|apply R_alloc|apply R_drewN|apply R_drew));exact HO_223001.out) hb);have n5_:=Aside0.mk (R_below (by (with_reducible repeat (first|apply R_alloc|apply R_drewN|apply R_drew));exact HO_223002.out) hb);have n6_:=Aside0.mk (R_below (by (with_reducible repeat (first|apply R_alloc|apply R_drewN|apply R_drew));exact HO_256001.out) hb);have n7_:=Aside0.mk (R_below (by (with_reducible repeat (first|apply R_alloc|apply R_drewN|apply R_drew));exact HO_256002.out) hb);have n8_:=Aside0.mk (blk_below (g:=gb188) (o:=.cells #[.int .i64 a0_0,.slice A0_1 l0_1.length c0_1,.slice A0_2 l0_2.length c0_2] 24 (0,0)) (by (with_reducible repeat (first|apply blk_drewN|apply blk_drew|apply blk_alloc));exact BK188.out) hb);have n9_:=Aside0.mk (blk_below (g:=gb205) (o:=.cells #[.int .i64 t197,.slice Ao23 t198.length co23,.slice Ao24 t201.length co24] 27 (0,0)) (by (with_reducible repeat (first|apply blk_drewN|apply blk_drew|apply blk_alloc));exact BK205.out) hb);have n10_:=Aside0.mk (blk_below (g:=gb213) (o:=.cells #[.int .i64 t206,.slice Ao31 t233.length co31,.slice Ao32 t234.length co32] 27 (0,0)) (by (with_reducible repeat (first|apply blk_drewN|apply blk_drew|apply blk_alloc));exact BK213.out) hb);have n11_:=Aside0.mk (blk_below (g:=gb222) (o:=.cells #[.int .i64 t214,.slice Ao39 t237.length co39,.slice Ao40 t238.length co40] 27 (0,0)) (by (with_reducible repeat (first|apply blk_drewN|apply blk_drew|apply blk_alloc));exact BK222.out) hb);have n12_:=Aside0.mk (blk_below (g:=gb255) (o:=.cells #[.int .i64 t247,.slice Ao129 t248.length co129,.slice Ao130 t251.length co130] 27 (0,0)) (by (with_reducible repeat (first|apply blk_drewN|apply blk_drew|apply blk_alloc));exact BK255.out) hb);have n13_:=Aside0.mk (below_step (by repeat (first|(with_reducible first|exact HB.out|apply below_alloc|apply pw_below_drewN|apply below_drew1|refine below_set ?_ GE188.out|refine below_set ?_ GE205.out|refine below_set ?_ GE213.out|refine below_set ?_ GE222.out|refine below_set ?_ GE255.out)|exact HB.out)) hb);clear HO_206001;clear HO_206002;clear HO_214001;clear HO_214002;clear HO_223001;clear HO_223002;clear HO_256001;clear HO_256002;clear BK188;clear BK205;clear BK213;clear BK222;clear BK255;clear HB;have HO_206001:=n0_;have HO_206002:=n1_;have HO_214001:=n2_;have HO_214002:=n3_;have HO_223001:=n4_;have HO_223002:=n5_;have HO_256001:=n6_;have HO_256002:=n7_;have BK188:=n8_;have BK205:=n9_;have BK213:=n10_;have BK222:=n11_;have BK255:=n12_;have HB:=n13_;clear n0_ n1_ n2_ n3_ n4_ n5_ n6_ n7_ n8_ n9_ n10_ n11_ n12_ n13_;(try clear hb);(try clear hb2);(try clear hk);(try clear hi)))
     go_ret
     exact ⟨by first|rfl|(simp [errW_none,errW_some] <;> rfl)|(simp [*,errW_none,errW_some] <;> rfl),by repeat (first|(with_reducible first|exact HB.out|apply below_alloc|apply pw_below_drewN|apply below_drew1|refine below_set ?_ GE188.out|refine below_set ?_ GE205.out|refine below_set ?_ GE213.out|refine below_set ?_ GE222.out|refine below_set ?_ GE255.out)|exact HB.out)⟩
    rw [if_neg c155] at H
    have c155b0 : decide (t257 < 0) = false:=decide_eq_false c155
    clear c155
    by_cases c162 : t257 = t236
    rotate_left
    ·rw [if_neg c162] at H
     have c162b0 : (t257 == t236) = false:=beq_eq_false_iff_ne.mpr c162
     have c162b1 : (t257 != t236) = true:=bne_iff_ne.mpr c162
     obtain rfl:=Option.some.inj H
     have hnb169:=NB222_188.out
     have hnc169:=NB188_222.out
     have hnb170:=NB222_205.out
     have hnc170:=NB205_222.out
     have hnb171:=NB222_213.out
     have hnc171:=NB213_222.out
     have hnb172:=NB222_255.out
     have hnc172:=NB255_222.out
     have hcz173_0 : wc.cell? ⟨gb222,0,none⟩ = some (.int .i64 t214):=(blk_cell BK222.out 0).trans rfl
     have hcz173_1 : wc.cell? ⟨gb222,1,none⟩ = some (.slice Ao39 t237.length co39):=(blk_cell BK222.out 1).trans rfl
     have hcz173_2 : wc.cell? ⟨gb222,2,none⟩ = some (.slice Ao40 t238.length co40):=(blk_cell BK222.out 2).trans rfl
     have hfz173_0:=blk_frozen BK222.out 0
     have hfz173_1:=blk_frozen BK222.out 1
     have hfz173_2:=blk_frozen BK222.out 2
     go_wp2_with (first|((with_reducible refine gate_callee (f:=28) rfl ?_);refine goesL_ (some 90) rfl rfl Try.func28 (by kernel_rfl) rfl #[.agg #[.int .i64 t214,.slice Ao39 t237.length co39,.slice Ao40 t238.length co40],.int .i64 1] rfl (by (try simp only [List.map_toArray,List.map_cons,List.map_nil]);first|done|rfl|(simp only [List.length_drop,List.length_take];rfl)) ?_;(with_reducible refine (laws_heldWire.calls kj107 t214 _ _ t237 _ _ t238 1 t257 _ ?side1 ?side2 ?side3 ?side4 A154.out).mono ?_);(case side1=>repeat (first|exact (R_reads' HO_223001.out).2.2|(with_reducible refine C_alloc ?_ _)|(with_reducible refine C_drewN ?_ _)|(with_reducible refine C_drew ?_)));(case side2=>exact (R_reads' HO_223001.out).2.1);(case side3=>repeat (first|exact (R_reads' HO_223002.out).2.2|(with_reducible refine C_alloc ?_ _)|(with_reducible refine C_drewN ?_ _)|(with_reducible refine C_drew ?_)));(case side4=>exact (R_reads' HO_223002.out).2.1);rintro e w174 ⟨rfl,hb⟩;refine ⟨_,rfl,?_⟩;have n0_:=Aside0.mk (R_below (by (with_reducible repeat (first|apply R_alloc|apply R_drewN|apply R_drew));exact HO_206001.out) hb);have n1_:=Aside0.mk (R_below (by (with_reducible repeat (first|apply R_alloc|apply R_drewN|apply R_drew));exact HO_206002.out) hb);have n2_:=Aside0.mk (R_below (by (with_reducible repeat (first|apply R_alloc|apply R_drewN|apply R_drew));exact HO_214001.out) hb);have n3_:=Aside0.mk (R_below (by (with_reducible repeat (first|apply R_alloc|apply R_drewN|apply R_drew));exact HO_214002.out) hb);have n4_:=Aside0.mk (R_below (by (with_reducible repeat (first|apply R_alloc|apply R_drewN|apply R_drew));exact HO_223001.out) hb);have n5_:=Aside0.mk (R_below (by (with_reducible repeat (first|apply R_alloc|apply R_drewN|apply R_drew));exact HO_223002.out) hb);have n6_:=Aside0.mk (R_below (by (with_reducible repeat (first|apply R_alloc|apply R_drewN|apply R_drew));exact HO_256001.out) hb);have n7_:=Aside0.mk (R_below (by (with_reducible repeat (first|apply R_alloc|apply R_drewN|apply R_drew));exact HO_256002.out) hb);have n8_:=Aside0.mk (blk_below (g:=gb188) (o:=.cells #[.int .i64 a0_0,.slice A0_1 l0_1.length c0_1,.slice A0_2 l0_2.length c0_2] 24 (0,0)) (by (with_reducible repeat (first|apply blk_drewN|apply blk_drew|apply blk_alloc));exact BK188.out) hb);have n9_:=Aside0.mk (blk_below (g:=gb205) (o:=.cells #[.int .i64 t197,.slice Ao23 t198.length co23,.slice Ao24 t201.length co24] 27 (0,0)) (by (with_reducible repeat (first|apply blk_drewN|apply blk_drew|apply blk_alloc));exact BK205.out) hb);have n10_:=Aside0.mk (blk_below (g:=gb213) (o:=.cells #[.int .i64 t206,.slice Ao31 t233.length co31,.slice Ao32 t234.length co32] 27 (0,0)) (by (with_reducible repeat (first|apply blk_drewN|apply blk_drew|apply blk_alloc));exact BK213.out) hb);have n11_:=Aside0.mk (blk_below (g:=gb222) (o:=.cells #[.int .i64 t214,.slice Ao39 t237.length co39,.slice Ao40 t238.length co40] 27 (0,0)) (by (with_reducible repeat (first|apply blk_drewN|apply blk_drew|apply blk_alloc));exact BK222.out) hb);have n12_:=Aside0.mk (blk_below (g:=gb255) (o:=.cells #[.int .i64 t247,.slice Ao129 t248.length co129,.slice Ao130 t251.length co130] 27 (0,0)) (by (with_reducible repeat (first|apply blk_drewN|apply blk_drew|apply blk_alloc));exact BK255.out) hb);have n13_:=Aside0.mk (below_step (by repeat (first|(with_reducible first|exact HB.out|apply below_alloc|apply pw_below_drewN|apply below_drew1|refine below_set ?_ GE188.out|refine below_set ?_ GE205.out|refine below_set ?_ GE213.out|refine below_set ?_ GE222.out|refine below_set ?_ GE255.out)|exact HB.out)) hb);clear HO_206001;clear HO_206002;clear HO_214001;clear HO_214002;clear HO_223001;clear HO_223002;clear HO_256001;clear HO_256002;clear BK188;clear BK205;clear BK213;clear BK222;clear BK255;clear HB;have HO_206001:=n0_;have HO_206002:=n1_;have HO_214001:=n2_;have HO_214002:=n3_;have HO_223001:=n4_;have HO_223002:=n5_;have HO_256001:=n6_;have HO_256002:=n7_;have BK188:=n8_;have BK205:=n9_;have BK213:=n10_;have BK222:=n11_;have BK255:=n12_;have HB:=n13_;clear n0_ n1_ n2_ n3_ n4_ n5_ n6_ n7_ n8_ n9_ n10_ n11_ n12_ n13_;(try clear hb);(try clear hb2);(try clear hk);(try clear hi)))
     go_ret
     exact ⟨by first|rfl|(simp [errW_none,errW_some] <;> rfl)|(simp [*,errW_none,errW_some] <;> rfl),by repeat (first|(with_reducible first|exact HB.out|apply below_alloc|apply pw_below_drewN|apply below_drew1|refine below_set ?_ GE188.out|refine below_set ?_ GE205.out|refine below_set ?_ GE213.out|refine below_set ?_ GE222.out|refine below_set ?_ GE255.out)|exact HB.out)⟩
    rw [if_pos c162] at H
    have c162b0 : (t257 == t236) = true:=beq_iff_eq.mpr c162
    have c162b1 : (t257 != t236) = false:=bne_eq_false_iff_eq.mpr c162
    clear c162
    obtain rfl:=Option.some.inj H
    have hnb163:=NB222_188.out
    have hnc163:=NB188_222.out
    have hnb164:=NB222_205.out
    have hnc164:=NB205_222.out
    have hnb165:=NB222_213.out
    have hnc165:=NB213_222.out
    have hnb166:=NB222_255.out
    have hnc166:=NB255_222.out
    have hcz167_0 : wc.cell? ⟨gb222,0,none⟩ = some (.int .i64 t214):=(blk_cell BK222.out 0).trans rfl
    have hcz167_1 : wc.cell? ⟨gb222,1,none⟩ = some (.slice Ao39 t237.length co39):=(blk_cell BK222.out 1).trans rfl
    have hcz167_2 : wc.cell? ⟨gb222,2,none⟩ = some (.slice Ao40 t238.length co40):=(blk_cell BK222.out 2).trans rfl
    have hfz167_0:=blk_frozen BK222.out 0
    have hfz167_1:=blk_frozen BK222.out 1
    have hfz167_2:=blk_frozen BK222.out 2
    go_wp2_with (first|((with_reducible refine gate_callee (f:=28) rfl ?_);refine goesL_ (some 90) rfl rfl Try.func28 (by kernel_rfl) rfl #[.agg #[.int .i64 t214,.slice Ao39 t237.length co39,.slice Ao40 t238.length co40],.int .i64 1] rfl (by (try simp only [List.map_toArray,List.map_cons,List.map_nil]);first|done|rfl|(simp only [List.length_drop,List.length_take];rfl)) ?_;(with_reducible refine (laws_heldWire.calls kj107 t214 _ _ t237 _ _ t238 1 t257 _ ?side1 ?side2 ?side3 ?side4 A154.out).mono ?_);(case side1=>repeat (first|exact (R_reads' HO_223001.out).2.2|(with_reducible refine C_alloc ?_ _)|(with_reducible refine C_drewN ?_ _)|(with_reducible refine C_drew ?_)));(case side2=>exact (R_reads' HO_223001.out).2.1);(case side3=>repeat (first|exact (R_reads' HO_223002.out).2.2|(with_reducible refine C_alloc ?_ _)|(with_reducible refine C_drewN ?_ _)|(with_reducible refine C_drew ?_)));(case side4=>exact (R_reads' HO_223002.out).2.1);rintro e w168 ⟨rfl,hb⟩;refine ⟨_,rfl,?_⟩;have n0_:=Aside0.mk (R_below (by (with_reducible repeat (first|apply R_alloc|apply R_drewN|apply R_drew));exact HO_206001.out) hb);have n1_:=Aside0.mk (R_below (by (with_reducible repeat (first|apply R_alloc|apply R_drewN|apply R_drew));exact HO_206002.out) hb);have n2_:=Aside0.mk (R_below (by (with_reducible repeat (first|apply R_alloc|apply R_drewN|apply R_drew));exact HO_214001.out) hb);have n3_:=Aside0.mk (R_below (by (with_reducible repeat (first|apply R_alloc|apply R_drewN|apply R_drew));exact HO_214002.out) hb);have n4_:=Aside0.mk (R_below (by (with_reducible repeat (first|apply R_alloc|apply R_drewN|apply R_drew));exact HO_223001.out) hb);have n5_:=Aside0.mk (R_below (by (with_reducible repeat (first|apply R_alloc|apply R_drewN|apply R_drew));exact HO_223002.out) hb);have n6_:=Aside0.mk (R_below (by (with_reducible repeat (first|apply R_alloc|apply R_drewN|apply R_drew));exact HO_256001.out) hb);have n7_:=Aside0.mk (R_below (by (with_reducible repeat (first|apply R_alloc|apply R_drewN|apply R_drew));exact HO_256002.out) hb);have n8_:=Aside0.mk (blk_below (g:=gb188) (o:=.cells #[.int .i64 a0_0,.slice A0_1 l0_1.length c0_1,.slice A0_2 l0_2.length c0_2] 24 (0,0)) (by (with_reducible repeat (first|apply blk_drewN|apply blk_drew|apply blk_alloc));exact BK188.out) hb);have n9_:=Aside0.mk (blk_below (g:=gb205) (o:=.cells #[.int .i64 t197,.slice Ao23 t198.length co23,.slice Ao24 t201.length co24] 27 (0,0)) (by (with_reducible repeat (first|apply blk_drewN|apply blk_drew|apply blk_alloc));exact BK205.out) hb);have n10_:=Aside0.mk (blk_below (g:=gb213) (o:=.cells #[.int .i64 t206,.slice Ao31 t233.length co31,.slice Ao32 t234.length co32] 27 (0,0)) (by (with_reducible repeat (first|apply blk_drewN|apply blk_drew|apply blk_alloc));exact BK213.out) hb);have n11_:=Aside0.mk (blk_below (g:=gb222) (o:=.cells #[.int .i64 t214,.slice Ao39 t237.length co39,.slice Ao40 t238.length co40] 27 (0,0)) (by (with_reducible repeat (first|apply blk_drewN|apply blk_drew|apply blk_alloc));exact BK222.out) hb);have n12_:=Aside0.mk (blk_below (g:=gb255) (o:=.cells #[.int .i64 t247,.slice Ao129 t248.length co129,.slice Ao130 t251.length co130] 27 (0,0)) (by (with_reducible repeat (first|apply blk_drewN|apply blk_drew|apply blk_alloc));exact BK255.out) hb);have n13_:=Aside0.mk (below_step (by repeat (first|(with_reducible first|exact HB.out|apply below_alloc|apply pw_below_drewN|apply below_drew1|refine below_set ?_ GE188.out|refine below_set ?_ GE205.out|refine below_set ?_ GE213.out|refine below_set ?_ GE222.out|refine below_set ?_ GE255.out)|exact HB.out)) hb);clear HO_206001;clear HO_206002;clear HO_214001;clear HO_214002;clear HO_223001;clear HO_223002;clear HO_256001;clear HO_256002;clear BK188;clear BK205;clear BK213;clear BK222;clear BK255;clear HB;have HO_206001:=n0_;have HO_206002:=n1_;have HO_214001:=n2_;have HO_214002:=n3_;have HO_223001:=n4_;have HO_223002:=n5_;have HO_256001:=n6_;have HO_256002:=n7_;have BK188:=n8_;have BK205:=n9_;have BK213:=n10_;have BK222:=n11_;have BK255:=n12_;have HB:=n13_;clear n0_ n1_ n2_ n3_ n4_ n5_ n6_ n7_ n8_ n9_ n10_ n11_ n12_ n13_;(try clear hb);(try clear hb2);(try clear hk);(try clear hi)))
    go_ret
    exact ⟨by first|rfl|(simp [errW_none,errW_some] <;> rfl)|(simp [*,errW_none,errW_some] <;> rfl),by repeat (first|(with_reducible first|exact HB.out|apply below_alloc|apply pw_below_drewN|apply below_drew1|refine below_set ?_ GE188.out|refine below_set ?_ GE205.out|refine below_set ?_ GE213.out|refine below_set ?_ GE222.out|refine below_set ?_ GE255.out)|exact HB.out)⟩

end

end Go.Proofs.Ytciihopkgblpkaa.QFnExactMirrorWire
