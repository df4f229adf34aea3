/- Functions that the law FnExactRelayPrice comes to, as Lean functions, with the proof that the Go code does what they say: written by a program of this session over the kit's print. No condition but those named. -/
import Derived.Test.YthagkpoinjpmfaaQFnExactRelayPricex0
import Derived.Test.YthagkpoinjpmfaaQFnExactRelayPricex1
import Derived.Test.YthagkpoinjpmfaaQFnExactRelayPricex4
import Derived.Test.YthagkpoinjpmfaaQFnExactRelayPricex7
namespace Go.Proofs.Ythagkpoinjpmfaa.QFnExactRelayPrice
open Go.RowKit Go.Proofs.YthagkpoinjpmfaaW.PrintWords Go.Proofs.YthagkpoinjpmfaaW.PrintLast Go.Proofs.YthagkpoinjpmfaaW.PrintMore
attribute [local go_sem] max2_int min2_int max_two min_two max_three min_three max_four min_four   -- for this text's walks alone
set_option linter.unusedVariables false
set_option linter.unusedSimpArgs false

/-! ### laws_FnExactRelayPrice: function 4 -/
section
open Kd
def laws_FnExactRelayPrice.j0 : Nat → List (S75) → List (S70) → List (S63) → List (S70) → Bool → Option (Bool)
 | 0,_,_,_,_,_=>none
 | k + 1,x1,x4,x14,x15,x61=>if x61 = true then (some false) else ((laws_toCarrierS.f k x1).bind fun t264=>((laws_eqCarrierS.f k x14 t264).bind fun t267=>(if t267 = true then ((laws_toIntA3S.f k x4).bind fun t268=>((laws_eqIntA3S.f k x15 t268).bind fun t271=>(if t271 = true then (some true) else (some false)))) else (some false))))
def laws_FnExactRelayPrice.f (k : Nat) (a0_0 : Int) (a0_1 : Bool) (l1 : List (S75)) (a2 : Int) (a3 : Int) (l4 : List (S70)) : Option (Bool):=(laws_szCarrierS.f l1 1048576).bind fun t242=>(if t242 < 0 then (some true) else ((laws_szIntA3S.f l4 t242).bind fun t243=>(if t243 < 0 then (some true) else ((laws_toRoad.f a0_0 a0_1).bind fun bt244=>((laws_toCarrierS.f k l1).bind fun t246=>((laws_toIntA3S.f k l4).bind fun t249=>((spec_RelayPrice.f k bt244.1 bt244.2 t246 a2 a3 t249).bind fun bt252=>((laws_toCarrierS.f k l1).bind fun t254=>((laws_toIntA3S.f k l4).bind fun t257=>((laws_toRoad.f a0_0 a0_1).bind fun bt260=>((impl_RelayPrice.f k bt260.1 bt260.2 t254 a2 a3 t257).bind fun bt262=>(if bt262.1 = bt252.1 then (laws_FnExactRelayPrice.j0 k l1 l4 t254 t257 (bt262.2 != bt252.2)) else (laws_FnExactRelayPrice.j0 k l1 l4 t254 t257 true)))))))))))))
theorem laws_FnExactRelayPrice.mono_l : ∀ k,(∀ y0 y1 y2 y3 y4,LeO (laws_FnExactRelayPrice.j0 k y0 y1 y2 y3 y4) (laws_FnExactRelayPrice.j0 (k + 1) y0 y1 y2 y3 y4))
 | 0=>fun _ _ _ _ _ r h=>by simp [laws_FnExactRelayPrice.j0] at h
 | k + 1=>by
  have ih0:=laws_FnExactRelayPrice.mono_l k
  ·intro y0 y1 y2 y3 y4
   unfold laws_FnExactRelayPrice.j0
   repeat' first
   | (with_reducible exact ih0 _ _ _ _ _)
   | (with_reducible exact impl_RelayPrice.mono _ _ _ _ _ _ _)
   | (with_reducible exact laws_eqCarrierS.mono _ _ _)
   | (with_reducible exact laws_eqIntA3S.mono _ _ _)
   | (with_reducible exact laws_toCarrierS.mono _ _)
   | (with_reducible exact laws_toIntA3S.mono _ _)
   | (with_reducible exact spec_RelayPrice.mono _ _ _ _ _ _ _)
   | (with_reducible exact LeO.refl _)
   | (with_reducible exact LeO.none _)
   | (with_reducible refine LeO.ite ?_ ?_)
   | (with_reducible refine LeO.bind ?_ (fun _=>?_))
   | exact ih0 _ _ _ _ _
   | exact impl_RelayPrice.mono _ _ _ _ _ _ _
   | exact laws_eqCarrierS.mono _ _ _
   | exact laws_eqIntA3S.mono _ _ _
   | exact laws_toCarrierS.mono _ _
   | exact laws_toIntA3S.mono _ _
   | exact spec_RelayPrice.mono _ _ _ _ _ _ _
   | exact LeO.none _
   | refine LeO.ite ?_ ?_
   | refine LeO.bind ?_ (fun _=>?_)
theorem laws_FnExactRelayPrice.mono : ∀ a0 a1 a2 a3 a4 a5 k,LeO (laws_FnExactRelayPrice.f k a0 a1 a2 a3 a4 a5) (laws_FnExactRelayPrice.f (k + 1) a0 a1 a2 a3 a4 a5):=by
 intro a0 a1 a2 a3 a4 a5 k
 have ih0:=laws_FnExactRelayPrice.mono_l k
 unfold laws_FnExactRelayPrice.f
 repeat' first
   | (with_reducible exact ih0 _ _ _ _ _)
   | (with_reducible exact impl_RelayPrice.mono _ _ _ _ _ _ _)
   | (with_reducible exact laws_eqCarrierS.mono _ _ _)
   | (with_reducible exact laws_eqIntA3S.mono _ _ _)
   | (with_reducible exact laws_toCarrierS.mono _ _)
   | (with_reducible exact laws_toIntA3S.mono _ _)
   | (with_reducible exact spec_RelayPrice.mono _ _ _ _ _ _ _)
   | (with_reducible exact LeO.refl _)
   | (with_reducible exact LeO.none _)
   | (with_reducible refine LeO.ite ?_ ?_)
   | (with_reducible refine LeO.bind ?_ (fun _=>?_))
   | exact ih0 _ _ _ _ _
   | exact impl_RelayPrice.mono _ _ _ _ _ _ _
   | exact laws_eqCarrierS.mono _ _ _
   | exact laws_eqIntA3S.mono _ _ _
   | exact laws_toCarrierS.mono _ _
   | exact laws_toIntA3S.mono _ _
   | exact spec_RelayPrice.mono _ _ _ _ _ _ _
   | exact LeO.none _
   | refine LeO.ite ?_ ?_
   | refine LeO.bind ?_ (fun _=>?_)
set_option maxHeartbeats 8000000 in
set_option maxRecDepth 100000 in
theorem laws_FnExactRelayPrice.calls (k : Nat) (a0_0 : Int) (a0_1 : Bool) (A1 : Option Addr) (c1 : Nat) (l1 : List (S75)) (a2 : Int) (a3 : Int) (A4 : Option Addr) (c4 : Nat) (l4 : List (S70)) (r : Bool) (w : World) (hr1 : Kd.C k75 w A1 l1.length l1) (hc1 : l1.length ≤ c1) (hr4 : Kd.C k70 w A4 l4.length l4) (hc4 : l4.length ≤ c4) (h : laws_FnExactRelayPrice.f k a0_0 a0_1 l1 a2 a3 l4 = some r) :
  Calls Try.prog 4 #[.agg #[.int .i64 a0_0,.bool a0_1],.slice A1 l1.length c1,.int .i64 a2,.int .i64 a3,.slice A4 l4.length c4] w fun e w'=>e = .returned (.bool r) ∧ Below w.heap.size w w':=by
 have hu23:=Try.underlying23
 have HR1:=Aside0.mk hr1
 have HC1:=Aside0.mk hc1
 clear hr1 hc1
 have HR4:=Aside0.mk hr4
 have HC4:=Aside0.mk hc4
 clear hr4 hc4
 have HB:=Aside0.mk (Below.refl w.heap.size w)
 have H : ((laws_szCarrierS.f l1 1048576).bind fun t242=>(if t242 < 0 then (some true) else ((laws_szIntA3S.f l4 t242).bind fun t243=>(if t243 < 0 then (some true) else ((laws_toRoad.f a0_0 a0_1).bind fun bt244=>((laws_toCarrierS.f k l1).bind fun t246=>((laws_toIntA3S.f k l4).bind fun t249=>((spec_RelayPrice.f k bt244.1 bt244.2 t246 a2 a3 t249).bind fun bt252=>((laws_toCarrierS.f k l1).bind fun t254=>((laws_toIntA3S.f k l4).bind fun t257=>((laws_toRoad.f a0_0 a0_1).bind fun bt260=>((impl_RelayPrice.f k bt260.1 bt260.2 t254 a2 a3 t257).bind fun bt262=>(if bt262.1 = bt252.1 then (laws_FnExactRelayPrice.j0 k l1 l4 t254 t257 (bt262.2 != bt252.2)) else (laws_FnExactRelayPrice.j0 k l1 l4 t254 t257 true)))))))))))))) = some r:=h
 clear h
 replace H:=Option.bind_eq_some_iff.mp H
 obtain ⟨t242,A60,H⟩:=H
 replace H : (if t242 < 0 then (some true) else ((laws_szIntA3S.f l4 t242).bind fun t243=>(if t243 < 0 then (some true) else ((laws_toRoad.f a0_0 a0_1).bind fun bt244=>((laws_toCarrierS.f k l1).bind fun t246=>((laws_toIntA3S.f k l4).bind fun t249=>((spec_RelayPrice.f k bt244.1 bt244.2 t246 a2 a3 t249).bind fun bt252=>((laws_toCarrierS.f k l1).bind fun t254=>((laws_toIntA3S.f k l4).bind fun t257=>((laws_toRoad.f a0_0 a0_1).bind fun bt260=>((impl_RelayPrice.f k bt260.1 bt260.2 t254 a2 a3 t257).bind fun bt262=>(if bt262.1 = bt252.1 then (laws_FnExactRelayPrice.j0 k l1 l4 t254 t257 (bt262.2 != bt252.2)) else (laws_FnExactRelayPrice.j0 k l1 l4 t254 t257 true))))))))))))) = some r:=H
 have A6:=Aside0.mk A60
 clear A60
 by_cases c7 : t242 < 0
 ·rw [if_pos c7] at H
  have c7b0 : decide (t242 < 0) = true:=decide_eq_true c7
  clear c7
  obtain rfl:=Option.some.inj H
  go_enter Try.func4,Try.ntmps4
  go_wp2_with (first|((with_reducible refine gate_dst (N:=5) rfl ?_);refine box_event ?hg (N:=5) ?hd (cs:=#[.int .i64 a0_0,.bool a0_1]) (t:=23) ?hr ?_;(case hd=>rfl);(case hg=>rfl);(case hr=>first|(go_simp;done)|(go_simp;rfl));intro gb241 hg w8 hbox hb;have n0_:=Aside0.mk (below_step (by repeat (first|(with_reducible first|exact HB.out|apply below_alloc|apply pw_below_drewN|apply below_drew1)|exact HB.out)) hb);have n1_:=Aside0.mk (hbox);have n2_:=Aside0.mk ((by rw [hg];exact (below_size (by repeat (first|(with_reducible first|exact HB.out|apply below_alloc|apply pw_below_drewN|apply below_drew1)|exact HB.out))) : w.heap.size ≤ gb241));have n3_:=Aside0.mk ((by rw [hg];exact (below_size (by repeat (first|(with_reducible first|exact HB.out|apply below_alloc|apply pw_below_drewN|apply below_drew1)|exact HB.out))) : w.heap.size ≤ gb241));clear HB;have HB:=n0_;have BK241:=n1_;have GW241:=n2_;have GE241:=n3_;clear n0_ n1_ n2_ n3_;clear hb hbox hg)|((with_reducible refine gate_callee (f:=10) rfl ?_);refine goesL_ (some 20) rfl rfl Try.func10 (by kernel_rfl) rfl #[.slice A1 l1.length c1,.int .i64 1048576] rfl (by (try simp only [List.map_toArray,List.map_cons,List.map_nil]);first|done|rfl|(simp only [List.length_drop,List.length_take];rfl)) ?_;(with_reducible refine (laws_szCarrierS.calls _ _ l1 1048576 t242 _ ?side1 ?side2 A6.out).mono ?_);(case side1=>repeat (first|exact (C_below HR1.out HB.out)|(with_reducible refine C_alloc ?_ _)|(with_reducible refine C_drewN ?_ _)|(with_reducible refine C_drew ?_)));(case side2=>exact HC1.out);rintro e w' ⟨rfl,⟨nd,rfl⟩⟩;refine ⟨_,rfl,?_⟩))
  go_ret
  exact ⟨by first|rfl|(simp [errW_none,errW_some] <;> rfl)|(simp [*,errW_none,errW_some] <;> rfl),by repeat (first|(with_reducible first|exact HB.out|apply below_alloc|apply pw_below_drewN|apply below_drew1|refine below_set ?_ GE241.out)|exact HB.out)⟩
 rw [if_neg c7] at H
 have c7b0 : decide (t242 < 0) = false:=decide_eq_false c7
 clear c7
 replace H:=Option.bind_eq_some_iff.mp H
 obtain ⟨t243,A90,H⟩:=H
 replace H : (if t243 < 0 then (some true) else ((laws_toRoad.f a0_0 a0_1).bind fun bt244=>((laws_toCarrierS.f k l1).bind fun t246=>((laws_toIntA3S.f k l4).bind fun t249=>((spec_RelayPrice.f k bt244.1 bt244.2 t246 a2 a3 t249).bind fun bt252=>((laws_toCarrierS.f k l1).bind fun t254=>((laws_toIntA3S.f k l4).bind fun t257=>((laws_toRoad.f a0_0 a0_1).bind fun bt260=>((impl_RelayPrice.f k bt260.1 bt260.2 t254 a2 a3 t257).bind fun bt262=>(if bt262.1 = bt252.1 then (laws_FnExactRelayPrice.j0 k l1 l4 t254 t257 (bt262.2 != bt252.2)) else (laws_FnExactRelayPrice.j0 k l1 l4 t254 t257 true))))))))))) = some r:=H
 have A9:=Aside0.mk A90
 clear A90
 by_cases c10 : t243 < 0
 ·rw [if_pos c10] at H
  have c10b0 : decide (t243 < 0) = true:=decide_eq_true c10
  clear c10
  obtain rfl:=Option.some.inj H
  go_enter Try.func4,Try.ntmps4
  go_wp2_with (first|((with_reducible refine gate_dst (N:=5) rfl ?_);refine box_event ?hg (N:=5) ?hd (cs:=#[.int .i64 a0_0,.bool a0_1]) (t:=23) ?hr ?_;(case hd=>rfl);(case hg=>rfl);(case hr=>first|(go_simp;done)|(go_simp;rfl));intro gb241 hg w11 hbox hb;have n0_:=Aside0.mk (below_step (by repeat (first|(with_reducible first|exact HB.out|apply below_alloc|apply pw_below_drewN|apply below_drew1)|exact HB.out)) hb);have n1_:=Aside0.mk (hbox);have n2_:=Aside0.mk ((by rw [hg];exact (below_size (by repeat (first|(with_reducible first|exact HB.out|apply below_alloc|apply pw_below_drewN|apply below_drew1)|exact HB.out))) : w.heap.size ≤ gb241));have n3_:=Aside0.mk ((by rw [hg];exact (below_size (by repeat (first|(with_reducible first|exact HB.out|apply below_alloc|apply pw_below_drewN|apply below_drew1)|exact HB.out))) : w.heap.size ≤ gb241));clear HB;have HB:=n0_;have BK241:=n1_;have GW241:=n2_;have GE241:=n3_;clear n0_ n1_ n2_ n3_;clear hb hbox hg)|((with_reducible refine gate_callee (f:=10) rfl ?_);refine goesL_ (some 20) rfl rfl Try.func10 (by kernel_rfl) rfl #[.slice A1 l1.length c1,.int .i64 1048576] rfl (by (try simp only [List.map_toArray,List.map_cons,List.map_nil]);first|done|rfl|(simp only [List.length_drop,List.length_take];rfl)) ?_;(with_reducible refine (laws_szCarrierS.calls _ _ l1 1048576 t242 _ ?side1 ?side2 A6.out).mono ?_);(case side1=>repeat (first|exact (C_below HR1.out HB.out)|(with_reducible refine C_alloc ?_ _)|(with_reducible refine C_drewN ?_ _)|(with_reducible refine C_drew ?_)));(case side2=>exact HC1.out);rintro e w' ⟨rfl,⟨nd,rfl⟩⟩;refine ⟨_,rfl,?_⟩)|((with_reducible refine gate_callee (f:=16) rfl ?_);refine goesL_ (some 25) rfl rfl Try.func16 (by kernel_rfl) rfl #[.slice A4 l4.length c4,.int .i64 t242] rfl (by (try simp only [List.map_toArray,List.map_cons,List.map_nil]);first|done|rfl|(simp only [List.length_drop,List.length_take];rfl)) ?_;(with_reducible refine (laws_szIntA3S.calls _ _ l4 t242 t243 _ ?side1 ?side2 A9.out).mono ?_);(case side1=>repeat (first|exact (C_below HR4.out (by repeat (first|(with_reducible first|exact HB.out|apply below_alloc|apply pw_below_drewN|apply below_drew1|refine below_set ?_ GE241.out)|exact HB.out)))|(with_reducible refine C_alloc ?_ _)|(with_reducible refine C_drewN ?_ _)|(with_reducible refine C_drew ?_)));(case side2=>exact HC4.out);rintro e w' ⟨rfl,⟨nd,rfl⟩⟩;refine ⟨_,rfl,?_⟩))
  go_ret
  exact ⟨by first|rfl|(simp [errW_none,errW_some] <;> rfl)|(simp [*,errW_none,errW_some] <;> rfl),by repeat (first|(with_reducible first|exact HB.out|apply below_alloc|apply pw_below_drewN|apply below_drew1|refine below_set ?_ GE241.out)|exact HB.out)⟩
 rw [if_neg c10] at H
 have c10b0 : decide (t243 < 0) = false:=decide_eq_false c10
 clear c10
 replace H:=Option.bind_eq_some_iff.mp H
 obtain ⟨⟨t244,t245⟩,A120,H⟩:=H
 replace H : ((laws_toCarrierS.f k l1).bind fun t246=>((laws_toIntA3S.f k l4).bind fun t249=>((spec_RelayPrice.f k t244 t245 t246 a2 a3 t249).bind fun bt252=>((laws_toCarrierS.f k l1).bind fun t254=>((laws_toIntA3S.f k l4).bind fun t257=>((laws_toRoad.f a0_0 a0_1).bind fun bt260=>((impl_RelayPrice.f k bt260.1 bt260.2 t254 a2 a3 t257).bind fun bt262=>(if bt262.1 = bt252.1 then (laws_FnExactRelayPrice.j0 k l1 l4 t254 t257 (bt262.2 != bt252.2)) else (laws_FnExactRelayPrice.j0 k l1 l4 t254 t257 true))))))))) = some r:=H
 have A12:=Aside0.mk A120
 clear A120
 replace H:=Option.bind_eq_some_iff.mp H
 obtain ⟨t246,A130,H⟩:=H
 replace H : ((laws_toIntA3S.f k l4).bind fun t249=>((spec_RelayPrice.f k t244 t245 t246 a2 a3 t249).bind fun bt252=>((laws_toCarrierS.f k l1).bind fun t254=>((laws_toIntA3S.f k l4).bind fun t257=>((laws_toRoad.f a0_0 a0_1).bind fun bt260=>((impl_RelayPrice.f k bt260.1 bt260.2 t254 a2 a3 t257).bind fun bt262=>(if bt262.1 = bt252.1 then (laws_FnExactRelayPrice.j0 k l1 l4 t254 t257 (bt262.2 != bt252.2)) else (laws_FnExactRelayPrice.j0 k l1 l4 t254 t257 true)))))))) = some r:=H
 have A13:=Aside0.mk A130
 clear A130
 replace H:=Option.bind_eq_some_iff.mp H
 obtain ⟨t249,A140,H⟩:=H
 replace H : ((spec_RelayPrice.f k t244 t245 t246 a2 a3 t249).bind fun bt252=>((laws_toCarrierS.f k l1).bind fun t254=>((laws_toIntA3S.f k l4).bind fun t257=>((laws_toRoad.f a0_0 a0_1).bind fun bt260=>((impl_RelayPrice.f k bt260.1 bt260.2 t254 a2 a3 t257).bind fun bt262=>(if bt262.1 = bt252.1 then (laws_FnExactRelayPrice.j0 k l1 l4 t254 t257 (bt262.2 != bt252.2)) else (laws_FnExactRelayPrice.j0 k l1 l4 t254 t257 true))))))) = some r:=H
 have A14:=Aside0.mk A140
 clear A140
 replace H:=Option.bind_eq_some_iff.mp H
 obtain ⟨⟨t252,t253⟩,A150,H⟩:=H
 replace H : ((laws_toCarrierS.f k l1).bind fun t254=>((laws_toIntA3S.f k l4).bind fun t257=>((laws_toRoad.f a0_0 a0_1).bind fun bt260=>((impl_RelayPrice.f k bt260.1 bt260.2 t254 a2 a3 t257).bind fun bt262=>(if bt262.1 = t252 then (laws_FnExactRelayPrice.j0 k l1 l4 t254 t257 (bt262.2 != t253)) else (laws_FnExactRelayPrice.j0 k l1 l4 t254 t257 true)))))) = some r:=H
 have A15:=Aside0.mk A150
 clear A150
 replace H:=Option.bind_eq_some_iff.mp H
 obtain ⟨t254,A160,H⟩:=H
 replace H : ((laws_toIntA3S.f k l4).bind fun t257=>((laws_toRoad.f a0_0 a0_1).bind fun bt260=>((impl_RelayPrice.f k bt260.1 bt260.2 t254 a2 a3 t257).bind fun bt262=>(if bt262.1 = t252 then (laws_FnExactRelayPrice.j0 k l1 l4 t254 t257 (bt262.2 != t253)) else (laws_FnExactRelayPrice.j0 k l1 l4 t254 t257 true))))) = some r:=H
 have A16:=Aside0.mk A160
 clear A160
 replace H:=Option.bind_eq_some_iff.mp H
 obtain ⟨t257,A170,H⟩:=H
 replace H : ((laws_toRoad.f a0_0 a0_1).bind fun bt260=>((impl_RelayPrice.f k bt260.1 bt260.2 t254 a2 a3 t257).bind fun bt262=>(if bt262.1 = t252 then (laws_FnExactRelayPrice.j0 k l1 l4 t254 t257 (bt262.2 != t253)) else (laws_FnExactRelayPrice.j0 k l1 l4 t254 t257 true)))) = some r:=H
 have A17:=Aside0.mk A170
 clear A170
 replace H:=Option.bind_eq_some_iff.mp H
 obtain ⟨⟨t260,t261⟩,A180,H⟩:=H
 replace H : ((impl_RelayPrice.f k t260 t261 t254 a2 a3 t257).bind fun bt262=>(if bt262.1 = t252 then (laws_FnExactRelayPrice.j0 k l1 l4 t254 t257 (bt262.2 != t253)) else (laws_FnExactRelayPrice.j0 k l1 l4 t254 t257 true))) = some r:=H
 have A18:=Aside0.mk A180
 clear A180
 replace H:=Option.bind_eq_some_iff.mp H
 obtain ⟨⟨t262,t263⟩,A190,H⟩:=H
 replace H : (if t262 = t252 then (laws_FnExactRelayPrice.j0 k l1 l4 t254 t257 (t263 != t253)) else (laws_FnExactRelayPrice.j0 k l1 l4 t254 t257 true)) = some r:=H
 have A19:=Aside0.mk A190
 clear A190
 have HC20:=Aside0.mk H
 clear H
 go_enter Try.func4,Try.ntmps4
 go_upto_region 12 with (first|((with_reducible refine gate_dst (N:=5) rfl ?_);refine box_event ?hg (N:=5) ?hd (cs:=#[.int .i64 a0_0,.bool a0_1]) (t:=23) ?hr ?_;(case hd=>rfl);(case hg=>rfl);(case hr=>first|(go_simp;done)|(go_simp;rfl));intro gb241 hg w21 hbox hb;have n0_:=Aside0.mk (below_step (by repeat (first|(with_reducible first|exact HB.out|apply below_alloc|apply pw_below_drewN|apply below_drew1)|exact HB.out)) hb);have n1_:=Aside0.mk (hbox);have n2_:=Aside0.mk ((by rw [hg];exact (below_size (by repeat (first|(with_reducible first|exact HB.out|apply below_alloc|apply pw_below_drewN|apply below_drew1)|exact HB.out))) : w.heap.size ≤ gb241));have n3_:=Aside0.mk ((by rw [hg];exact (below_size (by repeat (first|(with_reducible first|exact HB.out|apply below_alloc|apply pw_below_drewN|apply below_drew1)|exact HB.out))) : w.heap.size ≤ gb241));clear HB;have HB:=n0_;have BK241:=n1_;have GW241:=n2_;have GE241:=n3_;clear n0_ n1_ n2_ n3_;clear hb hbox hg)|((with_reducible refine gate_callee (f:=10) rfl ?_);refine goesL_ (some 20) rfl rfl Try.func10 (by kernel_rfl) rfl #[.slice A1 l1.length c1,.int .i64 1048576] rfl (by (try simp only [List.map_toArray,List.map_cons,List.map_nil]);first|done|rfl|(simp only [List.length_drop,List.length_take];rfl)) ?_;(with_reducible refine (laws_szCarrierS.calls _ _ l1 1048576 t242 _ ?side1 ?side2 A6.out).mono ?_);(case side1=>repeat (first|exact (C_below HR1.out HB.out)|(with_reducible refine C_alloc ?_ _)|(with_reducible refine C_drewN ?_ _)|(with_reducible refine C_drew ?_)));(case side2=>exact HC1.out);rintro e w' ⟨rfl,⟨nd,rfl⟩⟩;refine ⟨_,rfl,?_⟩)|((with_reducible refine gate_callee (f:=16) rfl ?_);refine goesL_ (some 25) rfl rfl Try.func16 (by kernel_rfl) rfl #[.slice A4 l4.length c4,.int .i64 t242] rfl (by (try simp only [List.map_toArray,List.map_cons,List.map_nil]);first|done|rfl|(simp only [List.length_drop,List.length_take];rfl)) ?_;(with_reducible refine (laws_szIntA3S.calls _ _ l4 t242 t243 _ ?side1 ?side2 A9.out).mono ?_);(case side1=>repeat (first|exact (C_below HR4.out (by repeat (first|(with_reducible first|exact HB.out|apply below_alloc|apply pw_below_drewN|apply below_drew1|refine below_set ?_ GE241.out)|exact HB.out)))|(with_reducible refine C_alloc ?_ _)|(with_reducible refine C_drewN ?_ _)|(with_reducible refine C_drew ?_)));(case side2=>exact HC4.out);rintro e w' ⟨rfl,⟨nd,rfl⟩⟩;refine ⟨_,rfl,?_⟩;have hcz22_0 : w21.cell? ⟨gb241,0,none⟩ = some (.int .i64 a0_0):=(blk_cell BK241.out 0).trans rfl;have hcz22_1 : w21.cell? ⟨gb241,1,none⟩ = some (.bool a0_1):=(blk_cell BK241.out 1).trans rfl;have hfz22_0:=blk_frozen BK241.out 0;have hfz22_1:=blk_frozen BK241.out 1)|((with_reducible refine gate_callee (f:=12) rfl ?_);refine goesL_ (some 30) rfl rfl Try.func12 (by kernel_rfl) rfl #[.agg #[.int .i64 a0_0,.bool a0_1]] rfl (by (try simp only [List.map_toArray,List.map_cons,List.map_nil]);first|done|rfl|(simp only [List.length_drop,List.length_take];rfl)) ?_;(with_reducible refine (laws_toRoad.calls a0_0 a0_1 t244 t245 _ A12.out).mono ?_);rintro e w23 ⟨rfl,hb⟩;refine ⟨_,rfl,?_⟩;have n0_:=Aside0.mk (blk_below (g:=gb241) (o:=.cells #[.int .i64 a0_0,.bool a0_1] 23 (0,0)) (by (with_reducible repeat (first|apply blk_drewN|apply blk_drew|apply blk_alloc));exact BK241.out) hb);have n1_:=Aside0.mk (below_step (by repeat (first|(with_reducible first|exact HB.out|apply below_alloc|apply pw_below_drewN|apply below_drew1|refine below_set ?_ GE241.out)|exact HB.out)) hb);clear BK241;clear HB;have BK241:=n0_;have HB:=n1_;clear n0_ n1_;(try clear hb);(try clear hb2);(try clear hk);(try clear hi))|((with_reducible refine gate_callee (f:=13) rfl ?_);refine goesL_ (some 32) rfl rfl Try.func13 (by kernel_rfl) rfl #[.slice A1 l1.length c1] rfl (by (try simp only [List.map_toArray,List.map_cons,List.map_nil]);first|done|rfl|(simp only [List.length_drop,List.length_take];rfl)) ?_;(with_reducible refine (laws_toCarrierS.calls k _ _ l1 t246 _ ?side1 ?side2 A13.out).mono ?_);(case side1=>repeat (first|exact (C_below HR1.out HB.out)|(with_reducible refine C_alloc ?_ _)|(with_reducible refine C_drewN ?_ _)|(with_reducible refine C_drew ?_)));(case side2=>exact HC1.out);rintro e w24 ⟨v247,rfl,ho0,hb⟩;refine ⟨_,rfl,?_⟩;have n0_:=Aside0.mk (R_lower ho0 (below_size (by repeat (first|(with_reducible first|exact HB.out|apply below_alloc|apply pw_below_drewN|apply below_drew1|refine below_set ?_ GE241.out)|exact HB.out))));have n1_:=Aside0.mk (blk_below (g:=gb241) (o:=.cells #[.int .i64 a0_0,.bool a0_1] 23 (0,0)) (by (with_reducible repeat (first|apply blk_drewN|apply blk_drew|apply blk_alloc));exact BK241.out) hb);have n2_:=Aside0.mk (below_step (by repeat (first|(with_reducible first|exact HB.out|apply below_alloc|apply pw_below_drewN|apply below_drew1|refine below_set ?_ GE241.out)|exact HB.out)) hb);clear BK241;clear HB;have HO248:=n0_;have BK241:=n1_;have HB:=n2_;clear n0_ n1_ n2_;(try clear hb);(try clear hb2);(try clear hk);(try clear hi);(try clear ho0))|((with_reducible refine gate_callee (f:=18) rfl ?_);refine goesL_ (some 36) rfl rfl Try.func18 (by kernel_rfl) rfl #[.slice A4 l4.length c4] rfl (by (try simp only [List.map_toArray,List.map_cons,List.map_nil]);first|done|rfl|(simp only [List.length_drop,List.length_take];rfl)) ?_;(with_reducible refine (laws_toIntA3S.calls k _ _ l4 t249 _ ?side1 ?side2 A14.out).mono ?_);(case side1=>repeat (first|exact (C_below HR4.out HB.out)|(with_reducible refine C_alloc ?_ _)|(with_reducible refine C_drewN ?_ _)|(with_reducible refine C_drew ?_)));(case side2=>exact HC4.out);rintro e w25 ⟨v250,rfl,ho0,hb⟩;refine ⟨_,rfl,?_⟩;have n0_:=Aside0.mk (R_below (by (with_reducible repeat (first|apply R_alloc|apply R_drewN|apply R_drew));exact HO248.out) hb);have n1_:=Aside0.mk (R_lower ho0 (below_size (by repeat (first|(with_reducible first|exact HB.out|apply below_alloc|apply pw_below_drewN|apply below_drew1|refine below_set ?_ GE241.out)|exact HB.out))));have n2_:=Aside0.mk (blk_below (g:=gb241) (o:=.cells #[.int .i64 a0_0,.bool a0_1] 23 (0,0)) (by (with_reducible repeat (first|apply blk_drewN|apply blk_drew|apply blk_alloc));exact BK241.out) hb);have n3_:=Aside0.mk (below_step (by repeat (first|(with_reducible first|exact HB.out|apply below_alloc|apply pw_below_drewN|apply below_drew1|refine below_set ?_ GE241.out)|exact HB.out)) hb);clear HO248;clear BK241;clear HB;have HO248:=n0_;have HO251:=n1_;have BK241:=n2_;have HB:=n3_;clear n0_ n1_ n2_ n3_;(try clear hb);(try clear hb2);(try clear hk);(try clear hi);(try clear ho0);obtain ⟨Ao26,co26,eo26⟩:=R_slice HO248.out;subst eo26;obtain ⟨Ao27,co27,eo27⟩:=R_slice HO251.out;subst eo27)|((with_reducible refine gate_callee (f:=17) rfl ?_);refine goesL_ (some 37) rfl rfl Try.func17 (by kernel_rfl) rfl #[.agg #[.int .i64 t244,.bool t245],.slice Ao26 t246.length co26,.int .i64 a2,.int .i64 a3,.slice Ao27 t249.length co27] rfl (by (try simp only [List.map_toArray,List.map_cons,List.map_nil]);first|done|rfl|(simp only [List.length_drop,List.length_take];rfl)) ?_;(with_reducible refine (spec_RelayPrice.calls k t244 t245 _ _ t246 a2 a3 _ _ t249 t252 t253 _ ?side1 ?side2 ?side3 ?side4 A15.out).mono ?_);(case side1=>repeat (first|exact (R_reads' HO248.out).2.2|(with_reducible refine C_alloc ?_ _)|(with_reducible refine C_drewN ?_ _)|(with_reducible refine C_drew ?_)));(case side2=>exact (R_reads' HO248.out).2.1);(case side3=>repeat (first|exact (R_reads' HO251.out).2.2|(with_reducible refine C_alloc ?_ _)|(with_reducible refine C_drewN ?_ _)|(with_reducible refine C_drew ?_)));(case side4=>exact (R_reads' HO251.out).2.1);rintro e w28 ⟨rfl,hb⟩;refine ⟨_,rfl,?_⟩;have n0_:=Aside0.mk (R_below (by (with_reducible repeat (first|apply R_alloc|apply R_drewN|apply R_drew));exact HO248.out) hb);have n1_:=Aside0.mk (R_below (by (with_reducible repeat (first|apply R_alloc|apply R_drewN|apply R_drew));exact HO251.out) hb);have n2_:=Aside0.mk (blk_below (g:=gb241) (o:=.cells #[.int .i64 a0_0,.bool a0_1] 23 (0,0)) (by (with_reducible repeat (first|apply blk_drewN|apply blk_drew|apply blk_alloc));exact BK241.out) hb);have n3_:=Aside0.mk (below_step (by repeat (first|(with_reducible first|exact HB.out|apply below_alloc|apply pw_below_drewN|apply below_drew1|refine below_set ?_ GE241.out)|exact HB.out)) hb);clear HO248;clear HO251;clear BK241;clear HB;have HO248:=n0_;have HO251:=n1_;have BK241:=n2_;have HB:=n3_;clear n0_ n1_ n2_ n3_;(try clear hb);(try clear hb2);(try clear hk);(try clear hi))|((with_reducible refine gate_callee (f:=13) rfl ?_);refine goesL_ (some 41) rfl rfl Try.func13 (by kernel_rfl) rfl #[.slice A1 l1.length c1] rfl (by (try simp only [List.map_toArray,List.map_cons,List.map_nil]);first|done|rfl|(simp only [List.length_drop,List.length_take];rfl)) ?_;(with_reducible refine (laws_toCarrierS.calls k _ _ l1 t254 _ ?side1 ?side2 A16.out).mono ?_);(case side1=>repeat (first|exact (C_below HR1.out HB.out)|(with_reducible refine C_alloc ?_ _)|(with_reducible refine C_drewN ?_ _)|(with_reducible refine C_drew ?_)));(case side2=>exact HC1.out);rintro e w29 ⟨v255,rfl,ho0,hb⟩;refine ⟨_,rfl,?_⟩;have n0_:=Aside0.mk (R_elder' (by (with_reducible repeat (first|apply R_alloc|apply R_drewN|apply R_drew));exact HO248.out) (R_base ho0) hb);have n1_:=Aside0.mk (R_below (by (with_reducible repeat (first|apply R_alloc|apply R_drewN|apply R_drew));exact HO251.out) hb);have n2_:=Aside0.mk (R_lower (R_new' ho0 (R_lt (by (with_reducible repeat (first|apply R_alloc|apply R_drewN|apply R_drew));exact HO248.out))) (below_size (by repeat (first|(with_reducible first|exact HB.out|apply below_alloc|apply pw_below_drewN|apply below_drew1|refine below_set ?_ GE241.out)|exact HB.out))));have n3_:=Aside0.mk (blk_below (g:=gb241) (o:=.cells #[.int .i64 a0_0,.bool a0_1] 23 (0,0)) (by (with_reducible repeat (first|apply blk_drewN|apply blk_drew|apply blk_alloc));exact BK241.out) hb);have n4_:=Aside0.mk (below_step (by repeat (first|(with_reducible first|exact HB.out|apply below_alloc|apply pw_below_drewN|apply below_drew1|refine below_set ?_ GE241.out)|exact HB.out)) hb);clear HO248;clear HO251;clear BK241;clear HB;have HO248:=n0_;have HO251:=n1_;have HO256:=n2_;have BK241:=n3_;have HB:=n4_;clear n0_ n1_ n2_ n3_ n4_;(try clear hb);(try clear hb2);(try clear hk);(try clear hi);(try clear ho0))|((with_reducible refine gate_callee (f:=18) rfl ?_);refine goesL_ (some 43) rfl rfl Try.func18 (by kernel_rfl) rfl #[.slice A4 l4.length c4] rfl (by (try simp only [List.map_toArray,List.map_cons,List.map_nil]);first|done|rfl|(simp only [List.length_drop,List.length_take];rfl)) ?_;(with_reducible refine (laws_toIntA3S.calls k _ _ l4 t257 _ ?side1 ?side2 A17.out).mono ?_);(case side1=>repeat (first|exact (C_below HR4.out HB.out)|(with_reducible refine C_alloc ?_ _)|(with_reducible refine C_drewN ?_ _)|(with_reducible refine C_drew ?_)));(case side2=>exact HC4.out);rintro e w30 ⟨v258,rfl,ho0,hb⟩;refine ⟨_,rfl,?_⟩;have n0_:=Aside0.mk (R_below (by (with_reducible repeat (first|apply R_alloc|apply R_drewN|apply R_drew));exact HO248.out) hb);have n1_:=Aside0.mk (R_elder' (by (with_reducible repeat (first|apply R_alloc|apply R_drewN|apply R_drew));exact HO251.out) (R_base ho0) hb);have n2_:=Aside0.mk (R_below (by (with_reducible repeat (first|apply R_alloc|apply R_drewN|apply R_drew));exact HO256.out) hb);have n3_:=Aside0.mk (R_lower (R_new' ho0 (R_lt (by (with_reducible repeat (first|apply R_alloc|apply R_drewN|apply R_drew));exact HO251.out))) (below_size (by repeat (first|(with_reducible first|exact HB.out|apply below_alloc|apply pw_below_drewN|apply below_drew1|refine below_set ?_ GE241.out)|exact HB.out))));have n4_:=Aside0.mk (blk_below (g:=gb241) (o:=.cells #[.int .i64 a0_0,.bool a0_1] 23 (0,0)) (by (with_reducible repeat (first|apply blk_drewN|apply blk_drew|apply blk_alloc));exact BK241.out) hb);have n5_:=Aside0.mk (below_step (by repeat (first|(with_reducible first|exact HB.out|apply below_alloc|apply pw_below_drewN|apply below_drew1|refine below_set ?_ GE241.out)|exact HB.out)) hb);clear HO248;clear HO251;clear HO256;clear BK241;clear HB;have HO248:=n0_;have HO251:=n1_;have HO256:=n2_;have HO259:=n3_;have BK241:=n4_;have HB:=n5_;clear n0_ n1_ n2_ n3_ n4_ n5_;(try clear hb);(try clear hb2);(try clear hk);(try clear hi);(try clear ho0);have hcz31_0 : w30.cell? ⟨gb241,0,none⟩ = some (.int .i64 a0_0):=(blk_cell BK241.out 0).trans rfl;have hcz31_1 : w30.cell? ⟨gb241,1,none⟩ = some (.bool a0_1):=(blk_cell BK241.out 1).trans rfl;have hfz31_0:=blk_frozen BK241.out 0;have hfz31_1:=blk_frozen BK241.out 1)|((with_reducible refine gate_callee (f:=12) rfl ?_);refine goesL_ (some 46) rfl rfl Try.func12 (by kernel_rfl) rfl #[.agg #[.int .i64 a0_0,.bool a0_1]] rfl (by (try simp only [List.map_toArray,List.map_cons,List.map_nil]);first|done|rfl|(simp only [List.length_drop,List.length_take];rfl)) ?_;(with_reducible refine (laws_toRoad.calls a0_0 a0_1 t260 t261 _ A18.out).mono ?_);rintro e w32 ⟨rfl,hb⟩;refine ⟨_,rfl,?_⟩;have n0_:=Aside0.mk (R_below (by (with_reducible repeat (first|apply R_alloc|apply R_drewN|apply R_drew));exact HO248.out) hb);have n1_:=Aside0.mk (R_below (by (with_reducible repeat (first|apply R_alloc|apply R_drewN|apply R_drew));exact HO251.out) hb);have n2_:=Aside0.mk (R_below (by (with_reducible repeat (first|apply R_alloc|apply R_drewN|apply R_drew));exact HO256.out) hb);have n3_:=Aside0.mk (R_below (by (with_reducible repeat (first|apply R_alloc|apply R_drewN|apply R_drew));exact HO259.out) hb);have n4_:=Aside0.mk (blk_below (g:=gb241) (o:=.cells #[.int .i64 a0_0,.bool a0_1] 23 (0,0)) (by (with_reducible repeat (first|apply blk_drewN|apply blk_drew|apply blk_alloc));exact BK241.out) hb);have n5_:=Aside0.mk (below_step (by repeat (first|(with_reducible first|exact HB.out|apply below_alloc|apply pw_below_drewN|apply below_drew1|refine below_set ?_ GE241.out)|exact HB.out)) hb);clear HO248;clear HO251;clear HO256;clear HO259;clear BK241;clear HB;have HO248:=n0_;have HO251:=n1_;have HO256:=n2_;have HO259:=n3_;have BK241:=n4_;have HB:=n5_;clear n0_ n1_ n2_ n3_ n4_ n5_;(try clear hb);(try clear hb2);(try clear hk);(try clear hi);obtain ⟨Ao33,co33,eo33⟩:=R_slice HO256.out;subst eo33;obtain ⟨Ao34,co34,eo34⟩:=R_slice HO259.out;subst eo34)|((with_reducible refine gate_callee (f:=19) rfl ?_);refine goesL_ (some 51) rfl rfl Try.func19 (by kernel_rfl) rfl #[.agg #[.int .i64 t260,.bool t261],.slice Ao33 t254.length co33,.int .i64 a2,.int .i64 a3,.slice Ao34 t257.length co34] rfl (by (try simp only [List.map_toArray,List.map_cons,List.map_nil]);first|done|rfl|(simp only [List.length_drop,List.length_take];rfl)) ?_;(with_reducible refine (impl_RelayPrice.calls k t260 t261 _ _ t254 a2 a3 _ _ t257 t262 t263 _ ?side1 ?side2 ?side3 ?side4 A19.out).mono ?_);(case side1=>repeat (first|exact (R_reads' HO256.out).2.2|(with_reducible refine C_alloc ?_ _)|(with_reducible refine C_drewN ?_ _)|(with_reducible refine C_drew ?_)));(case side2=>exact (R_reads' HO256.out).2.1);(case side3=>repeat (first|exact (R_reads' HO259.out).2.2|(with_reducible refine C_alloc ?_ _)|(with_reducible refine C_drewN ?_ _)|(with_reducible refine C_drew ?_)));(case side4=>exact (R_reads' HO259.out).2.1);rintro e w35 ⟨rfl,hb⟩;refine ⟨_,rfl,?_⟩;have n0_:=Aside0.mk (R_below (by (with_reducible repeat (first|apply R_alloc|apply R_drewN|apply R_drew));exact HO248.out) hb);have n1_:=Aside0.mk (R_below (by (with_reducible repeat (first|apply R_alloc|apply R_drewN|apply R_drew));exact HO251.out) hb);have n2_:=Aside0.mk (R_below (by (with_reducible repeat (first|apply R_alloc|apply R_drewN|apply R_drew));exact HO256.out) hb);have n3_:=Aside0.mk (R_below (by (with_reducible repeat (first|apply R_alloc|apply R_drewN|apply R_drew));exact HO259.out) hb);have n4_:=Aside0.mk (blk_below (g:=gb241) (o:=.cells #[.int .i64 a0_0,.bool a0_1] 23 (0,0)) (by (with_reducible repeat (first|apply blk_drewN|apply blk_drew|apply blk_alloc));exact BK241.out) hb);have n5_:=Aside0.mk (below_step (by repeat (first|(with_reducible first|exact HB.out|apply below_alloc|apply pw_below_drewN|apply below_drew1|refine below_set ?_ GE241.out)|exact HB.out)) hb);clear HO248;clear HO251;clear HO256;clear HO259;clear BK241;clear HB;have HO248:=n0_;have HO251:=n1_;have HO256:=n2_;have HO259:=n3_;have BK241:=n4_;have HB:=n5_;clear n0_ n1_ n2_ n3_ n4_ n5_;(try clear hb);(try clear hb2);(try clear hk);(try clear hi)))
 (try simp only [Act.put,List.setIfInBounds_toArray,List.set_cons_zero,List.set_cons_succ])
 go_cut [61] (fun v61 wc=>∃ (kq : Nat) (x61_19 : Bool),v61 = .bool x61_19 ∧ Aside0 (laws_FnExactRelayPrice.j0 kq l1 l4 t254 t257 x61_19 = some r) ∧ Aside0 (kq ≤ k) ∧ Aside0 (Kd.R k63 63 wc w.heap.size (fun _=>True) (.slice Ao33 t254.length co33) t254) ∧ Aside0 (Kd.R k70 70 wc w.heap.size (fun _=>True) (.slice Ao34 t257.length co34) t257) ∧ Aside0 (wc.heap[gb241]? = some (.cells #[.int .i64 a0_0,.bool a0_1] 23 (0,0))) ∧ Aside0 (Below w.heap.size w wc))
 case first =>
  have H:=HC20.out
  clear HC20
  by_cases c36 : t262 = t252
  rotate_left
  ·rw [if_neg c36] at H
   have c36b0 : (t262 == t252) = false:=beq_eq_false_iff_ne.mpr c36
   have c36b1 : (t262 != t252) = true:=bne_iff_ne.mpr c36
   (first|rw [c36b0]|(simp only [i64_w,i32_w];rw [c36b0])|skip)
   have H':=Aside0.mk H
   clear H
   go_wp2
   go_meet
   case rel=>exact ⟨_,(true),(by first|rfl|(simp;done)|(simp [*];done)),H',⟨by first|omega|exact Nat.le_refl _⟩,⟨by (with_reducible repeat (first|apply R_alloc|apply R_drewN|apply R_drew));exact R_mono HO256.out (fun _ hk=>trivial)⟩,⟨by (with_reducible repeat (first|apply R_alloc|apply R_drewN|apply R_drew));exact R_mono HO259.out (fun _ hk=>trivial)⟩,⟨by (with_reducible repeat (first|apply blk_drewN|apply blk_drew|apply blk_alloc));exact BK241.out⟩,⟨by repeat (first|(with_reducible first|exact HB.out|apply below_alloc|apply pw_below_drewN|apply below_drew1|refine below_set ?_ GE241.out)|exact HB.out)⟩⟩
  rw [if_pos c36] at H
  have c36b0 : (t262 == t252) = true:=beq_iff_eq.mpr c36
  have c36b1 : (t262 != t252) = false:=bne_eq_false_iff_eq.mpr c36
  clear c36
  (first|rw [c36b0]|(simp only [i64_w,i32_w];rw [c36b0])|skip)
  have H':=Aside0.mk H
  clear H
  go_wp2
  go_meet
  case rel=>exact ⟨_,((t263 != t253)),(by first|rfl|(simp;done)|(simp [*];done)),H',⟨by first|omega|exact Nat.le_refl _⟩,⟨by (with_reducible repeat (first|apply R_alloc|apply R_drewN|apply R_drew));exact R_mono HO256.out (fun _ hk=>trivial)⟩,⟨by (with_reducible repeat (first|apply R_alloc|apply R_drewN|apply R_drew));exact R_mono HO259.out (fun _ hk=>trivial)⟩,⟨by (with_reducible repeat (first|apply blk_drewN|apply blk_drew|apply blk_alloc));exact BK241.out⟩,⟨by repeat (first|(with_reducible first|exact HB.out|apply below_alloc|apply pw_below_drewN|apply below_drew1|refine below_set ?_ GE241.out)|exact HB.out)⟩⟩
 clear HC20
 try clear c1
 try clear p2
 try clear c3
 try clear c4
 try clear c7
 try clear c7b0
 try clear c10
 try clear c10b0
 try clear c12
 try clear c13
 try clear c16
 try clear c17
 try clear c18
 try clear c19
 try clear c36
 try clear c36b0
 try clear c36b1
 try clear hcz22_0
 try clear hcz22_1
 try clear hcz31_0
 try clear hcz31_1
 try clear hfz22_0
 try clear hfz22_1
 try clear hfz31_0
 try clear hfz31_1
 obtain ⟨kq,x61_19,rfl,HA,HJ19,HO_14,HO_15,BK241,HB⟩:=hcut
 cases kq with
 | zero=>exact absurd HA.out (by simp [laws_FnExactRelayPrice.j0])
 | succ kj19 =>
  have H:=HA.out
  clear HA
  simp only [laws_FnExactRelayPrice.j0] at H
  by_cases c37 : x61_19 = true
  ·subst c37
   have H1 : (some false) = some r:=by rw [if_pos rfl] at H;exact H
   clear H
   have H:=H1
   clear H1
   obtain rfl:=Option.some.inj H
   go_wp2
   go_ret
   exact ⟨by first|rfl|(simp [errW_none,errW_some] <;> rfl)|(simp [*,errW_none,errW_some] <;> rfl),by repeat (first|(with_reducible first|exact HB.out|apply below_alloc|apply pw_below_drewN|apply below_drew1|refine below_set ?_ GE241.out)|exact HB.out)⟩
  replace c37:=Bool.eq_false_iff.mpr c37
  subst c37
  have H1 : ((laws_toCarrierS.f kj19 l1).bind fun t264=>((laws_eqCarrierS.f kj19 t254 t264).bind fun t267=>(if t267 = true then ((laws_toIntA3S.f kj19 l4).bind fun t268=>((laws_eqIntA3S.f kj19 t257 t268).bind fun t271=>(if t271 = true then (some true) else (some false)))) else (some false)))) = some r:=by rw [if_neg (show ¬ (false = true) by decide)] at H;exact H
  clear H
  have H:=H1
  clear H1
  replace H:=Option.bind_eq_some_iff.mp H
  obtain ⟨t264,A380,H⟩:=H
  replace H : ((laws_eqCarrierS.f kj19 t254 t264).bind fun t267=>(if t267 = true then ((laws_toIntA3S.f kj19 l4).bind fun t268=>((laws_eqIntA3S.f kj19 t257 t268).bind fun t271=>(if t271 = true then (some true) else (some false)))) else (some false))) = some r:=H
  have A38:=Aside0.mk A380
  clear A380
  replace H:=Option.bind_eq_some_iff.mp H
  obtain ⟨t267,A390,H⟩:=H
  replace H : (if t267 = true then ((laws_toIntA3S.f kj19 l4).bind fun t268=>((laws_eqIntA3S.f kj19 t257 t268).bind fun t271=>(if t271 = true then (some true) else (some false)))) else (some false)) = some r:=H
  have A39:=Aside0.mk A390
  clear A390
  by_cases c40 : t267 = true
  rotate_left
  ·replace c40:=Bool.eq_false_iff.mpr c40
   subst c40
   have H1 : (some false) = some r:=by rw [if_neg (show ¬ (false = true) by decide)] at H;exact H
   clear H
   have H:=H1
   clear H1
   obtain rfl:=Option.some.inj H
   go_wp2_with (first|((with_reducible refine gate_callee (f:=13) rfl ?_);refine goesL_ (some 64) rfl rfl Try.func13 (by kernel_rfl) rfl #[.slice A1 l1.length c1] rfl (by (try simp only [List.map_toArray,List.map_cons,List.map_nil]);first|done|rfl|(simp only [List.length_drop,List.length_take];rfl)) ?_;(with_reducible refine (laws_toCarrierS.calls kj19 _ _ l1 t264 _ ?side1 ?side2 A38.out).mono ?_);(case side1=>repeat (first|exact (C_below HR1.out HB.out)|(with_reducible refine C_alloc ?_ _)|(with_reducible refine C_drewN ?_ _)|(with_reducible refine C_drew ?_)));(case side2=>exact HC1.out);rintro e w56 ⟨v265,rfl,ho0,hb⟩;refine ⟨_,rfl,?_⟩;have n0_:=Aside0.mk (R_elder' (by (with_reducible repeat (first|apply R_alloc|apply R_drewN|apply R_drew));exact HO_14.out) (R_base ho0) hb);have n1_:=Aside0.mk (R_below (by (with_reducible repeat (first|apply R_alloc|apply R_drewN|apply R_drew));exact HO_15.out) hb);have n2_:=Aside0.mk (R_lower (R_new' ho0 (R_lt (by (with_reducible repeat (first|apply R_alloc|apply R_drewN|apply R_drew));exact HO_14.out))) (below_size (by repeat (first|(with_reducible first|exact HB.out|apply below_alloc|apply pw_below_drewN|apply below_drew1|refine below_set ?_ GE241.out)|exact HB.out))));have n3_:=Aside0.mk (blk_below (g:=gb241) (o:=.cells #[.int .i64 a0_0,.bool a0_1] 23 (0,0)) (by (with_reducible repeat (first|apply blk_drewN|apply blk_drew|apply blk_alloc));exact BK241.out) hb);have n4_:=Aside0.mk (below_step (by repeat (first|(with_reducible first|exact HB.out|apply below_alloc|apply pw_below_drewN|apply below_drew1|refine below_set ?_ GE241.out)|exact HB.out)) hb);clear HO_14;clear HO_15;clear BK241;clear HB;have HO_14:=n0_;have HO_15:=n1_;have HO266:=n2_;have BK241:=n3_;have HB:=n4_;clear n0_ n1_ n2_ n3_ n4_;(try clear hb);(try clear hb2);(try clear hk);(try clear hi);(try clear ho0);obtain ⟨Ao57,co57,eo57⟩:=R_slice HO266.out;subst eo57)|((with_reducible refine gate_callee (f:=15) rfl ?_);refine goesL_ (some 65) rfl rfl Try.func15 (by kernel_rfl) rfl #[.slice Ao33 t254.length co33,.slice Ao57 t264.length co57] rfl (by (try simp only [List.map_toArray,List.map_cons,List.map_nil]);first|done|rfl|(simp only [List.length_drop,List.length_take];rfl)) ?_;(with_reducible refine (laws_eqCarrierS.calls kj19 _ _ t254 _ _ t264 false _ ?side1 ?side2 ?side3 ?side4 A39.out).mono ?_);(case side1=>repeat (first|exact (R_reads' HO_14.out).2.2|(with_reducible refine C_alloc ?_ _)|(with_reducible refine C_drewN ?_ _)|(with_reducible refine C_drew ?_)));(case side2=>exact (R_reads' HO_14.out).2.1);(case side3=>repeat (first|exact (R_reads' HO266.out).2.2|(with_reducible refine C_alloc ?_ _)|(with_reducible refine C_drewN ?_ _)|(with_reducible refine C_drew ?_)));(case side4=>exact (R_reads' HO266.out).2.1);rintro e w58 ⟨rfl,hb⟩;refine ⟨_,rfl,?_⟩;have n0_:=Aside0.mk (R_below (by (with_reducible repeat (first|apply R_alloc|apply R_drewN|apply R_drew));exact HO_14.out) hb);have n1_:=Aside0.mk (R_below (by (with_reducible repeat (first|apply R_alloc|apply R_drewN|apply R_drew));exact HO_15.out) hb);have n2_:=Aside0.mk (R_below (by (with_reducible repeat (first|apply R_alloc|apply R_drewN|apply R_drew));exact HO266.out) hb);have n3_:=Aside0.mk (blk_below (g:=gb241) (o:=.cells #[.int .i64 a0_0,.bool a0_1] 23 (0,0)) (by (with_reducible repeat (first|apply blk_drewN|apply blk_drew|apply blk_alloc));exact BK241.out) hb);have n4_:=Aside0.mk (below_step (by repeat (first|(with_reducible first|exact HB.out|apply below_alloc|apply pw_below_drewN|apply below_drew1|refine below_set ?_ GE241.out)|exact HB.out)) hb);clear HO_14;clear HO_15;clear HO266;clear BK241;clear HB;have HO_14:=n0_;have HO_15:=n1_;have HO266:=n2_;have BK241:=n3_;have HB:=n4_;clear n0_ n1_ n2_ n3_ n4_;(try clear hb);(try clear hb2);(try clear hk);(try clear hi)))
   go_ret
   exact ⟨by first|rfl|(simp [errW_none,errW_some] <;> rfl)|(simp [*,errW_none,errW_some] <;> rfl),by repeat (first|(with_reducible first|exact HB.out|apply below_alloc|apply pw_below_drewN|apply below_drew1|refine below_set ?_ GE241.out)|exact HB.out)⟩
  subst c40
  have H1 : ((laws_toIntA3S.f kj19 l4).bind fun t268=>((laws_eqIntA3S.f kj19 t257 t268).bind fun t271=>(if t271 = true then (some true) else (some false)))) = some r:=by rw [if_pos rfl] at H;exact H
  clear H
  have H:=H1
  clear H1
  replace H:=Option.bind_eq_some_iff.mp H
  obtain ⟨t268,A410,H⟩:=H
  replace H : ((laws_eqIntA3S.f kj19 t257 t268).bind fun t271=>(if t271 = true then (some true) else (some false))) = some r:=H
  have A41:=Aside0.mk A410
  clear A410
  replace H:=Option.bind_eq_some_iff.mp H
  obtain ⟨t271,A420,H⟩:=H
  replace H : (if t271 = true then (some true) else (some false)) = some r:=H
  have A42:=Aside0.mk A420
  clear A420
  by_cases c43 : t271 = true
  ·subst c43
   have H1 : (some true) = some r:=by rw [if_pos rfl] at H;exact H
   clear H
   have H:=H1
   clear H1
   obtain rfl:=Option.some.inj H
   go_wp2_with (first|((with_reducible refine gate_callee (f:=13) rfl ?_);refine goesL_ (some 64) rfl rfl Try.func13 (by kernel_rfl) rfl #[.slice A1 l1.length c1] rfl (by (try simp only [List.map_toArray,List.map_cons,List.map_nil]);first|done|rfl|(simp only [List.length_drop,List.length_take];rfl)) ?_;(with_reducible refine (laws_toCarrierS.calls kj19 _ _ l1 t264 _ ?side1 ?side2 A38.out).mono ?_);(case side1=>repeat (first|exact (C_below HR1.out HB.out)|(with_reducible refine C_alloc ?_ _)|(with_reducible refine C_drewN ?_ _)|(with_reducible refine C_drew ?_)));(case side2=>exact HC1.out);rintro e w44 ⟨v265,rfl,ho0,hb⟩;refine ⟨_,rfl,?_⟩;have n0_:=Aside0.mk (R_elder' (by (with_reducible repeat (first|apply R_alloc|apply R_drewN|apply R_drew));exact HO_14.out) (R_base ho0) hb);have n1_:=Aside0.mk (R_below (by (with_reducible repeat (first|apply R_alloc|apply R_drewN|apply R_drew));exact HO_15.out) hb);have n2_:=Aside0.mk (R_lower (R_new' ho0 (R_lt (by (with_reducible repeat (first|apply R_alloc|apply R_drewN|apply R_drew));exact HO_14.out))) (below_size (by repeat (first|(with_reducible first|exact HB.out|apply below_alloc|apply pw_below_drewN|apply below_drew1|refine below_set ?_ GE241.out)|exact HB.out))));have n3_:=Aside0.mk (blk_below (g:=gb241) (o:=.cells #[.int .i64 a0_0,.bool a0_1] 23 (0,0)) (by (with_reducible repeat (first|apply blk_drewN|apply blk_drew|apply blk_alloc));exact BK241.out) hb);have n4_:=Aside0.mk (below_step (by repeat (first|(with_reducible first|exact HB.out|apply below_alloc|apply pw_below_drewN|apply below_drew1|refine below_set ?_ GE241.out)|exact HB.out)) hb);clear HO_14;clear HO_15;clear BK241;clear HB;have HO_14:=n0_;have HO_15:=n1_;have HO266:=n2_;have BK241:=n3_;have HB:=n4_;clear n0_ n1_ n2_ n3_ n4_;(try clear hb);(try clear hb2);(try clear hk);(try clear hi);(try clear ho0);obtain ⟨Ao45,co45,eo45⟩:=R_slice HO266.out;subst eo45)|((with_reducible refine gate_callee (f:=15) rfl ?_);refine goesL_ (some 65) rfl rfl Try.func15 (by kernel_rfl) rfl #[.slice Ao33 t254.length co33,.slice Ao45 t264.length co45] rfl (by (try simp only [List.map_toArray,List.map_cons,List.map_nil]);first|done|rfl|(simp only [List.length_drop,List.length_take];rfl)) ?_;(with_reducible refine (laws_eqCarrierS.calls kj19 _ _ t254 _ _ t264 true _ ?side1 ?side2 ?side3 ?side4 A39.out).mono ?_);(case side1=>repeat (first|exact (R_reads' HO_14.out).2.2|(with_reducible refine C_alloc ?_ _)|(with_reducible refine C_drewN ?_ _)|(with_reducible refine C_drew ?_)));(case side2=>exact (R_reads' HO_14.out).2.1);(case side3=>repeat (first|exact (R_reads' HO266.out).2.2|(with_reducible refine C_alloc ?_ _)|(with_reducible refine C_drewN ?_ _)|(with_reducible refine C_drew ?_)));(case side4=>exact (R_reads' HO266.out).2.1);rintro e w46 ⟨rfl,hb⟩;refine ⟨_,rfl,?_⟩;have n0_:=Aside0.mk (R_below (by (with_reducible repeat (first|apply R_alloc|apply R_drewN|apply R_drew));exact HO_14.out) hb);have n1_:=Aside0.mk (R_below (by (with_reducible repeat (first|apply R_alloc|apply R_drewN|apply R_drew));exact HO_15.out) hb);have n2_:=Aside0.mk (R_below (by (with_reducible repeat (first|apply R_alloc|apply R_drewN|apply R_drew));exact HO266.out) hb);have n3_:=Aside0.mk (blk_below (g:=gb241) (o:=.cells #[.int .i64 a0_0,.bool a0_1] 23 (0,0)) (by (with_reducible repeat (first|apply blk_drewN|apply blk_drew|apply blk_alloc));exact BK241.out) hb);have n4_:=Aside0.mk (below_step (by repeat (first|(with_reducible first|exact HB.out|apply below_alloc|apply pw_below_drewN|apply below_drew1|refine below_set ?_ GE241.out)|exact HB.out)) hb);clear HO_14;clear HO_15;clear HO266;clear BK241;clear HB;have HO_14:=n0_;have HO_15:=n1_;have HO266:=n2_;have BK241:=n3_;have HB:=n4_;clear n0_ n1_ n2_ n3_ n4_;(try clear hb);(try clear hb2);(try clear hk);(try clear hi))|((with_reducible refine gate_callee (f:=18) rfl ?_);refine goesL_ (some 69) rfl rfl Try.func18 (by kernel_rfl) rfl #[.slice A4 l4.length c4] rfl (by (try simp only [List.map_toArray,List.map_cons,List.map_nil]);first|done|rfl|(simp only [List.length_drop,List.length_take];rfl)) ?_;(with_reducible refine (laws_toIntA3S.calls kj19 _ _ l4 t268 _ ?side1 ?side2 A41.out).mono ?_);(case side1=>repeat (first|exact (C_below HR4.out HB.out)|(with_reducible refine C_alloc ?_ _)|(with_reducible refine C_drewN ?_ _)|(with_reducible refine C_drew ?_)));(case side2=>exact HC4.out);rintro e w47 ⟨v269,rfl,ho0,hb⟩;refine ⟨_,rfl,?_⟩;have n0_:=Aside0.mk (R_below (by (with_reducible repeat (first|apply R_alloc|apply R_drewN|apply R_drew));exact HO_14.out) hb);have n1_:=Aside0.mk (R_elder' (by (with_reducible repeat (first|apply R_alloc|apply R_drewN|apply R_drew));exact HO_15.out) (R_base ho0) hb);have n2_:=Aside0.mk (R_below (by (with_reducible repeat (first|apply R_alloc|apply R_drewN|apply R_drew));exact HO266.out) hb);have n3_:=Aside0.mk (R_lower (R_new' ho0 (R_lt (by (with_reducible repeat (first|apply R_alloc|apply R_drewN|apply R_drew));exact HO_15.out))) (below_size (by repeat (first|(with_reducible first|exact HB.out|apply below_alloc|apply pw_below_drewN|apply below_drew1|refine below_set ?_ GE241.out)|exact HB.out))));have n4_:=Aside0.mk (blk_below (g:=gb241) (o:=.cells #[.int .i64 a0_0,.bool a0_1] 23 (0,0)) (by (with_reducible repeat (first|apply blk_drewN|apply blk_drew|apply blk_alloc));exact BK241.out) hb);have n5_:=Aside0.mk (below_step (by repeat (first|(with_reducible first|exact HB.out|apply below_alloc|apply pw_below_drewN|apply below_drew1|refine below_set ?_ GE241.out)|exact HB.out)) hb);clear HO_14;clear HO_15;clear HO266;clear BK241;clear HB;have HO_14:=n0_;have HO_15:=n1_;have HO266:=n2_;have HO270:=n3_;have BK241:=n4_;have HB:=n5_;clear n0_ n1_ n2_ n3_ n4_ n5_;(try clear hb);(try clear hb2);(try clear hk);(try clear hi);(try clear ho0);obtain ⟨Ao48,co48,eo48⟩:=R_slice HO270.out;subst eo48)|((with_reducible refine gate_callee (f:=20) rfl ?_);refine goesL_ (some 70) rfl rfl Try.func20 (by kernel_rfl) rfl #[.slice Ao34 t257.length co34,.slice Ao48 t268.length co48] rfl (by (try simp only [List.map_toArray,List.map_cons,List.map_nil]);first|done|rfl|(simp only [List.length_drop,List.length_take];rfl)) ?_;(with_reducible refine (laws_eqIntA3S.calls kj19 _ _ t257 _ _ t268 true _ ?side1 ?side2 ?side3 ?side4 A42.out).mono ?_);(case side1=>repeat (first|exact (R_reads' HO_15.out).2.2|(with_reducible refine C_alloc ?_ _)|(with_reducible refine C_drewN ?_ _)|(with_reducible refine C_drew ?_)));(case side2=>exact (R_reads' HO_15.out).2.1);(case side3=>repeat (first|exact (R_reads' HO270.out).2.2|(with_reducible refine C_alloc ?_ _)|(with_reducible refine C_drewN ?_ _)|(with_reducible refine C_drew ?_)));(case side4=>exact (R_reads' HO270.out).2.1);rintro e w49 ⟨rfl,hb⟩;refine ⟨_,rfl,?_⟩;have n0_:=Aside0.mk (R_below (by (with_reducible repeat (first|apply R_alloc|apply R_drewN|apply R_drew));exact HO_14.out) hb);have n1_:=Aside0.mk (R_below (by (with_reducible repeat (first|apply R_alloc|apply R_drewN|apply R_drew));exact HO_15.out) hb);have n2_:=Aside0.mk (R_below (by (with_reducible repeat (first|apply R_alloc|apply R_drewN|apply R_drew));exact HO266.out) hb);have n3_:=Aside0.mk (R_below (by (with_reducible repeat (first|apply R_alloc|apply R_drewN|apply R_drew));exact HO270.out) hb);have n4_:=Aside0.mk (blk_below (g:=gb241) (o:=.cells #[.int .i64 a0_0,.bool a0_1] 23 (0,0)) (by (with_reducible repeat (first|apply blk_drewN|apply blk_drew|apply blk_alloc));exact BK241.out) hb);have n5_:=Aside0.mk (below_step (by repeat (first|(with_reducible first|exact HB.out|apply below_alloc|apply pw_below_drewN|apply below_drew1|refine below_set ?_ GE241.out)|exact HB.out)) hb);clear HO_14;clear HO_15;clear HO266;clear HO270;clear BK241;clear HB;have HO_14:=n0_;have HO_15:=n1_;have HO266:=n2_;have HO270:=n3_;have BK241:=n4_;have HB:=n5_;clear n0_ n1_ n2_ n3_ n4_ n5_;(try clear hb);(try clear hb2);(try clear hk);(try clear hi)))
   go_ret
   exact ⟨by first|rfl|(simp [errW_none,errW_some] <;> rfl)|(simp [*,errW_none,errW_some] <;> rfl),by repeat (first|(with_reducible first|exact HB.out|apply below_alloc|apply pw_below_drewN|apply below_drew1|refine below_set ?_ GE241.out)|exact HB.out)⟩
  replace c43:=Bool.eq_false_iff.mpr c43
  subst c43
  have H1 : (some false) = some r:=by rw [if_neg (show ¬ (false = true) by decide)] at H;exact H
  clear H
  have H:=H1
  clear H1
  obtain rfl:=Option.some.inj H
  go_wp2_with (first|((with_reducible refine gate_callee (f:=13) rfl ?_);refine goesL_ (some 64) rfl rfl Try.func13 (by kernel_rfl) rfl #[.slice A1 l1.length c1] rfl (by (try simp only [List.map_toArray,List.map_cons,List.map_nil]);first|done|rfl|(simp only [List.length_drop,List.length_take];rfl)) ?_;(with_reducible refine (laws_toCarrierS.calls kj19 _ _ l1 t264 _ ?side1 ?side2 A38.out).mono ?_);(case side1=>repeat (first|exact (C_below HR1.out HB.out)|(with_reducible refine C_alloc ?_ _)|(with_reducible refine C_drewN ?_ _)|(with_reducible refine C_drew ?_)));(case side2=>exact HC1.out);rintro e w50 ⟨v265,rfl,ho0,hb⟩;refine ⟨_,rfl,?_⟩;have n0_:=Aside0.mk (R_elder' (by (with_reducible repeat (first|apply R_alloc|apply R_drewN|apply R_drew));exact HO_14.out) (R_base ho0) hb);have n1_:=Aside0.mk (R_below (by (with_reducible repeat (first|apply R_alloc|apply R_drewN|apply R_drew));exact HO_15.out) hb);have n2_:=Aside0.mk (R_lower (R_new' ho0 (R_lt (by (with_reducible repeat (first|apply R_alloc|apply R_drewN|apply R_drew));exact HO_14.out))) (below_size (by repeat (first|(with_reducible first|exact HB.out|apply below_alloc|apply pw_below_drewN|apply below_drew1|refine below_set ?_ GE241.out)|exact HB.out))));have n3_:=Aside0.mk (blk_below (g:=gb241) (o:=.cells #[.int .i64 a0_0,.bool a0_1] 23 (0,0)) (by (with_reducible repeat (first|apply blk_drewN|apply blk_drew|apply blk_alloc));exact BK241.out) hb);have n4_:=Aside0.mk (below_step (by repeat (first|(with_reducible first|exact HB.out|apply below_alloc|apply pw_below_drewN|apply below_drew1|refine below_set ?_ GE241.out)|exact HB.out)) hb);clear HO_14;clear HO_15;clear BK241;clear HB;have HO_14:=n0_;have HO_15:=n1_;have HO266:=n2_;have BK241:=n3_;have HB:=n4_;clear n0_ n1_ n2_ n3_ n4_;(try clear hb);(try clear hb2);(try clear hk);(try clear hi);(try clear ho0);obtain ⟨Ao51,co51,eo51⟩:=R_slice HO266.out;subst eo51)|((with_reducible refine gate_callee (f:=15) rfl ?_);refine goesL_ (some 65) rfl rfl Try.func15 (by kernel_rfl) rfl #[.slice Ao33 t254.length co33,.slice Ao51 t264.length co51] rfl (by (try simp only [List.map_toArray,List.map_cons,List.map_nil]);first|done|rfl|(simp only [List.length_drop,List.length_take];rfl)) ?_;(with_reducible refine (laws_eqCarrierS.calls kj19 _ _ t254 _ _ t264 true _ ?side1 ?side2 ?side3 ?side4 A39.out).mono ?_);(case side1=>repeat (first|exact (R_reads' HO_14.out).2.2|(with_reducible refine C_alloc ?_ _)|(with_reducible refine C_drewN ?_ _)|(with_reducible refine C_drew ?_)));(case side2=>exact (R_reads' HO_14.out).2.1);(case side3=>repeat (first|exact (R_reads' HO266.out).2.2|(with_reducible refine C_alloc ?_ _)|(with_reducible refine C_drewN ?_ _)|(with_reducible refine C_drew ?_)));(case side4=>exact (R_reads' HO266.out).2.1);rintro e w52 ⟨rfl,hb⟩;refine ⟨_,rfl,?_⟩;have n0_:=Aside0.mk (R_below (by (with_reducible repeat (first|apply R_alloc|apply R_drewN|apply R_drew));exact HO_14.out) hb);have n1_:=Aside0.mk (R_below (by (with_reducible repeat (first|apply R_alloc|apply R_drewN|apply R_drew));exact HO_15.out) hb);have n2_:=Aside0.mk (R_below (by (with_reducible repeat (first|apply R_alloc|apply R_drewN|apply R_drew));exact HO266.out) hb);have n3_:=Aside0.mk (blk_below (g:=gb241) (o:=.cells #[.int .i64 a0_0,.bool a0_1] 23 (0,0)) (by (with_reducible repeat (first|apply blk_drewN|apply blk_drew|apply blk_alloc));exact BK241.out) hb);have n4_:=Aside0.mk (below_step (by repeat (first|(with_reducible first|exact HB.out|apply below_alloc|apply pw_below_drewN|apply below_drew1|refine below_set ?_ GE241.out)|exact HB.out)) hb);clear HO_14;clear HO_15;clear HO266;clear BK241;clear HB;have HO_14:=n0_;have HO_15:=n1_;have HO266:=n2_;have BK241:=n3_;have HB:=n4_;clear n0_ n1_ n2_ n3_ n4_;(try clear hb);(try clear hb2);(try clear hk);(try clear hi))|((with_reducible refine gate_callee (f:=18) rfl ?_);refine goesL_ (some 69) rfl rfl Try.func18 (by kernel_rfl) rfl #[.slice A4 l4.length c4] rfl (by (try simp only [List.map_toArray,List.map_cons,List.map_nil]);first|done|rfl|(simp only [List.length_drop,List.length_take];rfl)) ?_;(with_reducible refine (laws_toIntA3S.calls kj19 _ _ l4 t268 _ ?side1 ?side2 A41.out).mono ?_);(case side1=>repeat (first|exact (C_below HR4.out HB.out)|(with_reducible refine C_alloc ?_ _)|(with_reducible refine C_drewN ?_ _)|(with_reducible refine C_drew ?_)));(case side2=>exact HC4.out);rintro e w53 ⟨v269,rfl,ho0,hb⟩;refine ⟨_,rfl,?_⟩;have n0_:=Aside0.mk (R_below (by (with_reducible repeat (first|apply R_alloc|apply R_drewN|apply R_drew));exact HO_14.out) hb);have n1_:=Aside0.mk (R_elder' (by (with_reducible repeat (first|apply R_alloc|apply R_drewN|apply R_drew));exact HO_15.out) (R_base ho0) hb);have n2_:=Aside0.mk (R_below (by (with_reducible repeat (first|apply R_alloc|apply R_drewN|apply R_drew));exact HO266.out) hb);have n3_:=Aside0.mk (R_lower (R_new' ho0 (R_lt (by (with_reducible repeat (first|apply R_alloc|apply R_drewN|apply R_drew));exact HO_15.out))) (below_size (by repeat (first|(with_reducible first|exact HB.out|apply below_alloc|apply pw_below_drewN|apply below_drew1|refine below_set ?_ GE241.out)|exact HB.out))));have n4_:=Aside0.mk (blk_below (g:=gb241) (o:=.cells #[.int .i64 a0_0,.bool a0_1] 23 (0,0)) (by (with_reducible repeat (first|apply blk_drewN|apply blk_drew|apply blk_alloc));exact BK241.out) hb);have n5_:=Aside0.mk (below_step (by repeat (first|(with_reducible first|exact HB.out|apply below_alloc|apply pw_below_drewN|apply below_drew1|refine below_set ?_ GE241.out)|exact HB.out)) hb);clear HO_14;clear HO_15;clear HO266;clear BK241;clear HB;have HO_14:=n0_;have HO_15:=n1_;have HO266:=n2_;have HO270:=n3_;have BK241:=n4_;have HB:=n5_;clear n0_ n1_ n2_ n3_ n4_ n5_;(try clear hb);(try clear hb2);(try clear hk);(try clear hi);(try clear ho0);obtain ⟨Ao54,co54,eo54⟩:=R_slice HO270.out;subst eo54)|((with_reducible refine gate_callee (f:=20) rfl ?_);refine goesL_ (some 70) rfl rfl Try.func20 (by kernel_rfl) rfl #[.slice Ao34 t257.length co34,.slice Ao54 t268.length co54] rfl (by (try simp only [List.map_toArray,List.map_cons,List.map_nil]);first|done|rfl|(simp only [List.length_drop,List.length_take];rfl)) ?_;(with_reducible refine (laws_eqIntA3S.calls kj19 _ _ t257 _ _ t268 false _ ?side1 ?side2 ?side3 ?side4 A42.out).mono ?_);(case side1=>repeat (first|exact (R_reads' HO_15.out).2.2|(with_reducible refine C_alloc ?_ _)|(with_reducible refine C_drewN ?_ _)|(with_reducible refine C_drew ?_)));(case side2=>exact (R_reads' HO_15.out).2.1);(case side3=>repeat (first|exact (R_reads' HO270.out).2.2|(with_reducible refine C_alloc ?_ _)|(with_reducible refine C_drewN ?_ _)|(with_reducible refine C_drew ?_)));(case side4=>exact (R_reads' HO270.out).2.1);rintro e w55 ⟨rfl,hb⟩;refine ⟨_,rfl,?_⟩;have n0_:=Aside0.mk (R_below (by (with_reducible repeat (first|apply R_alloc|apply R_drewN|apply R_drew));exact HO_14.out) hb);have n1_:=Aside0.mk (R_below (by (with_reducible repeat (first|apply R_alloc|apply R_drewN|apply R_drew));exact HO_15.out) hb);have n2_:=Aside0.mk (R_below (by (with_reducible repeat (first|apply R_alloc|apply R_drewN|apply R_drew));exact HO266.out) hb);have n3_:=Aside0.mk (R_below (by (with_reducible repeat (first|apply R_alloc|apply R_drewN|apply R_drew));exact HO270.out) hb);have n4_:=Aside0.mk (blk_below (g:=gb241) (o:=.cells #[.int .i64 a0_0,.bool a0_1] 23 (0,0)) (by (with_reducible repeat (first|apply blk_drewN|apply blk_drew|apply blk_alloc));exact BK241.out) hb);have n5_:=Aside0.mk (below_step (by repeat (first|(with_reducible first|exact HB.out|apply below_alloc|apply pw_below_drewN|apply below_drew1|refine below_set ?_ GE241.out)|exact HB.out)) hb);clear HO_14;clear HO_15;clear HO266;clear HO270;clear BK241;clear HB;have HO_14:=n0_;have HO_15:=n1_;have HO266:=n2_;have HO270:=n3_;have BK241:=n4_;have HB:=n5_;clear n0_ n1_ n2_ n3_ n4_ n5_;(try clear hb);(try clear hb2);(try clear hk);(try clear hi)))
  go_ret
  exact ⟨by first|rfl|(simp [errW_none,errW_some] <;> rfl)|(simp [*,errW_none,errW_some] <;> rfl),by repeat (first|(with_reducible first|exact HB.out|apply below_alloc|apply pw_below_drewN|apply below_drew1|refine below_set ?_ GE241.out)|exact HB.out)⟩


end
end Go.Proofs.Ythagkpoinjpmfaa.QFnExactRelayPrice
