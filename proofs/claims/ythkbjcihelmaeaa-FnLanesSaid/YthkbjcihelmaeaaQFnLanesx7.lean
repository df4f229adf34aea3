/- Functions that the law FnLanes comes to, as Lean functions, with the proof that the Go code does what they say: written by a program of this session over the kit's print. No condition but those named. -/
import Derived.Test.YthkbjcihelmaeaaQFnLanesx0
import Derived.Test.YthkbjcihelmaeaaQFnLanesx6
namespace Go.Proofs.Ythkbjcihelmaeaa.QFnLanes
open Go.RowKit Go.Proofs.YthkbjcihelmaeaaW.PrintWords Go.Proofs.YthkbjcihelmaeaaW.PrintLast Go.Proofs.YthkbjcihelmaeaaW.PrintMore Go.Proofs.Ythkbjcihelmaeaa.Short
attribute [local go_sem] max2_int min2_int max_two min_two max_three min_three max_four min_four   -- for this text's walks alone
set_option linter.unusedVariables false
set_option linter.unusedSimpArgs false

/-! ### spec_l1Cur_lane: function 56 -/
section
open Kd
mutual
def spec_l1Cur_lane.l0 : Nat → List Int → Int → Int → List Int → Int → Int → Option (List Int × Int × Int)
 | 0,_,_,_,_,_,_=>none
 | k + 1,x3,x4,x5,x1000,x1001,x1002=>if x5 > 0 then ((spec_l1Cur_one.f x1000 x1001 x1002 x4).bind fun bt343=>(if bt343.1 = true then (if x3.length < 17592186044416 then (spec_l1Cur_lane.l0 k (x3 ++ [1]) x4 (wrap64 (x5 - 1)) x1000 bt343.2.1 bt343.2.2) else (none)) else (if x3.length < 17592186044416 then (spec_l1Cur_lane.l0 k (x3 ++ [0]) x4 (wrap64 (x5 - 1)) x1000 bt343.2.1 bt343.2.2) else (none)))) else ((spec_l1Cur_one.f x1000 x1001 x1002 3).bind fun bt352=>(if bt352.1 = true then (spec_l1Cur_lane.l1 k x3 0 x1000 bt352.2.1 bt352.2.2) else (spec_l1Cur_lane.j2 k x3 x1000 bt352.2.1 bt352.2.2)))
def spec_l1Cur_lane.j2 : Nat → List Int → List Int → Int → Int → Option (List Int × Int × Int)
 | 0,_,_,_,_=>none
 | k + 1,x3,x1000,x1001,x1002=>(spec_l1Cur_pick.f x1000 x1001 x1002 50).bind fun bt357=>(if bt357.1 = 0 then ((spec_l1Cur_among.f x1000 bt357.2.1 bt357.2.2 (([2,(-1)] : List Int))).bind fun bt363=>(if 0 < (x3.length : Int) then (some ((x3.set (0 : Int).toNat bt363.1),bt363.2.1,bt363.2.2)) else (none))) else (if bt357.1 = 1 then (if 2 ≤ (x3.length : Int) then (some ((x3.take (2 : Int).toNat),bt357.2.1,bt357.2.2)) else (none)) else (if bt357.1 = 2 then (spec_l1Cur_lane.l2 k x3 x1000 bt357.2.1 bt357.2.2) else (some (x3,bt357.2.1,bt357.2.2)))))
def spec_l1Cur_lane.l2 : Nat → List Int → List Int → Int → Int → Option (List Int × Int × Int)
 | 0,_,_,_,_=>none
 | k + 1,x3,x1000,x1001,x1002=>if (x3.length : Int) < 25 then (if x3.length < 17592186044416 then (spec_l1Cur_lane.l2 k (x3 ++ [0]) x1000 x1001 x1002) else (none)) else (some (x3,x1001,x1002))
def spec_l1Cur_lane.l1 : Nat → List Int → Int → List Int → Int → Int → Option (List Int × Int × Int)
 | 0,_,_,_,_,_=>none
 | k + 1,x3,x6,x1000,x1001,x1002=>if x6 < (x3.length : Int) then (if 0 ≤ x6 then (spec_l1Cur_lane.l1 k (x3.set (x6 : Int).toNat (wrap64 (1 - (rd x3 x6)))) (wrap64 (x6 + 1)) x1000 x1001 x1002) else (none)) else (spec_l1Cur_lane.j2 k x3 x1000 x1001 x1002)
end
def spec_l1Cur_lane.f (k : Nat) (s0_0 : List Int) (s0_1 : Int) (s0_2 : Int) : Option (List Int × Int × Int):=(spec_l1Cur_pick.f s0_0 s0_1 s0_2 3).bind fun bt334=>((spec_l1Cur_among.f s0_0 bt334.2.1 bt334.2.2 (([6,8,5,10,3,4,13,24] : List Int))).bind fun bt340=>(spec_l1Cur_lane.l0 k (([] : List Int)) (wrap64 (2 + bt334.1)) bt340.1 s0_0 bt340.2.1 bt340.2.2))
theorem spec_l1Cur_lane.mono_l : ∀ k,(∀ y0 y1 y2 y3 y4 y5,LeO (spec_l1Cur_lane.l0 k y0 y1 y2 y3 y4 y5) (spec_l1Cur_lane.l0 (k + 1) y0 y1 y2 y3 y4 y5)) ∧ (∀ y0 y1 y2 y3,LeO (spec_l1Cur_lane.j2 k y0 y1 y2 y3) (spec_l1Cur_lane.j2 (k + 1) y0 y1 y2 y3)) ∧ (∀ y0 y1 y2 y3,LeO (spec_l1Cur_lane.l2 k y0 y1 y2 y3) (spec_l1Cur_lane.l2 (k + 1) y0 y1 y2 y3)) ∧ (∀ y0 y1 y2 y3 y4,LeO (spec_l1Cur_lane.l1 k y0 y1 y2 y3 y4) (spec_l1Cur_lane.l1 (k + 1) y0 y1 y2 y3 y4))
 | 0=>⟨fun _ _ _ _ _ _ r h=>by simp [spec_l1Cur_lane.l0] at h,fun _ _ _ _ r h=>by simp [spec_l1Cur_lane.j2] at h,fun _ _ _ _ r h=>by simp [spec_l1Cur_lane.l2] at h,fun _ _ _ _ _ r h=>by simp [spec_l1Cur_lane.l1] at h⟩
 | k + 1=>by
  obtain ⟨ih0,ih1,ih2,ih3⟩:=spec_l1Cur_lane.mono_l k
  refine ⟨?_,?_,?_,?_⟩
  ·intro y0 y1 y2 y3 y4 y5
   unfold spec_l1Cur_lane.l0
   repeat' first
   | (with_reducible exact ih0 _ _ _ _ _ _)
   | (with_reducible exact ih1 _ _ _ _)
   | (with_reducible exact ih2 _ _ _ _)
   | (with_reducible exact ih3 _ _ _ _ _)
   | (with_reducible exact LeO.refl _)
   | (with_reducible exact LeO.none _)
   | (with_reducible refine LeO.ite ?_ ?_)
   | (with_reducible refine LeO.bind ?_ (fun _=>?_))
   | exact ih0 _ _ _ _ _ _
   | exact ih1 _ _ _ _
   | exact ih2 _ _ _ _
   | exact ih3 _ _ _ _ _
   | exact LeO.none _
   | refine LeO.ite ?_ ?_
   | refine LeO.bind ?_ (fun _=>?_)
  ·intro y0 y1 y2 y3
   unfold spec_l1Cur_lane.j2
   repeat' first
   | (with_reducible exact ih0 _ _ _ _ _ _)
   | (with_reducible exact ih1 _ _ _ _)
   | (with_reducible exact ih2 _ _ _ _)
   | (with_reducible exact ih3 _ _ _ _ _)
   | (with_reducible exact LeO.refl _)
   | (with_reducible exact LeO.none _)
   | (with_reducible refine LeO.ite ?_ ?_)
   | (with_reducible refine LeO.bind ?_ (fun _=>?_))
   | exact ih0 _ _ _ _ _ _
   | exact ih1 _ _ _ _
   | exact ih2 _ _ _ _
   | exact ih3 _ _ _ _ _
   | exact LeO.none _
   | refine LeO.ite ?_ ?_
   | refine LeO.bind ?_ (fun _=>?_)
  ·intro y0 y1 y2 y3
   unfold spec_l1Cur_lane.l2
   repeat' first
   | (with_reducible exact ih0 _ _ _ _ _ _)
   | (with_reducible exact ih1 _ _ _ _)
   | (with_reducible exact ih2 _ _ _ _)
   | (with_reducible exact ih3 _ _ _ _ _)
   | (with_reducible exact LeO.refl _)
   | (with_reducible exact LeO.none _)
   | (with_reducible refine LeO.ite ?_ ?_)
   | (with_reducible refine LeO.bind ?_ (fun _=>?_))
   | exact ih0 _ _ _ _ _ _
   | exact ih1 _ _ _ _
   | exact ih2 _ _ _ _
   | exact ih3 _ _ _ _ _
   | exact LeO.none _
   | refine LeO.ite ?_ ?_
   | refine LeO.bind ?_ (fun _=>?_)
  ·intro y0 y1 y2 y3 y4
   unfold spec_l1Cur_lane.l1
   repeat' first
   | (with_reducible exact ih0 _ _ _ _ _ _)
   | (with_reducible exact ih1 _ _ _ _)
   | (with_reducible exact ih2 _ _ _ _)
   | (with_reducible exact ih3 _ _ _ _ _)
   | (with_reducible exact LeO.refl _)
   | (with_reducible exact LeO.none _)
   | (with_reducible refine LeO.ite ?_ ?_)
   | (with_reducible refine LeO.bind ?_ (fun _=>?_))
   | exact ih0 _ _ _ _ _ _
   | exact ih1 _ _ _ _
   | exact ih2 _ _ _ _
   | exact ih3 _ _ _ _ _
   | exact LeO.none _
   | refine LeO.ite ?_ ?_
   | refine LeO.bind ?_ (fun _=>?_)
theorem spec_l1Cur_lane.mono : ∀ a0 a1 a2 k,LeO (spec_l1Cur_lane.f k a0 a1 a2) (spec_l1Cur_lane.f (k + 1) a0 a1 a2):=by
 intro a0 a1 a2 k
 obtain ⟨ih0,ih1,ih2,ih3⟩:=spec_l1Cur_lane.mono_l k
 unfold spec_l1Cur_lane.f
 repeat' first
   | (with_reducible exact ih0 _ _ _ _ _ _)
   | (with_reducible exact ih1 _ _ _ _)
   | (with_reducible exact ih2 _ _ _ _)
   | (with_reducible exact ih3 _ _ _ _ _)
   | (with_reducible exact LeO.refl _)
   | (with_reducible exact LeO.none _)
   | (with_reducible refine LeO.ite ?_ ?_)
   | (with_reducible refine LeO.bind ?_ (fun _=>?_))
   | exact ih0 _ _ _ _ _ _
   | exact ih1 _ _ _ _
   | exact ih2 _ _ _ _
   | exact ih3 _ _ _ _ _
   | exact LeO.none _
   | refine LeO.ite ?_ ?_
   | refine LeO.bind ?_ (fun _=>?_)
set_option maxHeartbeats 8000000 in
set_option maxRecDepth 100000 in
theorem spec_l1Cur_lane.calls (k : Nat) (g : Nat) (s0_0 : List Int) (s0_1 : Int) (s0_2 : Int) (r1 : List Int) (r2 : Int) (r3 : Int) (w0 w : World) (hI : IsS52 w0 w g s0_0 s0_1 s0_2) (hB : Below w0.heap.size w0 w) (h : spec_l1Cur_lane.f k s0_0 s0_1 s0_2 = some (r1,r2,r3)) :
  Calls Try.prog 56 #[.pointer (some ⟨g,0,none⟩)] w fun e w'=>∃ v0_ : Value,e = .returned (v0_) ∧ Kd.R (Kd.int .i64) 3 w' w.heap.size (fun _=>True) v0_ r1 ∧ IsS52 w0 w' g s0_0 r2 r3 ∧ Below w0.heap.size w0 w' ∧ KeepBut w w' g none:=by
 have HI0:=Aside0.mk hI
 have HK:=Aside0.mk (KeepBut.refl w g none)
 have HL:=Aside0.mk hB.size
 clear hI
 have HW0:=Aside0.mk hB.size
 have HB:=Aside0.mk hB
 clear hB
 have H : ((spec_l1Cur_pick.f s0_0 s0_1 s0_2 3).bind fun bt334=>((spec_l1Cur_among.f s0_0 bt334.2.1 bt334.2.2 (([6,8,5,10,3,4,13,24] : List Int))).bind fun bt340=>(spec_l1Cur_lane.l0 k (([] : List Int)) (wrap64 (2 + bt334.1)) bt340.1 s0_0 bt340.2.1 bt340.2.2))) = some (r1,r2,r3):=h
 clear h
 obtain ⟨y331,hy331⟩ : ∃ y_ : List Int,y_ = (([] : List Int)):=⟨_,rfl⟩
 replace H : ((spec_l1Cur_pick.f s0_0 s0_1 s0_2 3).bind fun bt334=>((spec_l1Cur_among.f s0_0 bt334.2.1 bt334.2.2 (([6,8,5,10,3,4,13,24] : List Int))).bind fun bt340=>(spec_l1Cur_lane.l0 k y331 (wrap64 (2 + bt334.1)) bt340.1 s0_0 bt340.2.1 bt340.2.2))) = some (r1,r2,r3):=by first|(rw [hy331];with_reducible exact H)|(have H2_:=(Option.bind_some _ _).symm.trans H;rw [hy331];with_reducible exact H2_)|(have H2_:=(Option.bind_some _ _).symm.trans H;with_reducible exact H2_)|with_reducible exact H|(rw [hy331];exact H)|exact H
 have Ny331:=Aside0.mk hy331
 clear hy331
 replace H:=Option.bind_eq_some_iff.mp H
 obtain ⟨⟨t334,t335,t336⟩,A20,H⟩:=H
 replace H : ((spec_l1Cur_among.f s0_0 t335 t336 (([6,8,5,10,3,4,13,24] : List Int))).bind fun bt340=>(spec_l1Cur_lane.l0 k y331 (wrap64 (2 + t334)) bt340.1 s0_0 bt340.2.1 bt340.2.2)) = some (r1,r2,r3):=H
 have A2:=Aside0.mk A20
 clear A20
 obtain ⟨y337,hy337⟩ : ∃ y_ : List Int,y_ = (([6,8,5,10,3,4,13,24] : List Int)):=⟨_,rfl⟩
 replace H : ((spec_l1Cur_among.f s0_0 t335 t336 y337).bind fun bt340=>(spec_l1Cur_lane.l0 k y331 (wrap64 (2 + t334)) bt340.1 s0_0 bt340.2.1 bt340.2.2)) = some (r1,r2,r3):=by first|(rw [hy337];with_reducible exact H)|(have H2_:=(Option.bind_some _ _).symm.trans H;rw [hy337];with_reducible exact H2_)|(have H2_:=(Option.bind_some _ _).symm.trans H;with_reducible exact H2_)|with_reducible exact H|(rw [hy337];exact H)|exact H
 have Ny337:=Aside0.mk hy337
 clear hy337
 replace H:=Option.bind_eq_some_iff.mp H
 obtain ⟨⟨t340,t341,t342⟩,A30,H⟩:=H
 replace H : (spec_l1Cur_lane.l0 k y331 (wrap64 (2 + t334)) t340 s0_0 t341 t342) = some (r1,r2,r3):=H
 have A3:=Aside0.mk A30
 clear A30
 have H':=Aside0.mk H
 clear H
 go_enter Try.func56,Try.ntmps56
 go_wp2_with (first|((with_reducible refine gate_dst (N:=7) rfl ?_);refine R_lit (Kd.int .i64) _ 3 ?hg (N:=7) ?hd (xs:=([] : List Int)) (inner:=[]) (ok:=fun _=>True) (okp:=fun _=>True) ?hr ?hp (fun _ hk=>hk) trivial (Below.refl _ _) (Nat.le_refl _) (by simp) ?_;(case hd=>rfl);(case hg=>rfl);(case hr=>first|(go_simp;done)|(go_simp;rfl));(case hp=>exact (Reps.none _ _));intro v332 w4 ho5 hb hg_ hnew_;clear hg_ hnew_;(first|rw [← Ny331.out] at ho5|(simp only [Int.reduceToNat] at ho5;rw [← Ny331.out] at ho5));have n0_:=Aside0.mk (R_lower ho5 (keep_size (w:=w) (g:=g) (row:=none) (by repeat (first|(with_reducible first|exact HK.out|apply KeepBut.set_|apply keep_drewN|apply keep_drew|apply keep_alloc)|exact HK.out))));have n1_:=Aside0.mk (IsS52.below (by (try simp only [Int.add_zero]);repeat (first|(with_reducible first|exact HI0.out|apply IsS52.alloc|apply IsS52.drewN|apply IsS52.drew|apply IsS52.set_1|apply IsS52.set_2)|exact HI0.out)) hb);have n2_:=Aside0.mk (KeepBut.trans (by repeat (first|(with_reducible first|exact HK.out|apply KeepBut.set_|apply keep_drewN|apply keep_drew|apply keep_alloc)|exact HK.out)) (KeepBut.of_below hb g none) (.inl rfl));have n3_:=Aside0.mk (below_step (by repeat (first|(with_reducible first|exact HB.out|apply below_alloc|apply pw_below_drewN|apply below_drew1|refine below_set ?_ (IsS52.ge HI0.out))|exact HB.out)) hb);clear HI0;clear HK;clear HB;have HO333:=n0_;have HI0:=n1_;have HK:=n2_;have HB:=n3_;clear n0_ n1_ n2_ n3_;clear hb ho5)|((with_reducible refine gate_callee (f:=61) rfl ?_);refine goesL_ (some 9) rfl rfl Try.func61 (by kernel_rfl) rfl #[.pointer (some ⟨g,0,none⟩),.int .i64 3] rfl (by (try simp only [List.map_toArray,List.map_cons,List.map_nil]);first|done|rfl|(simp only [List.length_drop,List.length_take];rfl)) ?_;(with_reducible refine (spec_l1Cur_pick.calls g s0_0 s0_1 s0_2 3 t334 t335 t336 w0 _ ?side1 ?side2 A2.out).mono ?_);(case side1=>repeat (first|(with_reducible first|exact HI0.out|apply IsS52.alloc|apply IsS52.drewN|apply IsS52.drew|apply IsS52.set_1|apply IsS52.set_2)|exact HI0.out));(case side2=>repeat (first|(with_reducible first|exact HB.out|apply below_alloc|apply pw_below_drewN|apply below_drew1|refine below_set ?_ (IsS52.ge HI0.out))|exact HB.out));rintro e w6 ⟨rfl,hi,hb,hk⟩;refine ⟨_,rfl,?_⟩;have n0_:=Aside0.mk (R_mono (R_keep (IsS52.apart (show IsS52 w0 _ g s0_0 s0_1 s0_2 from by (try simp only [Int.add_zero]);repeat (first|(with_reducible first|exact HI0.out|apply IsS52.alloc|apply IsS52.drewN|apply IsS52.drew|apply IsS52.set_1|apply IsS52.set_2)|exact HI0.out)) (rm HO333.out) (by decide)) hk (fun _ h=>h.2)) (fun _ h=>h.1));have n1_:=Aside0.mk (KeepBut.trans (by repeat (first|(with_reducible first|exact HK.out|apply KeepBut.set_|apply keep_drewN|apply keep_drew|apply keep_alloc)|exact HK.out)) hk (.inl rfl));have n2_:=Aside0.mk (hb);have n3_:=Aside0.mk (hi);clear HO333;clear HK;clear HB;clear HI0;have HO333:=n0_;have HK:=n1_;have HB:=n2_;have HI0:=n3_;clear n0_ n1_ n2_ n3_;(try clear hb);(try clear hb2);(try clear hk);(try clear hi))|((with_reducible refine gate_dst (N:=12) rfl ?_);refine R_lit (Kd.int .i64) _ 3 ?hg (N:=12) ?hd (xs:=([6,8,5,10,3,4,13,24] : List Int)) (inner:=[.int .i64 6,.int .i64 8,.int .i64 5,.int .i64 10,.int .i64 3,.int .i64 4,.int .i64 13,.int .i64 24]) (ok:=fun _=>True) (okp:=fun _=>True) ?hr ?hp (fun _ hk=>hk) trivial (Below.refl _ _) (Nat.le_refl _) (by simp) ?_;(case hd=>rfl);(case hg=>rfl);(case hr=>first|(go_simp;done)|(go_simp;rfl));(case hp=>exact (Reps.one (show Kd.M (Kd.int .i64) _ _ _ 6 [.int .i64 6] from rfl) (Reps.one (show Kd.M (Kd.int .i64) _ _ _ 8 [.int .i64 8] from rfl) (Reps.one (show Kd.M (Kd.int .i64) _ _ _ 5 [.int .i64 5] from rfl) (Reps.one (show Kd.M (Kd.int .i64) _ _ _ 10 [.int .i64 10] from rfl) (Reps.one (show Kd.M (Kd.int .i64) _ _ _ 3 [.int .i64 3] from rfl) (Reps.one (show Kd.M (Kd.int .i64) _ _ _ 4 [.int .i64 4] from rfl) (Reps.one (show Kd.M (Kd.int .i64) _ _ _ 13 [.int .i64 13] from rfl) (Reps.one (show Kd.M (Kd.int .i64) _ _ _ 24 [.int .i64 24] from rfl) (Reps.none _ _))))))))));intro v338 w7 ho8 hb hg_ hnew_;clear hg_ hnew_;(first|rw [← Ny337.out] at ho8|(simp only [Int.reduceToNat] at ho8;rw [← Ny337.out] at ho8));have n0_:=Aside0.mk (R_elder' (rm HO333.out) (R_base ho8) hb);have n1_:=Aside0.mk (R_lower (R_new' ho8 (R_lt (rm HO333.out))) (keep_size (w:=w) (g:=g) (row:=none) (by repeat (first|(with_reducible first|exact HK.out|apply KeepBut.set_|apply keep_drewN|apply keep_drew|apply keep_alloc)|exact HK.out))));have n2_:=Aside0.mk (IsS52.below (by (try simp only [Int.add_zero]);repeat (first|(with_reducible first|exact HI0.out|apply IsS52.alloc|apply IsS52.drewN|apply IsS52.drew|apply IsS52.set_1|apply IsS52.set_2)|exact HI0.out)) hb);have n3_:=Aside0.mk (KeepBut.trans (by repeat (first|(with_reducible first|exact HK.out|apply KeepBut.set_|apply keep_drewN|apply keep_drew|apply keep_alloc)|exact HK.out)) (KeepBut.of_below hb g none) (.inl rfl));have n4_:=Aside0.mk (below_step (by repeat (first|(with_reducible first|exact HB.out|apply below_alloc|apply pw_below_drewN|apply below_drew1|refine below_set ?_ (IsS52.ge HI0.out))|exact HB.out)) hb);clear HO333;clear HI0;clear HK;clear HB;have HO333:=n0_;have HO339:=n1_;have HI0:=n2_;have HK:=n3_;have HB:=n4_;clear n0_ n1_ n2_ n3_ n4_;clear hb ho8;obtain ⟨Ao9,co9,eo9⟩:=R_slice HO339.out;subst eo9)|((with_reducible refine gate_callee (f:=62) rfl ?_);refine goesL_ (some 13) rfl rfl Try.func62 (by kernel_rfl) rfl #[.pointer (some ⟨g,0,none⟩),.slice Ao9 y337.length co9] rfl (by (try simp only [List.map_toArray,List.map_cons,List.map_nil]);first|done|rfl|(simp only [List.length_drop,List.length_take];rfl)) ?_;(with_reducible refine (spec_l1Cur_among.calls g s0_0 t335 t336 _ _ y337 t340 t341 t342 w0 _ ?side1 ?side2 ?side3 ?side4 ?side5 A3.out).mono ?_);(case side1=>repeat (first|(with_reducible first|exact HI0.out|apply IsS52.alloc|apply IsS52.drewN|apply IsS52.drew|apply IsS52.set_1|apply IsS52.set_2)|exact HI0.out));(case side2=>repeat (first|(with_reducible first|exact HB.out|apply below_alloc|apply pw_below_drewN|apply below_drew1|refine below_set ?_ (IsS52.ge HI0.out))|exact HB.out));(case side3=>exact cm (R_reads' HO339.out).2.2);(case side4=>exact (R_reads' HO339.out).2.1);(case side5=>exact far_slice (IsS52.own_ne HI0.out HO339.out (by decide)));rintro e w10 ⟨rfl,hi,hb,hk⟩;refine ⟨_,rfl,?_⟩;have n0_:=Aside0.mk (R_mono (R_keep (IsS52.apart (show IsS52 w0 _ g s0_0 t335 t336 from by (try simp only [Int.add_zero]);repeat (first|(with_reducible first|exact HI0.out|apply IsS52.alloc|apply IsS52.drewN|apply IsS52.drew|apply IsS52.set_1|apply IsS52.set_2)|exact HI0.out)) (rm HO333.out) (by decide)) hk (fun _ h=>h.2)) (fun _ h=>h.1));have n1_:=Aside0.mk (R_mono (R_keep (IsS52.apart (show IsS52 w0 _ g s0_0 t335 t336 from by (try simp only [Int.add_zero]);repeat (first|(with_reducible first|exact HI0.out|apply IsS52.alloc|apply IsS52.drewN|apply IsS52.drew|apply IsS52.set_1|apply IsS52.set_2)|exact HI0.out)) (rm HO339.out) (by decide)) hk (fun _ h=>h.2)) (fun _ h=>h.1));have n2_:=Aside0.mk (KeepBut.trans (by repeat (first|(with_reducible first|exact HK.out|apply KeepBut.set_|apply keep_drewN|apply keep_drew|apply keep_alloc)|exact HK.out)) hk (.inl rfl));have n3_:=Aside0.mk (hb);have n4_:=Aside0.mk (hi);clear HO333;clear HO339;clear HK;clear HB;clear HI0;have HO333:=n0_;have HO339:=n1_;have HK:=n2_;have HB:=n3_;have HI0:=n4_;clear n0_ n1_ n2_ n3_ n4_;(try clear hb);(try clear hb2);(try clear hk);(try clear hi)))
 go_loopg [3,5] k (fun kq v3 v5 w'=>∃ (x3_1 : List Int) (x5_1 : Int) (x1001_1 : Int) (x1002_1 : Int),v5 = .int .i64 x5_1 ∧ Aside0 (spec_l1Cur_lane.l0 kq x3_1 (wrap64 (2 + t334)) x5_1 s0_0 x1001_1 x1002_1 = some (r1,r2,r3)) ∧ Aside0 (kq ≤ k) ∧ Aside0 (Kd.R (Kd.int .i64) 3 w' w.heap.size (fun _=>True) v3 x3_1) ∧ Aside0 (IsS52 w0 w' g s0_0 x1001_1 x1002_1) ∧ Aside0 (KeepBut w w' g none) ∧ Aside0 (Below w0.heap.size w0 w'))
 case atStart=>exact ⟨(y331),(t340),(t341),(t342),(by first|rfl|(simp;done)|(simp [*];done)),H',⟨Nat.le_refl _⟩,⟨rm (R_mono HO333.out (fun _ hk=>trivial))⟩,⟨by (try simp only [Int.add_zero]);repeat (first|(with_reducible first|exact HI0.out|apply IsS52.alloc|apply IsS52.drewN|apply IsS52.drew|apply IsS52.set_1|apply IsS52.set_2)|exact HI0.out)⟩,⟨by repeat (first|(with_reducible first|exact HK.out|apply KeepBut.set_|apply keep_drewN|apply keep_drew|apply keep_alloc)|exact HK.out)⟩,⟨by repeat (first|(with_reducible first|exact HB.out|apply below_alloc|apply pw_below_drewN|apply below_drew1|refine below_set ?_ (IsS52.ge HI0.out))|exact HB.out)⟩⟩
 clear H'
 try clear p2
 try clear c5
 try clear c6
 try clear p6
 obtain ⟨x3_1,x5_1,x1001_1,x1002_1,rfl,HA,HK1,HO_3,HI0,HK,HB⟩:=hrel
 cases gk with
 | zero=>exact absurd HA.out (by simp [spec_l1Cur_lane.l0])
 | succ k1 =>
  have H:=HA.out
  clear HA
  simp only [spec_l1Cur_lane.l0] at H
  by_cases c11 : x5_1 > 0
  ·rw [if_pos c11] at H
   have c11b0 : decide (0 < x5_1) = true:=decide_eq_true c11
   clear c11
   replace H:=Option.bind_eq_some_iff.mp H
   obtain ⟨⟨t343,t344,t345⟩,A120,H⟩:=H
   replace H : (if t343 = true then (if x3_1.length < 17592186044416 then (spec_l1Cur_lane.l0 k1 (x3_1 ++ [1]) (wrap64 (2 + t334)) (wrap64 (x5_1 - 1)) s0_0 t344 t345) else (none)) else (if x3_1.length < 17592186044416 then (spec_l1Cur_lane.l0 k1 (x3_1 ++ [0]) (wrap64 (2 + t334)) (wrap64 (x5_1 - 1)) s0_0 t344 t345) else (none))) = some (r1,r2,r3):=H
   have A12:=Aside0.mk A120
   clear A120
   by_cases c13 : t343 = true
   ·subst c13
    have H1 : (if x3_1.length < 17592186044416 then (spec_l1Cur_lane.l0 k1 (x3_1 ++ [1]) (wrap64 (2 + t334)) (wrap64 (x5_1 - 1)) s0_0 t344 t345) else (none)) = some (r1,r2,r3):=by rw [if_pos rfl] at H;exact H
    clear H
    have H:=H1
    clear H1
    by_cases c14 : x3_1.length < 17592186044416
    rotate_left
    ·rw [if_neg c14] at H
     exact absurd H (by simp)
    rw [if_pos c14] at H
    have LMc14:=Aside0.mk c14
    clear c14
    obtain ⟨y346,hy346⟩ : ∃ y_ : List Int,y_ = (x3_1 ++ [1]):=⟨_,rfl⟩
    replace H : (spec_l1Cur_lane.l0 k1 y346 (wrap64 (2 + t334)) (wrap64 (x5_1 - 1)) s0_0 t344 t345) = some (r1,r2,r3):=by first|(rw [hy346];with_reducible exact H)|(have H2_:=(Option.bind_some _ _).symm.trans H;rw [hy346];with_reducible exact H2_)|(have H2_:=(Option.bind_some _ _).symm.trans H;with_reducible exact H2_)|with_reducible exact H|(rw [hy346];exact H)|exact H
    have Ny346:=Aside0.mk hy346
    clear hy346
    have H':=Aside0.mk H
    clear H
    go_wp2_with (first|((with_reducible refine gate_callee (f:=63) rfl ?_);refine goesL_ (some 20) rfl rfl Try.func63 (by kernel_rfl) rfl #[.pointer (some ⟨g,0,none⟩),.int .i64 (wrap64 (2 + t334))] rfl (by (try simp only [List.map_toArray,List.map_cons,List.map_nil]);first|done|rfl|(simp only [List.length_drop,List.length_take];rfl)) ?_;(with_reducible refine (spec_l1Cur_one.calls g s0_0 x1001_1 x1002_1 (wrap64 (2 + t334)) true t344 t345 w0 _ ?side1 ?side2 A12.out).mono ?_);(case side1=>repeat (first|(with_reducible first|exact HI0.out|apply IsS52.alloc|apply IsS52.drewN|apply IsS52.drew|apply IsS52.set_1|apply IsS52.set_2)|exact HI0.out));(case side2=>repeat (first|(with_reducible first|exact HB.out|apply below_alloc|apply pw_below_drewN|apply below_drew1|refine below_set ?_ (IsS52.ge HI0.out))|exact HB.out));rintro e w15 ⟨rfl,hi,hb,hk⟩;refine ⟨_,rfl,?_⟩;have n0_:=Aside0.mk (R_mono (R_keep (IsS52.apart (show IsS52 w0 _ g s0_0 x1001_1 x1002_1 from by (try simp only [Int.add_zero]);repeat (first|(with_reducible first|exact HI0.out|apply IsS52.alloc|apply IsS52.drewN|apply IsS52.drew|apply IsS52.set_1|apply IsS52.set_2)|exact HI0.out)) (rm HO_3.out) (by decide)) hk (fun _ h=>h.2)) (fun _ h=>h.1));have n1_:=Aside0.mk (KeepBut.trans (by repeat (first|(with_reducible first|exact HK.out|apply KeepBut.set_|apply keep_drewN|apply keep_drew|apply keep_alloc)|exact HK.out)) hk (.inl rfl));have n2_:=Aside0.mk (hb);have n3_:=Aside0.mk (hi);clear HO_3;clear HK;clear HB;clear HI0;have HO_3:=n0_;have HK:=n1_;have HB:=n2_;have HI0:=n3_;clear n0_ n1_ n2_ n3_;(try clear hb);(try clear hb2);(try clear hk);(try clear hi))|((with_reducible refine gate_builtin (b:=.append) (xs:=#[.tmp 21,.tmp 22]) rfl ?_);at_builtin;refine R_append (Kd.int .i64) w.heap.size rfl (.tmp 21) (.tmp 22) 22 3 (.int .i64 0) 8 rfl Try.underlying22 info3 rfl (by decide) (by omega) u3 x3_1 1 [.int .i64 1] (fun _=>True) (fun _=>False) rfl rfl ?aP (fun _ hk=>hk.elim) ?aF ?aO (Below.refl _ _) ?aS ?aL ?_;(case aP=>exact rfl);(case aF=>exact (fun _ _=>trivial));(case aO=>exact (rm HO_3.out));(case aS=>exact (keep_size (w:=w) (g:=g) (row:=none) (by repeat (first|(with_reducible first|exact HK.out|apply KeepBut.set_|apply keep_drewN|apply keep_drew|apply keep_alloc)|exact HK.out))));(case aL=>have:=LMc14.out;omega);intro v347 w16 ho hb hg hat;rw [← Ny346.out] at ho;have n0_:=Aside0.mk (IsS52.grown (by (try simp only [Int.add_zero]);repeat (first|(with_reducible first|exact HI0.out|apply IsS52.alloc|apply IsS52.drewN|apply IsS52.drew|apply IsS52.set_1|apply IsS52.set_2)|exact HI0.out)) hg (IsS52.own_ne HI0.out HO_3.out (by decide)));have n1_:=Aside0.mk (below_weaken (by repeat (first|(with_reducible first|exact HB.out|apply below_alloc|apply pw_below_drewN|apply below_drew1|refine below_set ?_ (IsS52.ge HI0.out))|exact HB.out)) HL.out hb);have n2_:=Aside0.mk (KeepBut.trans (by repeat (first|(with_reducible first|exact HK.out|apply KeepBut.set_|apply keep_drewN|apply keep_drew|apply keep_alloc)|exact HK.out)) (KeepBut.of_grown hg g) (R_base2 HO_3.out));have n3_:=Aside0.mk (ho);clear HI0;clear HB;clear HK;clear HO_3;have HI0:=n0_;have HB:=n1_;have HK:=n2_;have HO348:=n3_;clear n0_ n1_ n2_ n3_;clear ho hb hg hat))
    go_roundg k1
    case measure=>have:=HK1.out;omega
    case rel=>exact ⟨(y346),(wrap64 (x5_1 - 1)),(t344),(t345),(by first|rfl|(simp;done)|(simp [*];done)),H',⟨by have:=HK1.out;omega⟩,⟨rm HO348.out⟩,⟨by (try simp only [Int.add_zero]);repeat (first|(with_reducible first|exact HI0.out|apply IsS52.alloc|apply IsS52.drewN|apply IsS52.drew|apply IsS52.set_1|apply IsS52.set_2)|exact HI0.out)⟩,⟨by repeat (first|(with_reducible first|exact HK.out|apply KeepBut.set_|apply keep_drewN|apply keep_drew|apply keep_alloc)|exact HK.out)⟩,⟨by repeat (first|(with_reducible first|exact HB.out|apply below_alloc|apply pw_below_drewN|apply below_drew1|refine below_set ?_ (IsS52.ge HI0.out))|exact HB.out)⟩⟩
   replace c13:=Bool.eq_false_iff.mpr c13
   subst c13
   have H1 : (if x3_1.length < 17592186044416 then (spec_l1Cur_lane.l0 k1 (x3_1 ++ [0]) (wrap64 (2 + t334)) (wrap64 (x5_1 - 1)) s0_0 t344 t345) else (none)) = some (r1,r2,r3):=by rw [if_neg (show ¬ (false = true) by decide)] at H;exact H
   clear H
   have H:=H1
   clear H1
   by_cases c17 : x3_1.length < 17592186044416
   rotate_left
   ·rw [if_neg c17] at H
    exact absurd H (by simp)
   rw [if_pos c17] at H
   have LMc17:=Aside0.mk c17
   clear c17
   obtain ⟨y349,hy349⟩ : ∃ y_ : List Int,y_ = (x3_1 ++ [0]):=⟨_,rfl⟩
   replace H : (spec_l1Cur_lane.l0 k1 y349 (wrap64 (2 + t334)) (wrap64 (x5_1 - 1)) s0_0 t344 t345) = some (r1,r2,r3):=by first|(rw [hy349];with_reducible exact H)|(have H2_:=(Option.bind_some _ _).symm.trans H;rw [hy349];with_reducible exact H2_)|(have H2_:=(Option.bind_some _ _).symm.trans H;with_reducible exact H2_)|with_reducible exact H|(rw [hy349];exact H)|exact H
   have Ny349:=Aside0.mk hy349
   clear hy349
   have H':=Aside0.mk H
   clear H
   go_wp2_with (first|((with_reducible refine gate_callee (f:=63) rfl ?_);refine goesL_ (some 20) rfl rfl Try.func63 (by kernel_rfl) rfl #[.pointer (some ⟨g,0,none⟩),.int .i64 (wrap64 (2 + t334))] rfl (by (try simp only [List.map_toArray,List.map_cons,List.map_nil]);first|done|rfl|(simp only [List.length_drop,List.length_take];rfl)) ?_;(with_reducible refine (spec_l1Cur_one.calls g s0_0 x1001_1 x1002_1 (wrap64 (2 + t334)) false t344 t345 w0 _ ?side1 ?side2 A12.out).mono ?_);(case side1=>repeat (first|(with_reducible first|exact HI0.out|apply IsS52.alloc|apply IsS52.drewN|apply IsS52.drew|apply IsS52.set_1|apply IsS52.set_2)|exact HI0.out));(case side2=>repeat (first|(with_reducible first|exact HB.out|apply below_alloc|apply pw_below_drewN|apply below_drew1|refine below_set ?_ (IsS52.ge HI0.out))|exact HB.out));rintro e w18 ⟨rfl,hi,hb,hk⟩;refine ⟨_,rfl,?_⟩;have n0_:=Aside0.mk (R_mono (R_keep (IsS52.apart (show IsS52 w0 _ g s0_0 x1001_1 x1002_1 from by (try simp only [Int.add_zero]);repeat (first|(with_reducible first|exact HI0.out|apply IsS52.alloc|apply IsS52.drewN|apply IsS52.drew|apply IsS52.set_1|apply IsS52.set_2)|exact HI0.out)) (rm HO_3.out) (by decide)) hk (fun _ h=>h.2)) (fun _ h=>h.1));have n1_:=Aside0.mk (KeepBut.trans (by repeat (first|(with_reducible first|exact HK.out|apply KeepBut.set_|apply keep_drewN|apply keep_drew|apply keep_alloc)|exact HK.out)) hk (.inl rfl));have n2_:=Aside0.mk (hb);have n3_:=Aside0.mk (hi);clear HO_3;clear HK;clear HB;clear HI0;have HO_3:=n0_;have HK:=n1_;have HB:=n2_;have HI0:=n3_;clear n0_ n1_ n2_ n3_;(try clear hb);(try clear hb2);(try clear hk);(try clear hi))|((with_reducible refine gate_builtin (b:=.append) (xs:=#[.tmp 24,.tmp 25]) rfl ?_);at_builtin;refine R_append (Kd.int .i64) w.heap.size rfl (.tmp 24) (.tmp 25) 22 3 (.int .i64 0) 8 rfl Try.underlying22 info3 rfl (by decide) (by omega) u3 x3_1 0 [.int .i64 0] (fun _=>True) (fun _=>False) rfl rfl ?aP (fun _ hk=>hk.elim) ?aF ?aO (Below.refl _ _) ?aS ?aL ?_;(case aP=>exact rfl);(case aF=>exact (fun _ _=>trivial));(case aO=>exact (rm HO_3.out));(case aS=>exact (keep_size (w:=w) (g:=g) (row:=none) (by repeat (first|(with_reducible first|exact HK.out|apply KeepBut.set_|apply keep_drewN|apply keep_drew|apply keep_alloc)|exact HK.out))));(case aL=>have:=LMc17.out;omega);intro v350 w19 ho hb hg hat;rw [← Ny349.out] at ho;have n0_:=Aside0.mk (IsS52.grown (by (try simp only [Int.add_zero]);repeat (first|(with_reducible first|exact HI0.out|apply IsS52.alloc|apply IsS52.drewN|apply IsS52.drew|apply IsS52.set_1|apply IsS52.set_2)|exact HI0.out)) hg (IsS52.own_ne HI0.out HO_3.out (by decide)));have n1_:=Aside0.mk (below_weaken (by repeat (first|(with_reducible first|exact HB.out|apply below_alloc|apply pw_below_drewN|apply below_drew1|refine below_set ?_ (IsS52.ge HI0.out))|exact HB.out)) HL.out hb);have n2_:=Aside0.mk (KeepBut.trans (by repeat (first|(with_reducible first|exact HK.out|apply KeepBut.set_|apply keep_drewN|apply keep_drew|apply keep_alloc)|exact HK.out)) (KeepBut.of_grown hg g) (R_base2 HO_3.out));have n3_:=Aside0.mk (ho);clear HI0;clear HB;clear HK;clear HO_3;have HI0:=n0_;have HB:=n1_;have HK:=n2_;have HO351:=n3_;clear n0_ n1_ n2_ n3_;clear ho hb hg hat))
   go_roundg k1
   case measure=>have:=HK1.out;omega
   case rel=>exact ⟨(y349),(wrap64 (x5_1 - 1)),(t344),(t345),(by first|rfl|(simp;done)|(simp [*];done)),H',⟨by have:=HK1.out;omega⟩,⟨rm HO351.out⟩,⟨by (try simp only [Int.add_zero]);repeat (first|(with_reducible first|exact HI0.out|apply IsS52.alloc|apply IsS52.drewN|apply IsS52.drew|apply IsS52.set_1|apply IsS52.set_2)|exact HI0.out)⟩,⟨by repeat (first|(with_reducible first|exact HK.out|apply KeepBut.set_|apply keep_drewN|apply keep_drew|apply keep_alloc)|exact HK.out)⟩,⟨by repeat (first|(with_reducible first|exact HB.out|apply below_alloc|apply pw_below_drewN|apply below_drew1|refine below_set ?_ (IsS52.ge HI0.out))|exact HB.out)⟩⟩
  rw [if_neg c11] at H
  have c11b0 : decide (0 < x5_1) = false:=decide_eq_false c11
  clear c11
  replace H:=Option.bind_eq_some_iff.mp H
  obtain ⟨⟨t352,t353,t354⟩,A200,H⟩:=H
  replace H : (if t352 = true then (spec_l1Cur_lane.l1 k1 x3_1 0 s0_0 t353 t354) else (spec_l1Cur_lane.j2 k1 x3_1 s0_0 t353 t354)) = some (r1,r2,r3):=H
  have A20:=Aside0.mk A200
  clear A200
  have HC21:=Aside0.mk H
  clear H
  go_upto_if 28 with (first|((with_reducible refine gate_callee (f:=63) rfl ?_);refine goesL_ (some 28) rfl rfl Try.func63 (by kernel_rfl) rfl #[.pointer (some ⟨g,0,none⟩),.int .i64 3] rfl (by (try simp only [List.map_toArray,List.map_cons,List.map_nil]);first|done|rfl|(simp only [List.length_drop,List.length_take];rfl)) ?_;(with_reducible refine (spec_l1Cur_one.calls g s0_0 x1001_1 x1002_1 3 t352 t353 t354 w0 _ ?side1 ?side2 A20.out).mono ?_);(case side1=>repeat (first|(with_reducible first|exact HI0.out|apply IsS52.alloc|apply IsS52.drewN|apply IsS52.drew|apply IsS52.set_1|apply IsS52.set_2)|exact HI0.out));(case side2=>repeat (first|(with_reducible first|exact HB.out|apply below_alloc|apply pw_below_drewN|apply below_drew1|refine below_set ?_ (IsS52.ge HI0.out))|exact HB.out));rintro e w22 ⟨rfl,hi,hb,hk⟩;refine ⟨_,rfl,?_⟩;have n0_:=Aside0.mk (R_mono (R_keep (IsS52.apart (show IsS52 w0 _ g s0_0 x1001_1 x1002_1 from by (try simp only [Int.add_zero]);repeat (first|(with_reducible first|exact HI0.out|apply IsS52.alloc|apply IsS52.drewN|apply IsS52.drew|apply IsS52.set_1|apply IsS52.set_2)|exact HI0.out)) (rm HO_3.out) (by decide)) hk (fun _ h=>h.2)) (fun _ h=>h.1));have n1_:=Aside0.mk (KeepBut.trans (by repeat (first|(with_reducible first|exact HK.out|apply KeepBut.set_|apply keep_drewN|apply keep_drew|apply keep_alloc)|exact HK.out)) hk (.inl rfl));have n2_:=Aside0.mk (hb);have n3_:=Aside0.mk (hi);clear HO_3;clear HK;clear HB;clear HI0;have HO_3:=n0_;have HK:=n1_;have HB:=n2_;have HI0:=n3_;clear n0_ n1_ n2_ n3_;(try clear hb);(try clear hb2);(try clear hk);(try clear hi)))
  (try simp only [ap])
  go_cut [] (fun wc=>∃ (kq : Nat) (x3_20 : List Int),Aside0 (spec_l1Cur_lane.j2 kq x3_20 s0_0 t353 t354 = some (r1,r2,r3)) ∧ Aside0 (kq ≤ k1) ∧ Aside0 (Kd.R (Kd.int .i64) 3 wc w.heap.size (fun _=>True) u3 x3_20) ∧ Aside0 (IsS52 w0 wc g s0_0 t353 t354) ∧ Aside0 (KeepBut w wc g none) ∧ Aside0 (Below w0.heap.size w0 wc))
  case first =>
   have H:=HC21.out
   clear HC21
   by_cases c23 : t352 = true
   rotate_left
   ·replace c23:=Bool.eq_false_iff.mpr c23
    subst c23
    have H1 : (spec_l1Cur_lane.j2 k1 x3_1 s0_0 t353 t354) = some (r1,r2,r3):=by rw [if_neg (show ¬ (false = true) by decide)] at H;exact H
    clear H
    have H:=H1
    clear H1
    have H':=Aside0.mk H
    clear H
    go_wp2
    go_meet
    case rel=>exact ⟨_,(x3_1),H',⟨by have:=HK1.out;first|omega|exact Nat.le_refl _⟩,⟨rm HO_3.out⟩,⟨by (try simp only [Int.add_zero]);repeat (first|(with_reducible first|exact HI0.out|apply IsS52.alloc|apply IsS52.drewN|apply IsS52.drew|apply IsS52.set_1|apply IsS52.set_2)|exact HI0.out)⟩,⟨by repeat (first|(with_reducible first|exact HK.out|apply KeepBut.set_|apply keep_drewN|apply keep_drew|apply keep_alloc)|exact HK.out)⟩,⟨by repeat (first|(with_reducible first|exact HB.out|apply below_alloc|apply pw_below_drewN|apply below_drew1|refine below_set ?_ (IsS52.ge HI0.out))|exact HB.out)⟩⟩
   subst c23
   have H1 : (spec_l1Cur_lane.l1 k1 x3_1 0 s0_0 t353 t354) = some (r1,r2,r3):=by rw [if_pos rfl] at H;exact H
   clear H
   have H:=H1
   clear H1
   have H':=Aside0.mk H
   clear H
   go_wp2
   go_loopg [6] k1 (fun kq v6 w'=>∃ (x3_2 : List Int) (x6_2 : Int),v6 = .int .i64 x6_2 ∧ Aside0 (spec_l1Cur_lane.l1 kq x3_2 x6_2 s0_0 t353 t354 = some (r1,r2,r3)) ∧ Aside0 (kq ≤ k1) ∧ Aside0 (Kd.R (Kd.int .i64) 3 w' w.heap.size (fun _=>True) u3 x3_2) ∧ Aside0 (IsS52 w0 w' g s0_0 t353 t354) ∧ Aside0 (KeepBut w w' g none) ∧ Aside0 (Below w0.heap.size w0 w'))
   case atStart=>exact ⟨(x3_1),(0),(by first|rfl|(simp;done)|(simp [*];done)),H',⟨Nat.le_refl _⟩,⟨rm HO_3.out⟩,⟨by (try simp only [Int.add_zero]);repeat (first|(with_reducible first|exact HI0.out|apply IsS52.alloc|apply IsS52.drewN|apply IsS52.drew|apply IsS52.set_1|apply IsS52.set_2)|exact HI0.out)⟩,⟨by repeat (first|(with_reducible first|exact HK.out|apply KeepBut.set_|apply keep_drewN|apply keep_drew|apply keep_alloc)|exact HK.out)⟩,⟨by repeat (first|(with_reducible first|exact HB.out|apply below_alloc|apply pw_below_drewN|apply below_drew1|refine below_set ?_ (IsS52.ge HI0.out))|exact HB.out)⟩⟩
   clear H'
   try clear c1
   try clear c2
   try clear p2
   try clear c5
   try clear c6
   try clear p6
   try clear c11
   try clear c11b0
   try clear c13
   try clear c14
   try clear c17
   try clear c23
   try clear p2
   try clear p6
   obtain ⟨x3_2,x6_2,rfl,HA,HK2,HO_3,HI0,HK,HB⟩:=hrel
   cases gk with
   | zero=>exact absurd HA.out (by simp [spec_l1Cur_lane.l1])
   | succ k2 =>
    have H:=HA.out
    clear HA
    simp only [spec_l1Cur_lane.l1] at H
    by_cases c24 : x6_2 < (x3_2.length : Int)
    rotate_left
    ·rw [if_neg c24] at H
     have c24b0 : decide (x6_2 < (x3_2.length : Int)) = false:=decide_eq_false c24
     clear c24
     (first|rw [c24b0]|(simp only [i64_w,i32_w];rw [c24b0])|skip)
     have H':=Aside0.mk H
     clear H
     obtain ⟨Ao30,co30,eo30⟩:=R_slice HO_3.out
     subst eo30
     go_wp2
     go_meet
     case rel=>exact ⟨_,(x3_2),H',⟨by have:=HK1.out;have:=HK2.out;first|omega|exact Nat.le_refl _⟩,⟨rm HO_3.out⟩,⟨by (try simp only [Int.add_zero]);repeat (first|(with_reducible first|exact HI0.out|apply IsS52.alloc|apply IsS52.drewN|apply IsS52.drew|apply IsS52.set_1|apply IsS52.set_2)|exact HI0.out)⟩,⟨by repeat (first|(with_reducible first|exact HK.out|apply KeepBut.set_|apply keep_drewN|apply keep_drew|apply keep_alloc)|exact HK.out)⟩,⟨by repeat (first|(with_reducible first|exact HB.out|apply below_alloc|apply pw_below_drewN|apply below_drew1|refine below_set ?_ (IsS52.ge HI0.out))|exact HB.out)⟩⟩
    rw [if_pos c24] at H
    have c24b0 : decide (x6_2 < (x3_2.length : Int)) = true:=decide_eq_true c24
    clear c24
    (first|rw [c24b0]|(simp only [i64_w,i32_w];rw [c24b0])|skip)
    by_cases c25 : 0 ≤ x6_2
    rotate_left
    ·rw [if_neg c25] at H
     exact absurd H (by simp)
    rw [if_pos c25] at H
    have c25b0 : decide (0 ≤ x6_2) = true:=decide_eq_true c25
    clear c25
    obtain ⟨y356,hy356⟩ : ∃ y_ : List Int,y_ = (x3_2.set (x6_2 : Int).toNat (wrap64 (1 - (rd x3_2 x6_2)))):=⟨_,rfl⟩
    replace H : (spec_l1Cur_lane.l1 k2 y356 (wrap64 (x6_2 + 1)) s0_0 t353 t354) = some (r1,r2,r3):=by first|(rw [hy356];with_reducible exact H)|(have H2_:=(Option.bind_some _ _).symm.trans H;rw [hy356];with_reducible exact H2_)|(have H2_:=(Option.bind_some _ _).symm.trans H;with_reducible exact H2_)|with_reducible exact H|(rw [hy356];exact H)|exact H
    have Ny356:=Aside0.mk hy356
    clear hy356
    have H':=Aside0.mk H
    clear H
    obtain ⟨Ao27,co27,eo27⟩:=R_slice HO_3.out
    subst eo27
    have p355 : 0 ≤ (x6_2 : Int):=od
    have q355 : x6_2 < (x3_2.length : Int):=od
    obtain ⟨ad355,e355,hx355_0⟩:=Kd.at_int (R_reads' HO_3.out).2.2 x6_2 p355 q355
    cases e355
    replace p355:=eq_true p355
    replace q355:=eq_true q355
    have p26 : 0 ≤ (x6_2 : Int):=od
    have q26 : (x6_2 : Int) < ((x3_2.length : Int) : Int):=od
    obtain ⟨go26,co26,eo26,gb26,gl26,cl26,HG26⟩:=R_form HO_3.out (by omega)
    (first|cases eo26|(injection eo26 with ea_ en_ ec_;(first|subst ea_|(injection ea_ with ea_;subst ea_));subst ec_;clear en_))
    have GB26:=Aside0.mk gb26
    have GG26:=Aside0.mk HG26
    clear gb26 gl26 HG26
    (first|simp only [add_plain] at hx355_0|skip)
    obtain ⟨hx26_0,hf26_0⟩:=R_celln 0 HO_3.out (x6_2 : Int) p26 q26
    replace p26:=eq_true p26
    replace q26:=eq_true q26
    have HP28:=R_putg HO_3.out (x6_2 : Int) (wrap64 (1 - (rd x3_2 x6_2)))
    go_wp2_with (first|((with_reducible refine gate_store (t:=3) (p:=42) rfl ?_);refine store_event (t:=3) (p:=42) (v:=?vo_w29) (w1:=(wr.setCell ⟨go26,(x6_2 : Int).toNat,none⟩ (.int .i64 (wrap64 (1 - (rd x3_2 x6_2)))))) ?hg ?ho ?hn ?hr ?_;(case ho=>rfl);(case hg=>rfl);(case hn=>rfl);(case hr=>first|(go_simp;done)|(go_simp;rfl));intro w29 hw;have hg : wr.grownBy w29 (some go26):=(by rw [hw];exact HP28.2);have hp_ : Kd.R (Kd.int .i64) 3 w29 w.heap.size (fun _=>True) (.slice (some ⟨go26,0,none⟩) x3_2.length co27) y356:=(by rw [hw,Ny356.out];exact HP28.1);clear HP28;have n0_:=Aside0.mk (hp_);have n1_:=Aside0.mk (IsS52.grown (by (try simp only [Int.add_zero]);repeat (first|(with_reducible first|exact HI0.out|apply IsS52.alloc|apply IsS52.drewN|apply IsS52.drew|apply IsS52.set_1|apply IsS52.set_2)|exact HI0.out)) hg (IsS52.own_ne HI0.out HO_3.out (by decide)));have n2_:=Aside0.mk ((by rw [hw];exact below_set (HB.out) (Nat.le_trans HL.out GB26.out) : Below w0.heap.size w0 w29));have n3_:=Aside0.mk (KeepBut.trans (by repeat (first|(with_reducible first|exact HK.out|apply KeepBut.set_|apply keep_drewN|apply keep_drew|apply keep_alloc)|exact HK.out)) (KeepBut.of_grown hg g) (R_base2 HO_3.out));clear HO_3;clear HI0;clear HB;clear HK;have HO_3:=n0_;have HI0:=n1_;have HB:=n2_;have HK:=n3_;clear n0_ n1_ n2_ n3_;clear hg hw hp_))
    go_roundg k2
    case measure=>have:=HK1.out;have:=HK2.out;omega
    case rel=>exact ⟨(y356),(wrap64 (x6_2 + 1)),(by first|rfl|(simp;done)|(simp [*];done)),H',⟨by have:=HK1.out;have:=HK2.out;omega⟩,⟨rm HO_3.out⟩,⟨by (try simp only [Int.add_zero]);repeat (first|(with_reducible first|exact HI0.out|apply IsS52.alloc|apply IsS52.drewN|apply IsS52.drew|apply IsS52.set_1|apply IsS52.set_2)|exact HI0.out)⟩,⟨by repeat (first|(with_reducible first|exact HK.out|apply KeepBut.set_|apply keep_drewN|apply keep_drew|apply keep_alloc)|exact HK.out)⟩,⟨by repeat (first|(with_reducible first|exact HB.out|apply below_alloc|apply pw_below_drewN|apply below_drew1|refine below_set ?_ (IsS52.ge HI0.out))|exact HB.out)⟩⟩
  clear HC21
  try clear c1
  try clear c2
  try clear p2
  try clear q2
  try clear hx2
  try clear hf2
  try clear p3
  try clear q3
  try clear hx3
  try clear c5
  try clear c6
  try clear p6
  try clear c11
  try clear c11b0
  try clear c13
  try clear c14
  try clear c17
  try clear c23
  try clear c24
  try clear c24b0
  try clear c25
  try clear c25b0
  try clear p26
  try clear q26
  try clear hx26
  try clear hf26
  try clear hx26_0
  try clear hx355_0
  try clear p2
  try clear p26
  try clear p355
  try clear p6
  try clear q26
  try clear q355
  obtain ⟨kq,x3_20,HA,HJ20,HO_3,HI0,HK,HB⟩:=hcut
  cases kq with
  | zero=>exact absurd HA.out (by simp [spec_l1Cur_lane.j2])
  | succ kj20 =>
   have H:=HA.out
   clear HA
   simp only [spec_l1Cur_lane.j2] at H
   replace H:=Option.bind_eq_some_iff.mp H
   obtain ⟨⟨t357,t358,t359⟩,A310,H⟩:=H
   replace H : (if t357 = 0 then ((spec_l1Cur_among.f s0_0 t358 t359 (([2,(-1)] : List Int))).bind fun bt363=>(if 0 < (x3_20.length : Int) then (some ((x3_20.set (0 : Int).toNat bt363.1),bt363.2.1,bt363.2.2)) else (none))) else (if t357 = 1 then (if 2 ≤ (x3_20.length : Int) then (some ((x3_20.take (2 : Int).toNat),t358,t359)) else (none)) else (if t357 = 2 then (spec_l1Cur_lane.l2 kj20 x3_20 s0_0 t358 t359) else (some (x3_20,t358,t359))))) = some (r1,r2,r3):=H
   have A31:=Aside0.mk A310
   clear A310
   by_cases c32 : t357 = 0
   ·rw [if_pos c32] at H
    have c32b0 : (t357 == 0) = true:=beq_iff_eq.mpr c32
    have c32b1 : (t357 != 0) = false:=bne_eq_false_iff_eq.mpr c32
    clear c32
    obtain ⟨y360,hy360⟩ : ∃ y_ : List Int,y_ = (([2,(-1)] : List Int)):=⟨_,rfl⟩
    replace H : ((spec_l1Cur_among.f s0_0 t358 t359 y360).bind fun bt363=>(if 0 < (x3_20.length : Int) then (some ((x3_20.set (0 : Int).toNat bt363.1),bt363.2.1,bt363.2.2)) else (none))) = some (r1,r2,r3):=by first|(rw [hy360];with_reducible exact H)|(have H2_:=(Option.bind_some _ _).symm.trans H;rw [hy360];with_reducible exact H2_)|(have H2_:=(Option.bind_some _ _).symm.trans H;with_reducible exact H2_)|with_reducible exact H|(rw [hy360];exact H)|exact H
    have Ny360:=Aside0.mk hy360
    clear hy360
    replace H:=Option.bind_eq_some_iff.mp H
    obtain ⟨⟨t363,t364,t365⟩,A330,H⟩:=H
    replace H : (if 0 < (x3_20.length : Int) then (some ((x3_20.set (0 : Int).toNat t363),t364,t365)) else (none)) = some (r1,r2,r3):=H
    have A33:=Aside0.mk A330
    clear A330
    by_cases c34 : 0 < (x3_20.length : Int)
    rotate_left
    ·rw [if_neg c34] at H
     exact absurd H (by simp)
    rw [if_pos c34] at H
    have c34b0 : decide (0 < (x3_20.length : Int)) = true:=decide_eq_true c34
    have c34b1 : decide (0 < x3_20.length) = true:=decide_eq_true (by omega)
    clear c34
    obtain ⟨y366,hy366⟩ : ∃ y_ : List Int,y_ = (x3_20.set (0 : Int).toNat t363):=⟨_,rfl⟩
    replace H : (some (y366,t364,t365)) = some (r1,r2,r3):=by first|(rw [hy366];with_reducible exact H)|(have H2_:=(Option.bind_some _ _).symm.trans H;rw [hy366];with_reducible exact H2_)|(have H2_:=(Option.bind_some _ _).symm.trans H;with_reducible exact H2_)|with_reducible exact H|(rw [hy366];exact H)|exact H
    have Ny366:=Aside0.mk hy366
    clear hy366
    simp only [Option.some.injEq,Prod.mk.injEq] at H
    obtain ⟨rfl,rfl,rfl⟩:=H
    go_wp2_with (first|((with_reducible refine gate_callee (f:=61) rfl ?_);refine goesL_ (some 44) rfl rfl Try.func61 (by kernel_rfl) rfl #[.pointer (some ⟨g,0,none⟩),.int .i64 50] rfl (by (try simp only [List.map_toArray,List.map_cons,List.map_nil]);first|done|rfl|(simp only [List.length_drop,List.length_take];rfl)) ?_;(with_reducible refine (spec_l1Cur_pick.calls g s0_0 t353 t354 50 t357 t358 t359 w0 _ ?side1 ?side2 A31.out).mono ?_);(case side1=>repeat (first|(with_reducible first|exact HI0.out|apply IsS52.alloc|apply IsS52.drewN|apply IsS52.drew|apply IsS52.set_1|apply IsS52.set_2)|exact HI0.out));(case side2=>repeat (first|(with_reducible first|exact HB.out|apply below_alloc|apply pw_below_drewN|apply below_drew1|refine below_set ?_ (IsS52.ge HI0.out))|exact HB.out));rintro e w36 ⟨rfl,hi,hb,hk⟩;refine ⟨_,rfl,?_⟩;have n0_:=Aside0.mk (R_mono (R_keep (IsS52.apart (show IsS52 w0 _ g s0_0 t353 t354 from by (try simp only [Int.add_zero]);repeat (first|(with_reducible first|exact HI0.out|apply IsS52.alloc|apply IsS52.drewN|apply IsS52.drew|apply IsS52.set_1|apply IsS52.set_2)|exact HI0.out)) (rm HO_3.out) (by decide)) hk (fun _ h=>h.2)) (fun _ h=>h.1));have n1_:=Aside0.mk (KeepBut.trans (by repeat (first|(with_reducible first|exact HK.out|apply KeepBut.set_|apply keep_drewN|apply keep_drew|apply keep_alloc)|exact HK.out)) hk (.inl rfl));have n2_:=Aside0.mk (hb);have n3_:=Aside0.mk (hi);clear HO_3;clear HK;clear HB;clear HI0;have HO_3:=n0_;have HK:=n1_;have HB:=n2_;have HI0:=n3_;clear n0_ n1_ n2_ n3_;(try clear hb);(try clear hb2);(try clear hk);(try clear hi))|((with_reducible refine gate_dst (N:=49) rfl ?_);refine R_lit (Kd.int .i64) _ 3 ?hg (N:=49) ?hd (xs:=([2,(-1)] : List Int)) (inner:=[.int .i64 2,.int .i64 (-1)]) (ok:=fun _=>True) (okp:=fun _=>True) ?hr ?hp (fun _ hk=>hk) trivial (Below.refl _ _) (Nat.le_refl _) (by simp) ?_;(case hd=>rfl);(case hg=>rfl);(case hr=>first|(go_simp;done)|(go_simp;rfl));(case hp=>exact (Reps.one (show Kd.M (Kd.int .i64) _ _ _ 2 [.int .i64 2] from rfl) (Reps.one (show Kd.M (Kd.int .i64) _ _ _ (-1) [.int .i64 (-1)] from rfl) (Reps.none _ _))));intro v361 w37 ho38 hb hg_ hnew_;clear hg_ hnew_;(first|rw [← Ny360.out] at ho38|(simp only [Int.reduceToNat] at ho38;rw [← Ny360.out] at ho38));have n0_:=Aside0.mk (R_elder' (rm HO_3.out) (R_base ho38) hb);have n1_:=Aside0.mk (R_lower (R_new' ho38 (R_lt (rm HO_3.out))) (keep_size (w:=w) (g:=g) (row:=none) (by repeat (first|(with_reducible first|exact HK.out|apply KeepBut.set_|apply keep_drewN|apply keep_drew|apply keep_alloc)|exact HK.out))));have n2_:=Aside0.mk (IsS52.below (by (try simp only [Int.add_zero]);repeat (first|(with_reducible first|exact HI0.out|apply IsS52.alloc|apply IsS52.drewN|apply IsS52.drew|apply IsS52.set_1|apply IsS52.set_2)|exact HI0.out)) hb);have n3_:=Aside0.mk (KeepBut.trans (by repeat (first|(with_reducible first|exact HK.out|apply KeepBut.set_|apply keep_drewN|apply keep_drew|apply keep_alloc)|exact HK.out)) (KeepBut.of_below hb g none) (.inl rfl));have n4_:=Aside0.mk (below_step (by repeat (first|(with_reducible first|exact HB.out|apply below_alloc|apply pw_below_drewN|apply below_drew1|refine below_set ?_ (IsS52.ge HI0.out))|exact HB.out)) hb);clear HO_3;clear HI0;clear HK;clear HB;have HO_3:=n0_;have HO362:=n1_;have HI0:=n2_;have HK:=n3_;have HB:=n4_;clear n0_ n1_ n2_ n3_ n4_;clear hb ho38;obtain ⟨Ao39,co39,eo39⟩:=R_slice HO362.out;subst eo39)|((with_reducible refine gate_callee (f:=62) rfl ?_);refine goesL_ (some 50) rfl rfl Try.func62 (by kernel_rfl) rfl #[.pointer (some ⟨g,0,none⟩),.slice Ao39 y360.length co39] rfl (by (try simp only [List.map_toArray,List.map_cons,List.map_nil]);first|done|rfl|(simp only [List.length_drop,List.length_take];rfl)) ?_;(with_reducible refine (spec_l1Cur_among.calls g s0_0 t358 t359 _ _ y360 t363 t364 t365 w0 _ ?side1 ?side2 ?side3 ?side4 ?side5 A33.out).mono ?_);(case side1=>repeat (first|(with_reducible first|exact HI0.out|apply IsS52.alloc|apply IsS52.drewN|apply IsS52.drew|apply IsS52.set_1|apply IsS52.set_2)|exact HI0.out));(case side2=>repeat (first|(with_reducible first|exact HB.out|apply below_alloc|apply pw_below_drewN|apply below_drew1|refine below_set ?_ (IsS52.ge HI0.out))|exact HB.out));(case side3=>exact cm (R_reads' HO362.out).2.2);(case side4=>exact (R_reads' HO362.out).2.1);(case side5=>exact far_slice (IsS52.own_ne HI0.out HO362.out (by decide)));rintro e w40 ⟨rfl,hi,hb,hk⟩;refine ⟨_,rfl,?_⟩;have n0_:=Aside0.mk (R_mono (R_keep (IsS52.apart (show IsS52 w0 _ g s0_0 t358 t359 from by (try simp only [Int.add_zero]);repeat (first|(with_reducible first|exact HI0.out|apply IsS52.alloc|apply IsS52.drewN|apply IsS52.drew|apply IsS52.set_1|apply IsS52.set_2)|exact HI0.out)) (rm HO_3.out) (by decide)) hk (fun _ h=>h.2)) (fun _ h=>h.1));have n1_:=Aside0.mk (R_mono (R_keep (IsS52.apart (show IsS52 w0 _ g s0_0 t358 t359 from by (try simp only [Int.add_zero]);repeat (first|(with_reducible first|exact HI0.out|apply IsS52.alloc|apply IsS52.drewN|apply IsS52.drew|apply IsS52.set_1|apply IsS52.set_2)|exact HI0.out)) (rm HO362.out) (by decide)) hk (fun _ h=>h.2)) (fun _ h=>h.1));have n2_:=Aside0.mk (KeepBut.trans (by repeat (first|(with_reducible first|exact HK.out|apply KeepBut.set_|apply keep_drewN|apply keep_drew|apply keep_alloc)|exact HK.out)) hk (.inl rfl));have n3_:=Aside0.mk (hb);have n4_:=Aside0.mk (hi);clear HO_3;clear HO362;clear HK;clear HB;clear HI0;have HO_3:=n0_;have HO362:=n1_;have HK:=n2_;have HB:=n3_;have HI0:=n4_;clear n0_ n1_ n2_ n3_ n4_;(try clear hb);(try clear hb2);(try clear hk);(try clear hi);have p35 : 0 ≤ (0 : Int):=(by omega);have q35 : (0 : Int) < ((x3_20.length : Int) : Int):=od;have qi35 : (0 < x3_20.length) = True:=eq_true (by omega);obtain ⟨go35,co35,eo35,gb35,gl35,cl35,HG35⟩:=R_form HO_3.out (by omega);(first|cases eo35|(injection eo35 with ea_ en_ ec_;(first|subst ea_|(injection ea_ with ea_;subst ea_));subst ec_;clear en_));have GB35:=Aside0.mk gb35;have GG35:=Aside0.mk HG35;clear gb35 gl35 HG35;obtain ⟨hx35_0,hf35_0⟩:=R_celln 0 HO_3.out (0 : Int) p35 q35;(try rw [show ((0 : Int)).toNat = 0 from rfl] at hx35_0);(try simp only [Nat.reduceMul,Nat.zero_mul,Nat.zero_add,Nat.reduceAdd] at hx35_0);(try rw [show ((0 : Int)).toNat = 0 from rfl] at hf35_0);(try simp only [Nat.reduceMul,Nat.zero_mul,Nat.zero_add,Nat.reduceAdd] at hf35_0);replace p35:=eq_true p35;replace q35:=eq_true q35;have n_:=Aside0.mk (R_mono (ok':=(fun k_=>some k_ ≠ (.slice Ao39 y360.length co39 : Value).ownBlock)) HO_3.out (fun k_ hk=>hk.2));clear HO_3;have HO_3:=n_;clear n_;obtain ⟨hy41_,hz41_⟩:=R_celln 0 HO_3.out (0 : Int) (by omega) (od);(try simp only [Int.reduceToNat,Int.toNat_zero,Int.toNat_ofNat,Nat.reduceMul,Nat.zero_mul,Nat.zero_add] at hy41_ hz41_);(try rw [show ((0 : Int)).toNat = 0 from rfl] at hy41_);(try rw [show ((0 : Int)).toNat = 0 from rfl] at hz41_);have HP41:=R_putg HO_3.out (0 : Int) t363)|((with_reducible refine gate_store (t:=3) (p:=51) rfl ?_);refine store_event (t:=3) (p:=51) (v:=?vo_w42) (w1:=(w40.setCell ⟨go35,(0 : Int).toNat,none⟩ (.int .i64 t363))) ?hg ?ho ?hn ?hr ?_;(case ho=>rfl);(case hg=>rfl);(case hn=>rfl);(case hr=>first|(go_simp;done)|(go_simp;rfl));intro w42 hw;have hg : w40.grownBy w42 (some go35):=(by rw [hw];exact HP41.2);have hp_ : Kd.R (Kd.int .i64) 3 w42 w.heap.size (fun k_=>some k_ ≠ (.slice Ao39 y360.length co39 : Value).ownBlock) (.slice (some ⟨go35,0,none⟩) x3_20.length co35) y366:=(by rw [hw,Ny366.out];exact HP41.1);clear HP41;have n0_:=Aside0.mk (hp_);have n1_:=Aside0.mk (IsS52.grown (by (try simp only [Int.add_zero]);repeat (first|(with_reducible first|exact HI0.out|apply IsS52.alloc|apply IsS52.drewN|apply IsS52.drew|apply IsS52.set_1|apply IsS52.set_2)|exact HI0.out)) hg (IsS52.own_ne HI0.out HO_3.out (by decide)));have n2_:=Aside0.mk (R_after (v:=(.slice (some ⟨go35,0,none⟩) x3_20.length co35)) (v1:=(.slice (some ⟨go35,0,none⟩) x3_20.length co35)) (ok:=(fun _=>True)) (rm HO362.out) hg (.inl rfl));have n3_:=Aside0.mk ((by rw [hw];exact below_set (HB.out) (Nat.le_trans HL.out GB35.out) : Below w0.heap.size w0 w42));have n4_:=Aside0.mk (KeepBut.trans (by repeat (first|(with_reducible first|exact HK.out|apply KeepBut.set_|apply keep_drewN|apply keep_drew|apply keep_alloc)|exact HK.out)) (KeepBut.of_grown hg g) (R_base2 HO_3.out));clear HO_3;clear HI0;clear HO362;clear HB;clear HK;have HO_3:=n0_;have HI0:=n1_;have HO362:=n2_;have HB:=n3_;have HK:=n4_;clear n0_ n1_ n2_ n3_ n4_;clear hg hw hp_))
    go_ret
    exact ⟨_,by first|rfl|(simp [errW_none,errW_some] <;> rfl)|(simp [*,errW_none,errW_some] <;> rfl),rm (R_mono HO_3.out (fun _ hk=>trivial)),by (try simp only [Int.add_zero]);repeat (first|(with_reducible first|exact HI0.out|apply IsS52.alloc|apply IsS52.drewN|apply IsS52.drew|apply IsS52.set_1|apply IsS52.set_2)|exact HI0.out),by repeat (first|(with_reducible first|exact HB.out|apply below_alloc|apply pw_below_drewN|apply below_drew1|refine below_set ?_ (IsS52.ge HI0.out))|exact HB.out),by repeat (first|(with_reducible first|exact HK.out|apply KeepBut.set_|apply keep_drewN|apply keep_drew|apply keep_alloc)|exact HK.out)⟩
   rw [if_neg c32] at H
   have c32b0 : (t357 == 0) = false:=beq_eq_false_iff_ne.mpr c32
   have c32b1 : (t357 != 0) = true:=bne_iff_ne.mpr c32
   by_cases c43 : t357 = 1
   ·rw [if_pos c43] at H
    have c43b0 : (t357 == 1) = true:=beq_iff_eq.mpr c43
    have c43b1 : (t357 != 1) = false:=bne_eq_false_iff_eq.mpr c43
    clear c43
    by_cases c44 : 2 ≤ (x3_20.length : Int)
    rotate_left
    ·rw [if_neg c44] at H
     exact absurd H (by simp)
    rw [if_pos c44] at H
    have c44b0:=eq_true c44
    have c44b1 : decide (2 ≤ (x3_20.length : Int)) = true:=decide_eq_true c44
    clear c44
    obtain ⟨y367,hy367⟩ : ∃ y_ : List Int,y_ = (x3_20.take (2 : Int).toNat):=⟨_,rfl⟩
    replace H : (some (y367,t358,t359)) = some (r1,r2,r3):=by first|(rw [hy367];with_reducible exact H)|(have H2_:=(Option.bind_some _ _).symm.trans H;rw [hy367];with_reducible exact H2_)|(have H2_:=(Option.bind_some _ _).symm.trans H;with_reducible exact H2_)|with_reducible exact H|(rw [hy367];exact H)|exact H
    have Ny367:=Aside0.mk hy367
    clear hy367
    simp only [Option.some.injEq,Prod.mk.injEq] at H
    obtain ⟨rfl,rfl,rfl⟩:=H
    go_wp2_with (first|((with_reducible refine gate_callee (f:=61) rfl ?_);refine goesL_ (some 44) rfl rfl Try.func61 (by kernel_rfl) rfl #[.pointer (some ⟨g,0,none⟩),.int .i64 50] rfl (by (try simp only [List.map_toArray,List.map_cons,List.map_nil]);first|done|rfl|(simp only [List.length_drop,List.length_take];rfl)) ?_;(with_reducible refine (spec_l1Cur_pick.calls g s0_0 t353 t354 50 t357 t358 t359 w0 _ ?side1 ?side2 A31.out).mono ?_);(case side1=>repeat (first|(with_reducible first|exact HI0.out|apply IsS52.alloc|apply IsS52.drewN|apply IsS52.drew|apply IsS52.set_1|apply IsS52.set_2)|exact HI0.out));(case side2=>repeat (first|(with_reducible first|exact HB.out|apply below_alloc|apply pw_below_drewN|apply below_drew1|refine below_set ?_ (IsS52.ge HI0.out))|exact HB.out));rintro e w45 ⟨rfl,hi,hb,hk⟩;refine ⟨_,rfl,?_⟩;have n0_:=Aside0.mk (R_mono (R_keep (IsS52.apart (show IsS52 w0 _ g s0_0 t353 t354 from by (try simp only [Int.add_zero]);repeat (first|(with_reducible first|exact HI0.out|apply IsS52.alloc|apply IsS52.drewN|apply IsS52.drew|apply IsS52.set_1|apply IsS52.set_2)|exact HI0.out)) (rm HO_3.out) (by decide)) hk (fun _ h=>h.2)) (fun _ h=>h.1));have n1_:=Aside0.mk (KeepBut.trans (by repeat (first|(with_reducible first|exact HK.out|apply KeepBut.set_|apply keep_drewN|apply keep_drew|apply keep_alloc)|exact HK.out)) hk (.inl rfl));have n2_:=Aside0.mk (hb);have n3_:=Aside0.mk (hi);clear HO_3;clear HK;clear HB;clear HI0;have HO_3:=n0_;have HK:=n1_;have HB:=n2_;have HI0:=n3_;clear n0_ n1_ n2_ n3_;(try clear hb);(try clear hb2);(try clear hk);(try clear hi);obtain ⟨Ao46,co46,eo46⟩:=R_slice HO_3.out;subst eo46;have q47 : (2 : Int) ≤ ((x3_20.length : Int) : Int):=od;obtain ⟨i047,hi047,_,hsz47,_⟩:=info_parts info3;have hcut47:=cut_to (P:=Try.prog) 22 3 .i64 Try.underlying22 hi047 Ao46 x3_20.length co46 2 (by omega) q47 (R_reads' HO_3.out).2.1;have hr47:=R_take (m:=(2 : Int).toNat) HO_3.out (by omega);have hy47 : y367.length = (2 : Int).toNat:=(by rw [Ny367.out,List.length_take];omega);rw [← Ny367.out] at hr47;rw [← hy47] at hr47 hcut47;clear hy47 hi047 hsz47 HO_3;have HO369:=Aside0.mk hr47;clear hr47;replace q47:=eq_true q47))
    go_ret
    exact ⟨_,by first|rfl|(simp [errW_none,errW_some] <;> rfl)|(simp [*,errW_none,errW_some] <;> rfl),rm HO369.out,by (try simp only [Int.add_zero]);repeat (first|(with_reducible first|exact HI0.out|apply IsS52.alloc|apply IsS52.drewN|apply IsS52.drew|apply IsS52.set_1|apply IsS52.set_2)|exact HI0.out),by repeat (first|(with_reducible first|exact HB.out|apply below_alloc|apply pw_below_drewN|apply below_drew1|refine below_set ?_ (IsS52.ge HI0.out))|exact HB.out),by repeat (first|(with_reducible first|exact HK.out|apply KeepBut.set_|apply keep_drewN|apply keep_drew|apply keep_alloc)|exact HK.out)⟩
   rw [if_neg c43] at H
   have c43b0 : (t357 == 1) = false:=beq_eq_false_iff_ne.mpr c43
   have c43b1 : (t357 != 1) = true:=bne_iff_ne.mpr c43
   by_cases c48 : t357 = 2
   rotate_left
   ·rw [if_neg c48] at H
    have c48b0 : (t357 == 2) = false:=beq_eq_false_iff_ne.mpr c48
    have c48b1 : (t357 != 2) = true:=bne_iff_ne.mpr c48
    simp only [Option.some.injEq,Prod.mk.injEq] at H
    obtain ⟨rfl,rfl,rfl⟩:=H
    go_wp2_with (first|((with_reducible refine gate_callee (f:=61) rfl ?_);refine goesL_ (some 44) rfl rfl Try.func61 (by kernel_rfl) rfl #[.pointer (some ⟨g,0,none⟩),.int .i64 50] rfl (by (try simp only [List.map_toArray,List.map_cons,List.map_nil]);first|done|rfl|(simp only [List.length_drop,List.length_take];rfl)) ?_;(with_reducible refine (spec_l1Cur_pick.calls g s0_0 t353 t354 50 t357 t358 t359 w0 _ ?side1 ?side2 A31.out).mono ?_);(case side1=>repeat (first|(with_reducible first|exact HI0.out|apply IsS52.alloc|apply IsS52.drewN|apply IsS52.drew|apply IsS52.set_1|apply IsS52.set_2)|exact HI0.out));(case side2=>repeat (first|(with_reducible first|exact HB.out|apply below_alloc|apply pw_below_drewN|apply below_drew1|refine below_set ?_ (IsS52.ge HI0.out))|exact HB.out));rintro e w55 ⟨rfl,hi,hb,hk⟩;refine ⟨_,rfl,?_⟩;have n0_:=Aside0.mk (R_mono (R_keep (IsS52.apart (show IsS52 w0 _ g s0_0 t353 t354 from by (try simp only [Int.add_zero]);repeat (first|(with_reducible first|exact HI0.out|apply IsS52.alloc|apply IsS52.drewN|apply IsS52.drew|apply IsS52.set_1|apply IsS52.set_2)|exact HI0.out)) (rm HO_3.out) (by decide)) hk (fun _ h=>h.2)) (fun _ h=>h.1));have n1_:=Aside0.mk (KeepBut.trans (by repeat (first|(with_reducible first|exact HK.out|apply KeepBut.set_|apply keep_drewN|apply keep_drew|apply keep_alloc)|exact HK.out)) hk (.inl rfl));have n2_:=Aside0.mk (hb);have n3_:=Aside0.mk (hi);clear HO_3;clear HK;clear HB;clear HI0;have HO_3:=n0_;have HK:=n1_;have HB:=n2_;have HI0:=n3_;clear n0_ n1_ n2_ n3_;(try clear hb);(try clear hb2);(try clear hk);(try clear hi)))
    go_ret
    exact ⟨_,by first|rfl|(simp [errW_none,errW_some] <;> rfl)|(simp [*,errW_none,errW_some] <;> rfl),rm HO_3.out,by (try simp only [Int.add_zero]);repeat (first|(with_reducible first|exact HI0.out|apply IsS52.alloc|apply IsS52.drewN|apply IsS52.drew|apply IsS52.set_1|apply IsS52.set_2)|exact HI0.out),by repeat (first|(with_reducible first|exact HB.out|apply below_alloc|apply pw_below_drewN|apply below_drew1|refine below_set ?_ (IsS52.ge HI0.out))|exact HB.out),by repeat (first|(with_reducible first|exact HK.out|apply KeepBut.set_|apply keep_drewN|apply keep_drew|apply keep_alloc)|exact HK.out)⟩
   rw [if_pos c48] at H
   have c48b0 : (t357 == 2) = true:=beq_iff_eq.mpr c48
   have c48b1 : (t357 != 2) = false:=bne_eq_false_iff_eq.mpr c48
   clear c48
   have H':=Aside0.mk H
   clear H
   go_wp2_with (first|((with_reducible refine gate_callee (f:=61) rfl ?_);refine goesL_ (some 44) rfl rfl Try.func61 (by kernel_rfl) rfl #[.pointer (some ⟨g,0,none⟩),.int .i64 50] rfl (by (try simp only [List.map_toArray,List.map_cons,List.map_nil]);first|done|rfl|(simp only [List.length_drop,List.length_take];rfl)) ?_;(with_reducible refine (spec_l1Cur_pick.calls g s0_0 t353 t354 50 t357 t358 t359 w0 _ ?side1 ?side2 A31.out).mono ?_);(case side1=>repeat (first|(with_reducible first|exact HI0.out|apply IsS52.alloc|apply IsS52.drewN|apply IsS52.drew|apply IsS52.set_1|apply IsS52.set_2)|exact HI0.out));(case side2=>repeat (first|(with_reducible first|exact HB.out|apply below_alloc|apply pw_below_drewN|apply below_drew1|refine below_set ?_ (IsS52.ge HI0.out))|exact HB.out));rintro e w49 ⟨rfl,hi,hb,hk⟩;refine ⟨_,rfl,?_⟩;have n0_:=Aside0.mk (R_mono (R_keep (IsS52.apart (show IsS52 w0 _ g s0_0 t353 t354 from by (try simp only [Int.add_zero]);repeat (first|(with_reducible first|exact HI0.out|apply IsS52.alloc|apply IsS52.drewN|apply IsS52.drew|apply IsS52.set_1|apply IsS52.set_2)|exact HI0.out)) (rm HO_3.out) (by decide)) hk (fun _ h=>h.2)) (fun _ h=>h.1));have n1_:=Aside0.mk (KeepBut.trans (by repeat (first|(with_reducible first|exact HK.out|apply KeepBut.set_|apply keep_drewN|apply keep_drew|apply keep_alloc)|exact HK.out)) hk (.inl rfl));have n2_:=Aside0.mk (hb);have n3_:=Aside0.mk (hi);clear HO_3;clear HK;clear HB;clear HI0;have HO_3:=n0_;have HK:=n1_;have HB:=n2_;have HI0:=n3_;clear n0_ n1_ n2_ n3_;(try clear hb);(try clear hb2);(try clear hk);(try clear hi)))
   go_loopg [3] kj20 (fun kq v3 w'=>∃ (x3_3 : List Int),Aside0 (spec_l1Cur_lane.l2 kq x3_3 s0_0 t358 t359 = some (r1,r2,r3)) ∧ Aside0 (kq ≤ kj20) ∧ Aside0 (Kd.R (Kd.int .i64) 3 w' w.heap.size (fun _=>True) v3 x3_3) ∧ Aside0 (IsS52 w0 w' g s0_0 t358 t359) ∧ Aside0 (KeepBut w w' g none) ∧ Aside0 (Below w0.heap.size w0 w'))
   case atStart=>exact ⟨(x3_20),H',⟨Nat.le_refl _⟩,⟨rm HO_3.out⟩,⟨by (try simp only [Int.add_zero]);repeat (first|(with_reducible first|exact HI0.out|apply IsS52.alloc|apply IsS52.drewN|apply IsS52.drew|apply IsS52.set_1|apply IsS52.set_2)|exact HI0.out)⟩,⟨by repeat (first|(with_reducible first|exact HK.out|apply KeepBut.set_|apply keep_drewN|apply keep_drew|apply keep_alloc)|exact HK.out)⟩,⟨by repeat (first|(with_reducible first|exact HB.out|apply below_alloc|apply pw_below_drewN|apply below_drew1|refine below_set ?_ (IsS52.ge HI0.out))|exact HB.out)⟩⟩
   clear H'
   try clear c1
   try clear c2
   try clear p2
   try clear q2
   try clear hx2
   try clear hf2
   try clear c3
   try clear p3
   try clear q3
   try clear hx3
   try clear qi3
   try clear hf3
   try clear c4
   try clear q4
   try clear c5
   try clear c6
   try clear p6
   try clear c11
   try clear c11b0
   try clear c13
   try clear c14
   try clear c17
   try clear c23
   try clear c24
   try clear c24b0
   try clear c25
   try clear c25b0
   try clear p26
   try clear q26
   try clear hx26
   try clear hf26
   try clear c32
   try clear c32b0
   try clear c32b1
   try clear c34
   try clear c34b0
   try clear c34b1
   try clear p35
   try clear q35
   try clear hx35
   try clear qi35
   try clear hf35
   try clear c43
   try clear c43b0
   try clear c43b1
   try clear c44
   try clear c44b0
   try clear c44b1
   try clear q47
   try clear c48
   try clear c48b0
   try clear c48b1
   try clear hx26_0
   try clear hx355_0
   try clear hx35_0
   try clear p2
   try clear p26
   try clear p3
   try clear p35
   try clear p355
   try clear p6
   try clear q2
   try clear q26
   try clear q3
   try clear q35
   try clear q355
   try clear q47
   obtain ⟨x3_3,HA,HK3,HO_3,HI0,HK,HB⟩:=hrel
   cases gk with
   | zero=>exact absurd HA.out (by simp [spec_l1Cur_lane.l2])
   | succ k3 =>
    have H:=HA.out
    clear HA
    simp only [spec_l1Cur_lane.l2] at H
    by_cases c50 : (x3_3.length : Int) < 25
    rotate_left
    ·rw [if_neg c50] at H
     have c50b0 : decide ((x3_3.length : Int) < 25) = false:=decide_eq_false c50
     have c50b1 : decide (x3_3.length < 25) = false:=decide_eq_false (by omega)
     clear c50
     simp only [Option.some.injEq,Prod.mk.injEq] at H
     obtain ⟨rfl,rfl,rfl⟩:=H
     obtain ⟨Ao54,co54,eo54⟩:=R_slice HO_3.out
     subst eo54
     go_wp2
     go_ret
     exact ⟨_,by first|rfl|(simp [errW_none,errW_some] <;> rfl)|(simp [*,errW_none,errW_some] <;> rfl),rm HO_3.out,by (try simp only [Int.add_zero]);repeat (first|(with_reducible first|exact HI0.out|apply IsS52.alloc|apply IsS52.drewN|apply IsS52.drew|apply IsS52.set_1|apply IsS52.set_2)|exact HI0.out),by repeat (first|(with_reducible first|exact HB.out|apply below_alloc|apply pw_below_drewN|apply below_drew1|refine below_set ?_ (IsS52.ge HI0.out))|exact HB.out),by repeat (first|(with_reducible first|exact HK.out|apply KeepBut.set_|apply keep_drewN|apply keep_drew|apply keep_alloc)|exact HK.out)⟩
    rw [if_pos c50] at H
    have c50b0 : decide ((x3_3.length : Int) < 25) = true:=decide_eq_true c50
    have c50b1 : decide (x3_3.length < 25) = true:=decide_eq_true (by omega)
    clear c50
    by_cases c51 : x3_3.length < 17592186044416
    rotate_left
    ·rw [if_neg c51] at H
     exact absurd H (by simp)
    rw [if_pos c51] at H
    have LMc51:=Aside0.mk c51
    clear c51
    obtain ⟨y370,hy370⟩ : ∃ y_ : List Int,y_ = (x3_3 ++ [0]):=⟨_,rfl⟩
    replace H : (spec_l1Cur_lane.l2 k3 y370 s0_0 t358 t359) = some (r1,r2,r3):=by first|(rw [hy370];with_reducible exact H)|(have H2_:=(Option.bind_some _ _).symm.trans H;rw [hy370];with_reducible exact H2_)|(have H2_:=(Option.bind_some _ _).symm.trans H;with_reducible exact H2_)|with_reducible exact H|(rw [hy370];exact H)|exact H
    have Ny370:=Aside0.mk hy370
    clear hy370
    have H':=Aside0.mk H
    clear H
    obtain ⟨Ao52,co52,eo52⟩:=R_slice HO_3.out
    subst eo52
    go_wp2_with (first|((with_reducible refine gate_builtin (b:=.append) (xs:=#[.tmp 61,.tmp 62]) rfl ?_);at_builtin;refine R_append (Kd.int .i64) w.heap.size rfl (.tmp 61) (.tmp 62) 22 3 (.int .i64 0) 8 rfl Try.underlying22 info3 rfl (by decide) (by omega) (.slice Ao52 x3_3.length co52) x3_3 0 [.int .i64 0] (fun _=>True) (fun _=>False) rfl rfl ?aP (fun _ hk=>hk.elim) ?aF ?aO (Below.refl _ _) ?aS ?aL ?_;(case aP=>exact rfl);(case aF=>exact (fun _ _=>trivial));(case aO=>exact (rm HO_3.out));(case aS=>exact (keep_size (w:=w) (g:=g) (row:=none) (by repeat (first|(with_reducible first|exact HK.out|apply KeepBut.set_|apply keep_drewN|apply keep_drew|apply keep_alloc)|exact HK.out))));(case aL=>have:=LMc51.out;omega);intro v371 w53 ho hb hg hat;rw [← Ny370.out] at ho;have n0_:=Aside0.mk (IsS52.grown (by (try simp only [Int.add_zero]);repeat (first|(with_reducible first|exact HI0.out|apply IsS52.alloc|apply IsS52.drewN|apply IsS52.drew|apply IsS52.set_1|apply IsS52.set_2)|exact HI0.out)) hg (IsS52.own_ne HI0.out HO_3.out (by decide)));have n1_:=Aside0.mk (below_weaken (by repeat (first|(with_reducible first|exact HB.out|apply below_alloc|apply pw_below_drewN|apply below_drew1|refine below_set ?_ (IsS52.ge HI0.out))|exact HB.out)) HL.out hb);have n2_:=Aside0.mk (KeepBut.trans (by repeat (first|(with_reducible first|exact HK.out|apply KeepBut.set_|apply keep_drewN|apply keep_drew|apply keep_alloc)|exact HK.out)) (KeepBut.of_grown hg g) (R_base2 HO_3.out));have n3_:=Aside0.mk (ho);clear HI0;clear HB;clear HK;clear HO_3;have HI0:=n0_;have HB:=n1_;have HK:=n2_;have HO372:=n3_;clear n0_ n1_ n2_ n3_;clear ho hb hg hat))
    go_roundg k3
    case measure=>have:=HK1.out;have:=HJ20.out;have:=HK3.out;omega
    case rel=>exact ⟨(y370),H',⟨by have:=HK1.out;have:=HJ20.out;have:=HK3.out;omega⟩,⟨rm HO372.out⟩,⟨by (try simp only [Int.add_zero]);repeat (first|(with_reducible first|exact HI0.out|apply IsS52.alloc|apply IsS52.drewN|apply IsS52.drew|apply IsS52.set_1|apply IsS52.set_2)|exact HI0.out)⟩,⟨by repeat (first|(with_reducible first|exact HK.out|apply KeepBut.set_|apply keep_drewN|apply keep_drew|apply keep_alloc)|exact HK.out)⟩,⟨by repeat (first|(with_reducible first|exact HB.out|apply below_alloc|apply pw_below_drewN|apply below_drew1|refine below_set ?_ (IsS52.ge HI0.out))|exact HB.out)⟩⟩

/-! ### spec_DrawIsLane: function 55 -/
def spec_DrawIsLane.f (k : Nat) (l0 : List Int) : Option (List Int):=(spec_l1Cur_lane.f k l0 0 0).bind fun bt374=>(some bt374.1)
theorem spec_DrawIsLane.mono : ∀ a0 k,LeO (spec_DrawIsLane.f k a0) (spec_DrawIsLane.f (k + 1) a0):=by
 intro a0 k
 unfold spec_DrawIsLane.f
 repeat' first
   | (with_reducible exact spec_l1Cur_lane.mono _ _ _ _)
   | (with_reducible exact LeO.refl _)
   | (with_reducible exact LeO.none _)
   | (with_reducible refine LeO.ite ?_ ?_)
   | (with_reducible refine LeO.bind ?_ (fun _=>?_))
   | exact spec_l1Cur_lane.mono _ _ _ _
   | exact LeO.none _
   | refine LeO.ite ?_ ?_
   | refine LeO.bind ?_ (fun _=>?_)
set_option maxHeartbeats 8000000 in
set_option maxRecDepth 100000 in
theorem spec_DrawIsLane.calls (k : Nat) (A0 : Option Addr) (c0 : Nat) (l0 : List Int) (r : List Int) (w : World) (hr0 : Kd.C (Kd.int .u8) w A0 l0.length l0) (hc0 : l0.length ≤ c0) (h : spec_DrawIsLane.f k l0 = some r) :
  Calls Try.prog 55 #[.slice A0 l0.length c0] w fun e w'=>∃ v0_ : Value,e = .returned (v0_) ∧ Kd.R (Kd.int .i64) 3 w' w.heap.size (fun _=>True) v0_ r ∧ Below w.heap.size w w':=by
 have hu52:=Try.underlying52
 have HR0:=Aside0.mk hr0
 have HC0:=Aside0.mk hc0
 clear hr0 hc0
 have HB:=Aside0.mk (Below.refl w.heap.size w)
 have H : ((spec_l1Cur_lane.f k l0 0 0).bind fun bt374=>(some bt374.1)) = some r:=h
 clear h
 replace H:=Option.bind_eq_some_iff.mp H
 obtain ⟨⟨t374,t377,t378⟩,A20,H⟩:=H
 replace H : (some t374) = some r:=H
 have A2:=Aside0.mk A20
 clear A20
 obtain rfl:=Option.some.inj H
 go_enter Try.func55,Try.ntmps55
 go_wp2_with (first|((with_reducible refine gate_dst (N:=6) rfl ?_);refine box_event ?hg (N:=6) ?hd (cs:=#[.slice A0 l0.length c0,.int .i64 0,.int .u64 0]) (t:=52) ?hr ?_;(case hd=>rfl);(case hg=>rfl);(case hr=>first|(go_simp;done)|(go_simp;rfl));intro gb373 hg w3 hbox hb;have n0_:=Aside0.mk (below_step (hm HB.out) hb);have n1_:=Aside0.mk ((⟨_,_,hbox,(by rw [hg];exact (below_size (hm HB.out)) : w.heap.size ≤ gb373),HR0.out⟩ : IsS52 w w3 gb373 l0 0 0));clear HB;have HB:=n0_;have HI373:=n1_;clear n0_ n1_;clear hb hbox hg)|((with_reducible refine gate_callee (f:=56) rfl ?_);refine goesL_ (some 8) rfl rfl Try.func56 (by kernel_rfl) rfl #[.pointer (some ⟨gb373,0,none⟩)] rfl (by (try simp only [List.map_toArray,List.map_cons,List.map_nil]);first|done|rfl|(simp only [List.length_drop,List.length_take];rfl)) ?_;(with_reducible refine (spec_l1Cur_lane.calls k gb373 l0 0 0 t374 t377 t378 w _ ?side1 ?side2 A2.out).mono ?_);(case side1=>repeat (first|(with_reducible first|exact HI373.out|apply IsS52.alloc|apply IsS52.drewN|apply IsS52.drew|apply IsS52.set_1|apply IsS52.set_2)|exact HI373.out));(case side2=>repeat (first|(with_reducible first|exact HB.out|apply below_alloc|apply pw_below_drewN|apply below_drew1|refine below_set ?_ (IsS52.ge HI373.out))|exact HB.out));rintro e w4 ⟨v375,rfl,ho0,hi,hb,hk⟩;refine ⟨_,rfl,?_⟩;have n0_:=Aside0.mk (R_lower ho0 (below_size (by repeat (first|(with_reducible first|exact HB.out|apply below_alloc|apply pw_below_drewN|apply below_drew1|refine below_set ?_ (IsS52.ge HI373.out))|exact HB.out))));have n1_:=Aside0.mk (hb);have n2_:=Aside0.mk (hi);clear HB;clear HI373;have HO376:=n0_;have HB:=n1_;have HI373:=n2_;clear n0_ n1_ n2_;(try clear hb);(try clear hb2);(try clear hk);(try clear hi);(try clear ho0)))
 go_ret
 exact ⟨_,by first|rfl|(simp [errW_none,errW_some] <;> rfl)|(simp [*,errW_none,errW_some] <;> rfl),rm HO376.out,by repeat (first|(with_reducible first|exact HB.out|apply below_alloc|apply pw_below_drewN|apply below_drew1|refine below_set ?_ (IsS52.ge HI373.out))|exact HB.out)⟩

/-! ### spec_DrawTurnLane: function 36 -/
def spec_DrawTurnLane.f (k : Nat) (l0 : List Int) : Option (List Int):=(spec_DrawIsLane.f k l0).bind fun t379=>(some t379)
theorem spec_DrawTurnLane.mono : ∀ a0 k,LeO (spec_DrawTurnLane.f k a0) (spec_DrawTurnLane.f (k + 1) a0):=by
 intro a0 k
 unfold spec_DrawTurnLane.f
 repeat' first
   | (with_reducible exact spec_DrawIsLane.mono _ _)
   | (with_reducible exact LeO.refl _)
   | (with_reducible exact LeO.none _)
   | (with_reducible refine LeO.ite ?_ ?_)
   | (with_reducible refine LeO.bind ?_ (fun _=>?_))
   | exact spec_DrawIsLane.mono _ _
   | exact LeO.none _
   | refine LeO.ite ?_ ?_
   | refine LeO.bind ?_ (fun _=>?_)
set_option maxHeartbeats 8000000 in
set_option maxRecDepth 100000 in
theorem spec_DrawTurnLane.calls (k : Nat) (A0 : Option Addr) (c0 : Nat) (l0 : List Int) (r : List Int) (w : World) (hr0 : Kd.C (Kd.int .u8) w A0 l0.length l0) (hc0 : l0.length ≤ c0) (h : spec_DrawTurnLane.f k l0 = some r) :
  Calls Try.prog 36 #[.slice A0 l0.length c0] w fun e w'=>∃ v0_ : Value,e = .returned (v0_) ∧ Kd.R (Kd.int .i64) 3 w' w.heap.size (fun _=>True) v0_ r ∧ Below w.heap.size w w':=by
 have HR0:=Aside0.mk hr0
 have HC0:=Aside0.mk hc0
 clear hr0 hc0
 have HB:=Aside0.mk (Below.refl w.heap.size w)
 have H : ((spec_DrawIsLane.f k l0).bind fun t379=>(some t379)) = some r:=h
 clear h
 replace H:=Option.bind_eq_some_iff.mp H
 obtain ⟨t379,A20,H⟩:=H
 replace H : (some t379) = some r:=H
 have A2:=Aside0.mk A20
 clear A20
 obtain rfl:=Option.some.inj H
 go_enter Try.func36,Try.ntmps36
 go_wp2_with (first|((with_reducible refine gate_callee (f:=55) rfl ?_);refine goesL_ (some 4) rfl rfl Try.func55 (by kernel_rfl) rfl #[.slice A0 l0.length c0] rfl (by (try simp only [List.map_toArray,List.map_cons,List.map_nil]);first|done|rfl|(simp only [List.length_drop,List.length_take];rfl)) ?_;(with_reducible refine (spec_DrawIsLane.calls k _ _ l0 t379 _ ?side1 ?side2 A2.out).mono ?_);(case side1=>repeat (first|exact HR0.out|(with_reducible refine C_alloc ?_ _)|(with_reducible refine C_drewN ?_ _)|(with_reducible refine C_drew ?_)));(case side2=>exact HC0.out);rintro e w3 ⟨v380,rfl,ho0,hb⟩;refine ⟨_,rfl,?_⟩;have n0_:=Aside0.mk (R_lower ho0 (below_size (hm HB.out)));have n1_:=Aside0.mk (below_step (hm HB.out) hb);clear HB;have HO381:=n0_;have HB:=n1_;clear n0_ n1_;(try clear hb);(try clear hb2);(try clear hk);(try clear hi);(try clear ho0)))
 go_ret
 exact ⟨_,by first|rfl|(simp [errW_none,errW_some] <;> rfl)|(simp [*,errW_none,errW_some] <;> rfl),rm HO381.out,hm HB.out⟩

/-! ### laws_rInts: function 37 -/
def laws_rInts.l0 : Nat → List Int → List Int → Int → Option (Bool)
 | 0,_,_,_=>none
 | k + 1,x0,x1,x5=>if x5 < (x0.length : Int) then (if 0 ≤ x5 then (if x5 < (x1.length : Int) then (if (rd x0 x5) = (rd x1 x5) then (laws_rInts.l0 k x0 x1 (wrap64 (x5 + 1))) else (some false)) else (none)) else (none)) else (some true)
def laws_rInts.f (k : Nat) (l0 : List Int) (l1 : List Int) : Option (Bool):=if (l0.length : Int) = (l1.length : Int) then (laws_rInts.l0 k l0 l1 0) else (some false)
theorem laws_rInts.mono_l : ∀ k,(∀ y0 y1 y2,LeO (laws_rInts.l0 k y0 y1 y2) (laws_rInts.l0 (k + 1) y0 y1 y2))
 | 0=>fun _ _ _ r h=>by simp [laws_rInts.l0] at h
 | k + 1=>by
  have ih0:=laws_rInts.mono_l k
  ·intro y0 y1 y2
   unfold laws_rInts.l0
   repeat' first
   | (with_reducible exact ih0 _ _ _)
   | (with_reducible exact LeO.refl _)
   | (with_reducible exact LeO.none _)
   | (with_reducible refine LeO.ite ?_ ?_)
   | (with_reducible refine LeO.bind ?_ (fun _=>?_))
   | exact ih0 _ _ _
   | exact LeO.none _
   | refine LeO.ite ?_ ?_
   | refine LeO.bind ?_ (fun _=>?_)
theorem laws_rInts.mono : ∀ a0 a1 k,LeO (laws_rInts.f k a0 a1) (laws_rInts.f (k + 1) a0 a1):=by
 intro a0 a1 k
 have ih0:=laws_rInts.mono_l k
 unfold laws_rInts.f
 repeat' first
   | (with_reducible exact ih0 _ _ _)
   | (with_reducible exact LeO.refl _)
   | (with_reducible exact LeO.none _)
   | (with_reducible refine LeO.ite ?_ ?_)
   | (with_reducible refine LeO.bind ?_ (fun _=>?_))
   | exact ih0 _ _ _
   | exact LeO.none _
   | refine LeO.ite ?_ ?_
   | refine LeO.bind ?_ (fun _=>?_)
set_option maxHeartbeats 8000000 in
set_option maxRecDepth 100000 in
theorem laws_rInts.calls (k : Nat) (A0 : Option Addr) (c0 : Nat) (l0 : List Int) (A1 : Option Addr) (c1 : Nat) (l1 : List Int) (r : Bool) (w : World) (hr0 : Kd.C (Kd.int .i64) w A0 l0.length l0) (hc0 : l0.length ≤ c0) (hr1 : Kd.C (Kd.int .i64) w A1 l1.length l1) (hc1 : l1.length ≤ c1) (h : laws_rInts.f k l0 l1 = some r) :
  Calls Try.prog 37 #[.slice A0 l0.length c0,.slice A1 l1.length c1] w fun e w'=>e = .returned (.bool r) ∧ Drawn0 w w':=by
 have HR0:=Aside0.mk hr0
 have HC0:=Aside0.mk hc0
 clear hr0 hc0
 have HR1:=Aside0.mk hr1
 have HC1:=Aside0.mk hc1
 clear hr1 hc1
 have H : (if (l0.length : Int) = (l1.length : Int) then (laws_rInts.l0 k l0 l1 0) else (some false)) = some r:=h
 clear h
 by_cases c3 : (l0.length : Int) = (l1.length : Int)
 rotate_left
 ·rw [if_neg c3] at H
  have c3b0 : ((l0.length : Int) == (l1.length : Int)) = false:=beq_eq_false_iff_ne.mpr c3
  have c3b1 : ((l0.length : Int) != (l1.length : Int)) = true:=bne_iff_ne.mpr c3
  have c3b2 : (l0.length == l1.length) = false:=by first|simpa using c3|(simp at c3 ⊢;omega)
  obtain rfl:=Option.some.inj H
  go_enter Try.func37,Try.ntmps37
  go_wp2
  repeat (go_quiet (fail);try go_wp2)
  go_ret
  exact ⟨by first|rfl|(simp;done)|(simp [*];done),by repeat (first|exact Drawn0.refl _|apply Drawn0.step)⟩
 rw [if_pos c3] at H
 have c3b0 : ((l0.length : Int) == (l1.length : Int)) = true:=beq_iff_eq.mpr c3
 have c3b1 : ((l0.length : Int) != (l1.length : Int)) = false:=bne_eq_false_iff_eq.mpr c3
 have c3b2 : (l0.length == l1.length) = true:=by first|simpa using c3|(simp at c3 ⊢;omega)
 clear c3
 have H':=Aside0.mk H
 clear H
 go_enter Try.func37,Try.ntmps37
 go_wp2
 repeat (go_quiet (fail);try go_wp2)
 go_loopg [5] k (fun kq v5 w'=>∃ (x5_1 : Int),v5 = .int .i64 x5_1 ∧ Aside0 (laws_rInts.l0 kq l0 l1 x5_1 = some r) ∧ Aside0 (kq ≤ k) ∧ Drawn0 w w')
 case atStart=>exact ⟨(0),(by first|rfl|(simp;done)|(simp [*];done)),H',⟨Nat.le_refl _⟩,by repeat (first|exact Drawn0.refl _|apply Drawn0.step)⟩
 clear H'
 try clear c1
 try clear p2
 try clear c3
 try clear c3b0
 try clear c3b1
 try clear c3b2
 obtain ⟨x5_1,rfl,HA,HK1,⟨m1,rfl⟩⟩:=hrel
 cases gk with
 | zero=>exact absurd HA.out (by simp [laws_rInts.l0])
 | succ k1 =>
  have H:=HA.out
  clear HA
  simp only [laws_rInts.l0] at H
  by_cases c4 : x5_1 < (l0.length : Int)
  rotate_left
  ·rw [if_neg c4] at H
   have c4b0 : decide (x5_1 < (l0.length : Int)) = false:=decide_eq_false c4
   clear c4
   obtain rfl:=Option.some.inj H
   go_wp2
   repeat (go_quiet (fail);try go_wp2)
   go_ret
   exact ⟨by first|rfl|(simp;done)|(simp [*];done),by repeat (first|exact Drawn0.refl _|apply Drawn0.step)⟩
  rw [if_pos c4] at H
  have c4b0 : decide (x5_1 < (l0.length : Int)) = true:=decide_eq_true c4
  clear c4
  by_cases c5 : 0 ≤ x5_1
  rotate_left
  ·rw [if_neg c5] at H
   exact absurd H (by simp)
  rw [if_pos c5] at H
  have c5b0 : decide (0 ≤ x5_1) = true:=decide_eq_true c5
  clear c5
  by_cases c6 : x5_1 < (l1.length : Int)
  rotate_left
  ·rw [if_neg c6] at H
   exact absurd H (by simp)
  rw [if_pos c6] at H
  have c6b0 : decide (x5_1 < (l1.length : Int)) = true:=decide_eq_true c6
  clear c6
  by_cases c7 : (rd l0 x5_1) = (rd l1 x5_1)
  rotate_left
  ·rw [if_neg c7] at H
   have c7b0 : ((rd l0 x5_1) == (rd l1 x5_1)) = false:=beq_eq_false_iff_ne.mpr c7
   have c7b1 : ((rd l0 x5_1) != (rd l1 x5_1)) = true:=bne_iff_ne.mpr c7
   obtain rfl:=Option.some.inj H
   have p382 : 0 ≤ (x5_1 : Int):=od
   have q382 : x5_1 < (l0.length : Int):=od
   obtain ⟨ad382,e382,hx382_0⟩:=Kd.at_int HR0.out x5_1 p382 q382
   cases e382
   replace p382:=eq_true p382
   replace q382:=eq_true q382
   have p383 : 0 ≤ (x5_1 : Int):=od
   have q383 : x5_1 < (l1.length : Int):=od
   obtain ⟨ad383,e383,hx383_0⟩:=Kd.at_int HR1.out x5_1 p383 q383
   cases e383
   replace p383:=eq_true p383
   replace q383:=eq_true q383
   go_wp2
   repeat (go_quiet (fail);try go_wp2)
   go_ret
   exact ⟨by first|rfl|(simp;done)|(simp [*];done),by repeat (first|exact Drawn0.refl _|apply Drawn0.step)⟩
  rw [if_pos c7] at H
  have c7b0 : ((rd l0 x5_1) == (rd l1 x5_1)) = true:=beq_iff_eq.mpr c7
  have c7b1 : ((rd l0 x5_1) != (rd l1 x5_1)) = false:=bne_eq_false_iff_eq.mpr c7
  clear c7
  have H':=Aside0.mk H
  clear H
  have p382 : 0 ≤ (x5_1 : Int):=od
  have q382 : x5_1 < (l0.length : Int):=od
  obtain ⟨ad382,e382,hx382_0⟩:=Kd.at_int HR0.out x5_1 p382 q382
  cases e382
  replace p382:=eq_true p382
  replace q382:=eq_true q382
  have p383 : 0 ≤ (x5_1 : Int):=od
  have q383 : x5_1 < (l1.length : Int):=od
  obtain ⟨ad383,e383,hx383_0⟩:=Kd.at_int HR1.out x5_1 p383 q383
  cases e383
  replace p383:=eq_true p383
  replace q383:=eq_true q383
  go_wp2
  repeat (go_quiet (fail);try go_wp2)
  go_roundg k1
  case measure=>have:=HK1.out;omega
  case rel=>exact ⟨(wrap64 (x5_1 + 1)),(by first|rfl|(simp;done)|(simp [*];done)),H',⟨by have:=HK1.out;omega⟩,by repeat (first|exact Drawn0.refl _|apply Drawn0.step)⟩

/-! ### spec_l1Cur_turns: function 57 -/
def spec_l1Cur_turns.f (s0_0 : List Int) (s0_1 : Int) (s0_2 : Int) : Option (Int × Int × Int):=(spec_l1Cur_among.f s0_0 s0_1 s0_2 (([3,5,8,1,0,12,60,61,(-1),30] : List Int))).bind fun bt387=>(some (bt387.1,bt387.2.1,bt387.2.2))
set_option maxHeartbeats 8000000 in
set_option maxRecDepth 100000 in
theorem spec_l1Cur_turns.calls (g : Nat) (s0_0 : List Int) (s0_1 : Int) (s0_2 : Int) (r1 : Int) (r2 : Int) (r3 : Int) (w0 w : World) (hI : IsS52 w0 w g s0_0 s0_1 s0_2) (hB : Below w0.heap.size w0 w) (h : spec_l1Cur_turns.f s0_0 s0_1 s0_2 = some (r1,r2,r3)) :
  Calls Try.prog 57 #[.pointer (some ⟨g,0,none⟩)] w fun e w'=>e = .returned (.int .i64 r1) ∧ IsS52 w0 w' g s0_0 r2 r3 ∧ Below w0.heap.size w0 w' ∧ KeepBut w w' g none:=by
 have HI0:=Aside0.mk hI
 have HK:=Aside0.mk (KeepBut.refl w g none)
 have HL:=Aside0.mk hB.size
 clear hI
 have HW0:=Aside0.mk hB.size
 have HB:=Aside0.mk hB
 clear hB
 have H : ((spec_l1Cur_among.f s0_0 s0_1 s0_2 (([3,5,8,1,0,12,60,61,(-1),30] : List Int))).bind fun bt387=>(some (bt387.1,bt387.2.1,bt387.2.2))) = some (r1,r2,r3):=h
 clear h
 obtain ⟨y384,hy384⟩ : ∃ y_ : List Int,y_ = (([3,5,8,1,0,12,60,61,(-1),30] : List Int)):=⟨_,rfl⟩
 replace H : ((spec_l1Cur_among.f s0_0 s0_1 s0_2 y384).bind fun bt387=>(some (bt387.1,bt387.2.1,bt387.2.2))) = some (r1,r2,r3):=by first|(rw [hy384];with_reducible exact H)|(have H2_:=(Option.bind_some _ _).symm.trans H;rw [hy384];with_reducible exact H2_)|(have H2_:=(Option.bind_some _ _).symm.trans H;with_reducible exact H2_)|with_reducible exact H|(rw [hy384];exact H)|exact H
 have Ny384:=Aside0.mk hy384
 clear hy384
 replace H:=Option.bind_eq_some_iff.mp H
 obtain ⟨⟨t387,t388,t389⟩,A20,H⟩:=H
 replace H : (some (t387,t388,t389)) = some (r1,r2,r3):=H
 have A2:=Aside0.mk A20
 clear A20
 simp only [Option.some.injEq,Prod.mk.injEq] at H
 obtain ⟨rfl,rfl,rfl⟩:=H
 go_enter Try.func57,Try.ntmps57
 go_wp2_with (first|((with_reducible refine gate_dst (N:=4) rfl ?_);refine R_lit (Kd.int .i64) _ 3 ?hg (N:=4) ?hd (xs:=([3,5,8,1,0,12,60,61,(-1),30] : List Int)) (inner:=[.int .i64 3,.int .i64 5,.int .i64 8,.int .i64 1,.int .i64 0,.int .i64 12,.int .i64 60,.int .i64 61,.int .i64 (-1),.int .i64 30]) (ok:=fun _=>True) (okp:=fun _=>True) ?hr ?hp (fun _ hk=>hk) trivial (Below.refl _ _) (Nat.le_refl _) (by simp) ?_;(case hd=>rfl);(case hg=>rfl);(case hr=>first|(go_simp;done)|(go_simp;rfl));(case hp=>exact (Reps.one (show Kd.M (Kd.int .i64) _ _ _ 3 [.int .i64 3] from rfl) (Reps.one (show Kd.M (Kd.int .i64) _ _ _ 5 [.int .i64 5] from rfl) (Reps.one (show Kd.M (Kd.int .i64) _ _ _ 8 [.int .i64 8] from rfl) (Reps.one (show Kd.M (Kd.int .i64) _ _ _ 1 [.int .i64 1] from rfl) (Reps.one (show Kd.M (Kd.int .i64) _ _ _ 0 [.int .i64 0] from rfl) (Reps.one (show Kd.M (Kd.int .i64) _ _ _ 12 [.int .i64 12] from rfl) (Reps.one (show Kd.M (Kd.int .i64) _ _ _ 60 [.int .i64 60] from rfl) (Reps.one (show Kd.M (Kd.int .i64) _ _ _ 61 [.int .i64 61] from rfl) (Reps.one (show Kd.M (Kd.int .i64) _ _ _ (-1) [.int .i64 (-1)] from rfl) (Reps.one (show Kd.M (Kd.int .i64) _ _ _ 30 [.int .i64 30] from rfl) (Reps.none _ _))))))))))));intro v385 w3 ho4 hb hg_ hnew_;clear hg_ hnew_;(first|rw [← Ny384.out] at ho4|(simp only [Int.reduceToNat] at ho4;rw [← Ny384.out] at ho4));have n0_:=Aside0.mk (R_lower ho4 (keep_size (w:=w) (g:=g) (row:=none) (by repeat (first|(with_reducible first|exact HK.out|apply KeepBut.set_|apply keep_drewN|apply keep_drew|apply keep_alloc)|exact HK.out))));have n1_:=Aside0.mk (IsS52.below (by (try simp only [Int.add_zero]);repeat (first|(with_reducible first|exact HI0.out|apply IsS52.alloc|apply IsS52.drewN|apply IsS52.drew|apply IsS52.set_1|apply IsS52.set_2)|exact HI0.out)) hb);have n2_:=Aside0.mk (KeepBut.trans (by repeat (first|(with_reducible first|exact HK.out|apply KeepBut.set_|apply keep_drewN|apply keep_drew|apply keep_alloc)|exact HK.out)) (KeepBut.of_below hb g none) (.inl rfl));have n3_:=Aside0.mk (below_step (by repeat (first|(with_reducible first|exact HB.out|apply below_alloc|apply pw_below_drewN|apply below_drew1|refine below_set ?_ (IsS52.ge HI0.out))|exact HB.out)) hb);clear HI0;clear HK;clear HB;have HO386:=n0_;have HI0:=n1_;have HK:=n2_;have HB:=n3_;clear n0_ n1_ n2_ n3_;clear hb ho4;obtain ⟨Ao5,co5,eo5⟩:=R_slice HO386.out;subst eo5)|((with_reducible refine gate_callee (f:=62) rfl ?_);refine goesL_ (some 5) rfl rfl Try.func62 (by kernel_rfl) rfl #[.pointer (some ⟨g,0,none⟩),.slice Ao5 y384.length co5] rfl (by (try simp only [List.map_toArray,List.map_cons,List.map_nil]);first|done|rfl|(simp only [List.length_drop,List.length_take];rfl)) ?_;(with_reducible refine (spec_l1Cur_among.calls g s0_0 s0_1 s0_2 _ _ y384 t387 t388 t389 w0 _ ?side1 ?side2 ?side3 ?side4 ?side5 A2.out).mono ?_);(case side1=>repeat (first|(with_reducible first|exact HI0.out|apply IsS52.alloc|apply IsS52.drewN|apply IsS52.drew|apply IsS52.set_1|apply IsS52.set_2)|exact HI0.out));(case side2=>repeat (first|(with_reducible first|exact HB.out|apply below_alloc|apply pw_below_drewN|apply below_drew1|refine below_set ?_ (IsS52.ge HI0.out))|exact HB.out));(case side3=>exact cm (R_reads' HO386.out).2.2);(case side4=>exact (R_reads' HO386.out).2.1);(case side5=>exact far_slice (IsS52.own_ne HI0.out HO386.out (by decide)));rintro e w6 ⟨rfl,hi,hb,hk⟩;refine ⟨_,rfl,?_⟩;have n0_:=Aside0.mk (R_mono (R_keep (IsS52.apart (show IsS52 w0 _ g s0_0 s0_1 s0_2 from by (try simp only [Int.add_zero]);repeat (first|(with_reducible first|exact HI0.out|apply IsS52.alloc|apply IsS52.drewN|apply IsS52.drew|apply IsS52.set_1|apply IsS52.set_2)|exact HI0.out)) (rm HO386.out) (by decide)) hk (fun _ h=>h.2)) (fun _ h=>h.1));have n1_:=Aside0.mk (KeepBut.trans (by repeat (first|(with_reducible first|exact HK.out|apply KeepBut.set_|apply keep_drewN|apply keep_drew|apply keep_alloc)|exact HK.out)) hk (.inl rfl));have n2_:=Aside0.mk (hb);have n3_:=Aside0.mk (hi);clear HO386;clear HK;clear HB;clear HI0;have HO386:=n0_;have HK:=n1_;have HB:=n2_;have HI0:=n3_;clear n0_ n1_ n2_ n3_;(try clear hb);(try clear hb2);(try clear hk);(try clear hi)))
 go_ret
 exact ⟨by first|rfl|(simp [errW_none,errW_some] <;> rfl)|(simp [*,errW_none,errW_some] <;> rfl),by (try simp only [Int.add_zero]);repeat (first|(with_reducible first|exact HI0.out|apply IsS52.alloc|apply IsS52.drewN|apply IsS52.drew|apply IsS52.set_1|apply IsS52.set_2)|exact HI0.out),by repeat (first|(with_reducible first|exact HB.out|apply below_alloc|apply pw_below_drewN|apply below_drew1|refine below_set ?_ (IsS52.ge HI0.out))|exact HB.out),by repeat (first|(with_reducible first|exact HK.out|apply KeepBut.set_|apply keep_drewN|apply keep_drew|apply keep_alloc)|exact HK.out)⟩

/-! ### spec_DrawLaneAfter: function 38 -/
def spec_DrawLaneAfter.f (k : Nat) (l0 : List Int) : Option (List Int × Int):=(spec_l1Cur_lane.f k l0 0 0).bind fun bt391=>((spec_l1Cur_turns.f l0 bt391.2.1 bt391.2.2).bind fun bt396=>(some (bt391.1,bt396.1)))
theorem spec_DrawLaneAfter.mono : ∀ a0 k,LeO (spec_DrawLaneAfter.f k a0) (spec_DrawLaneAfter.f (k + 1) a0):=by
 intro a0 k
 unfold spec_DrawLaneAfter.f
 repeat' first
   | (with_reducible exact spec_l1Cur_lane.mono _ _ _ _)
   | (with_reducible exact LeO.refl _)
   | (with_reducible exact LeO.none _)
   | (with_reducible refine LeO.ite ?_ ?_)
   | (with_reducible refine LeO.bind ?_ (fun _=>?_))
   | exact spec_l1Cur_lane.mono _ _ _ _
   | exact LeO.none _
   | refine LeO.ite ?_ ?_
   | refine LeO.bind ?_ (fun _=>?_)
set_option maxHeartbeats 8000000 in
set_option maxRecDepth 100000 in
theorem spec_DrawLaneAfter.calls (k : Nat) (A0 : Option Addr) (c0 : Nat) (l0 : List Int) (r1 : List Int) (r2 : Int) (w : World) (hr0 : Kd.C (Kd.int .u8) w A0 l0.length l0) (hc0 : l0.length ≤ c0) (h : spec_DrawLaneAfter.f k l0 = some (r1,r2)) :
  Calls Try.prog 38 #[.slice A0 l0.length c0] w fun e w'=>∃ v0_ : Value,e = .returned (.tuple #[v0_,.int .i64 r2]) ∧ Kd.R (Kd.int .i64) 3 w' w.heap.size (fun _=>True) v0_ r1 ∧ Below w.heap.size w w':=by
 have hu52:=Try.underlying52
 have HR0:=Aside0.mk hr0
 have HC0:=Aside0.mk hc0
 clear hr0 hc0
 have HB:=Aside0.mk (Below.refl w.heap.size w)
 have H : ((spec_l1Cur_lane.f k l0 0 0).bind fun bt391=>((spec_l1Cur_turns.f l0 bt391.2.1 bt391.2.2).bind fun bt396=>(some (bt391.1,bt396.1)))) = some (r1,r2):=h
 clear h
 replace H:=Option.bind_eq_some_iff.mp H
 obtain ⟨⟨t391,t394,t395⟩,A20,H⟩:=H
 replace H : ((spec_l1Cur_turns.f l0 t394 t395).bind fun bt396=>(some (t391,bt396.1))) = some (r1,r2):=H
 have A2:=Aside0.mk A20
 clear A20
 replace H:=Option.bind_eq_some_iff.mp H
 obtain ⟨⟨t396,t397,t398⟩,A30,H⟩:=H
 replace H : (some (t391,t396)) = some (r1,r2):=H
 have A3:=Aside0.mk A30
 clear A30
 simp only [Option.some.injEq,Prod.mk.injEq] at H
 obtain ⟨rfl,rfl⟩:=H
 go_enter Try.func38,Try.ntmps38
 go_wp2_with (first|((with_reducible refine gate_dst (N:=7) rfl ?_);refine box_event ?hg (N:=7) ?hd (cs:=#[.slice A0 l0.length c0,.int .i64 0,.int .u64 0]) (t:=52) ?hr ?_;(case hd=>rfl);(case hg=>rfl);(case hr=>first|(go_simp;done)|(go_simp;rfl));intro gb390 hg w4 hbox hb;have n0_:=Aside0.mk (below_step (hm HB.out) hb);have n1_:=Aside0.mk ((⟨_,_,hbox,(by rw [hg];exact (below_size (hm HB.out)) : w.heap.size ≤ gb390),HR0.out⟩ : IsS52 w w4 gb390 l0 0 0));clear HB;have HB:=n0_;have HI390:=n1_;clear n0_ n1_;clear hb hbox hg)|((with_reducible refine gate_callee (f:=56) rfl ?_);refine goesL_ (some 9) rfl rfl Try.func56 (by kernel_rfl) rfl #[.pointer (some ⟨gb390,0,none⟩)] rfl (by (try simp only [List.map_toArray,List.map_cons,List.map_nil]);first|done|rfl|(simp only [List.length_drop,List.length_take];rfl)) ?_;(with_reducible refine (spec_l1Cur_lane.calls k gb390 l0 0 0 t391 t394 t395 w _ ?side1 ?side2 A2.out).mono ?_);(case side1=>repeat (first|(with_reducible first|exact HI390.out|apply IsS52.alloc|apply IsS52.drewN|apply IsS52.drew|apply IsS52.set_1|apply IsS52.set_2)|exact HI390.out));(case side2=>repeat (first|(with_reducible first|exact HB.out|apply below_alloc|apply pw_below_drewN|apply below_drew1|refine below_set ?_ (IsS52.ge HI390.out))|exact HB.out));rintro e w5 ⟨v392,rfl,ho0,hi,hb,hk⟩;refine ⟨_,rfl,?_⟩;have n0_:=Aside0.mk (R_lower ho0 (below_size (by repeat (first|(with_reducible first|exact HB.out|apply below_alloc|apply pw_below_drewN|apply below_drew1|refine below_set ?_ (IsS52.ge HI390.out))|exact HB.out))));have n1_:=Aside0.mk (hb);have n2_:=Aside0.mk (hi);clear HB;clear HI390;have HO393:=n0_;have HB:=n1_;have HI390:=n2_;clear n0_ n1_ n2_;(try clear hb);(try clear hb2);(try clear hk);(try clear hi);(try clear ho0))|((with_reducible refine gate_callee (f:=57) rfl ?_);refine goesL_ (some 11) rfl rfl Try.func57 (by kernel_rfl) rfl #[.pointer (some ⟨gb390,0,none⟩)] rfl (by (try simp only [List.map_toArray,List.map_cons,List.map_nil]);first|done|rfl|(simp only [List.length_drop,List.length_take];rfl)) ?_;(with_reducible refine (spec_l1Cur_turns.calls gb390 l0 t394 t395 t396 t397 t398 w _ ?side1 ?side2 A3.out).mono ?_);(case side1=>repeat (first|(with_reducible first|exact HI390.out|apply IsS52.alloc|apply IsS52.drewN|apply IsS52.drew|apply IsS52.set_1|apply IsS52.set_2)|exact HI390.out));(case side2=>repeat (first|(with_reducible first|exact HB.out|apply below_alloc|apply pw_below_drewN|apply below_drew1|refine below_set ?_ (IsS52.ge HI390.out))|exact HB.out));rintro e w6 ⟨rfl,hi,hb,hk⟩;refine ⟨_,rfl,?_⟩;have n0_:=Aside0.mk (R_mono (R_keep (IsS52.apart (show IsS52 w _ gb390 l0 t394 t395 from by repeat (first|(with_reducible first|exact HI390.out|apply IsS52.alloc|apply IsS52.drewN|apply IsS52.drew|apply IsS52.set_1|apply IsS52.set_2)|exact HI390.out)) (rm HO393.out) (by decide)) hk (fun _ h=>h.2)) (fun _ h=>h.1));have n1_:=Aside0.mk (hb);have n2_:=Aside0.mk (hi);clear HO393;clear HB;clear HI390;have HO393:=n0_;have HB:=n1_;have HI390:=n2_;clear n0_ n1_ n2_;(try clear hb);(try clear hb2);(try clear hk);(try clear hi)))
 go_ret2
 exact ⟨_,by first|rfl|(simp [errW_none,errW_some] <;> rfl)|(simp [*,errW_none,errW_some] <;> rfl),rm HO393.out,by repeat (first|(with_reducible first|exact HB.out|apply below_alloc|apply pw_below_drewN|apply below_drew1|refine below_set ?_ (IsS52.ge HI390.out))|exact HB.out)⟩


end
end Go.Proofs.Ythkbjcihelmaeaa.QFnLanes
