/- Functions that the law FnWires comes to, and their walks: no condition but those named. -/
import Derived.Test.YtciihopkgblpkaaQFnWiresx0
import Derived.Test.YtciihopkgblpkaaQFnWiresx2
import Derived.Test.YtciihopkgblpkaaQFnWiresx3
import Derived.Test.YtciihopkgblpkaaQFnWiresx7
import Derived.Test.YtciihopkgblpkaaQFnWiresx9
namespace Go.Proofs.Ytciihopkgblpkaa.QFnWires
open Go.RowKit Go.Proofs.YtciihopkgblpkaaW.PrintWords Go.Proofs.YtciihopkgblpkaaW.PrintLast Go.Proofs.YtciihopkgblpkaaW.PrintMore Go.Proofs.Ytciihopkgblpkaa.Short
attribute [local go_sem] max2_int min2_int max_two min_two max_three min_three max_four min_four
set_option linter.unusedVariables false
set_option linter.unusedSimpArgs false

section
open Kd
/-! ### spec_BeadsAt: function 31 -/
mutual
def spec_BeadsAt.j0 : Nat → Int → List Int → List Int → Bool → Int → List Int → List Int → Option (List Int × List Int × Bool)
 | 0,_,_,_,_,_,_,_=>none
 | k + 1,x1,x7,x8,x25,x308000,x308001,x308002=>if x25 = true then (some (x7,x8,false)) else ((spec_FallsOf.f k x308000 x308001 x308002).bind fun bt315=>(spec_BeadsAt.l0 k x1 x7 x8 bt315.1 0 x308000 x308001 x308002))
def spec_BeadsAt.l0 : Nat → Int → List Int → List Int → List Int → Int → Int → List Int → List Int → Option (List Int × List Int × Bool)
 | 0,_,_,_,_,_,_,_,_=>none
 | k + 1,x1,x7,x8,x9,x12,x308000,x308001,x308002=>if x12 < (x9.length : Int) then (if 0 ≤ x12 then (if (rd x9 x12) ≥ x1 then ((some (([x12] : List Int) : List Int)).bind fun y323=>(if x7.length + y323.length < 17592186044416 then (spec_BeadsAt.l0 k x1 (x7 ++ y323) x8 x9 (wrap64 (x12 + 1)) x308000 x308001 x308002) else (none))) else (spec_BeadsAt.l0 k x1 x7 x8 x9 (wrap64 (x12 + 1)) x308000 x308001 x308002)) else (none)) else ((spec_l8Shades.f k x308000 x308001 x308002).bind fun t329=>(spec_BeadsAt.l1 k x1 x7 x8 t329 0 x308000 x308001 x308002))
def spec_BeadsAt.l1 : Nat → Int → List Int → List Int → List Int → Int → Int → List Int → List Int → Option (List Int × List Int × Bool)
 | 0,_,_,_,_,_,_,_,_=>none
 | k + 1,x1,x7,x8,x13,x14,x308000,x308001,x308002=>if x14 < (x13.length : Int) then (if 0 ≤ x14 then (if (rd x13 x14) < x1 then (spec_BeadsAt.l1 k x1 x7 x8 x13 (wrap64 (x14 + 1)) x308000 x308001 x308002) else (if x14 < (x308001.length : Int) then (if x14 < (x308002.length : Int) then (spec_BeadsAt.l2 k x1 x7 x8 x13 x14 (wrap64 ((rd x308001 x14) + (wrap64 ((rd x308002 x14) * x1)))) 0 x308000 x308001 x308002) else (none)) else (none))) else (none)) else (some (x7,x8,true))
def spec_BeadsAt.l2 : Nat → Int → List Int → List Int → List Int → Int → Int → Int → Int → List Int → List Int → Option (List Int × List Int × Bool)
 | 0,_,_,_,_,_,_,_,_,_,_=>none
 | k + 1,x1,x7,x8,x13,x14,x15,x16,x308000,x308001,x308002=>if x16 < (x8.length : Int) then (if 0 ≤ x16 then (if (rd x8 x16) ≤ x15 then (spec_BeadsAt.l2 k x1 x7 x8 x13 x14 x15 (wrap64 (x16 + 1)) x308000 x308001 x308002) else (if x16 ≤ (x8.length : Int) then ((spec_l1Own.f (x8.take (x16 : Int).toNat)).bind fun t340=>((some (([x15] : List Int) : List Int)).bind fun y343=>(if t340.length + y343.length < 17592186044416 then ((some (t340 ++ y343 : List Int)).bind fun y346=>((some (x8.drop (x16 : Int).toNat : List Int)).bind fun y349=>(if y346.length + y349.length < 17592186044416 then (spec_BeadsAt.l1 k x1 x7 (y346 ++ y349) x13 (wrap64 (x14 + 1)) x308000 x308001 x308002) else (none)))) else (none)))) else (none))) else (none)) else (if 0 ≤ x16 then (if x16 ≤ (x8.length : Int) then ((spec_l1Own.f (x8.take (x16 : Int).toNat)).bind fun t360=>((some (([x15] : List Int) : List Int)).bind fun y363=>(if t360.length + y363.length < 17592186044416 then ((some (t360 ++ y363 : List Int)).bind fun y366=>((some (x8.drop (x16 : Int).toNat : List Int)).bind fun y369=>(if y366.length + y369.length < 17592186044416 then (spec_BeadsAt.l1 k x1 x7 (y366 ++ y369) x13 (wrap64 (x14 + 1)) x308000 x308001 x308002) else (none)))) else (none)))) else (none)) else (none))
end
def spec_BeadsAt.f (k : Nat) (a0_0 : Int) (l0_1 : List Int) (l0_2 : List Int) (a1 : Int) : Option (List Int × List Int × Bool):=(some (([] : List Int) : List Int)).bind fun y308=>((some (([] : List Int) : List Int)).bind fun y311=>((spec_l8Wire.f k a0_0 l0_1 l0_2).bind fun t314=>(if t314 = true then (spec_BeadsAt.j0 k a1 y308 y311 (decide (a1 < 0)) a0_0 l0_1 l0_2) else (spec_BeadsAt.j0 k a1 y308 y311 true a0_0 l0_1 l0_2))))
theorem spec_BeadsAt.mono_l : ∀ k,(∀ y0 y1 y2 y3 y4 y5 y6,LeO (spec_BeadsAt.j0 k y0 y1 y2 y3 y4 y5 y6) (spec_BeadsAt.j0 (k + 1) y0 y1 y2 y3 y4 y5 y6)) ∧ (∀ y0 y1 y2 y3 y4 y5 y6 y7,LeO (spec_BeadsAt.l0 k y0 y1 y2 y3 y4 y5 y6 y7) (spec_BeadsAt.l0 (k + 1) y0 y1 y2 y3 y4 y5 y6 y7)) ∧ (∀ y0 y1 y2 y3 y4 y5 y6 y7,LeO (spec_BeadsAt.l1 k y0 y1 y2 y3 y4 y5 y6 y7) (spec_BeadsAt.l1 (k + 1) y0 y1 y2 y3 y4 y5 y6 y7)) ∧ (∀ y0 y1 y2 y3 y4 y5 y6 y7 y8 y9,LeO (spec_BeadsAt.l2 k y0 y1 y2 y3 y4 y5 y6 y7 y8 y9) (spec_BeadsAt.l2 (k + 1) y0 y1 y2 y3 y4 y5 y6 y7 y8 y9))
 | 0=>by
  refine ⟨?_,?_,?_,?_⟩<;>(intros;intro r h;simp [spec_BeadsAt.j0,spec_BeadsAt.l0,spec_BeadsAt.l1,spec_BeadsAt.l2] at h)
 | k + 1=>by
  obtain ⟨ih0,ih1,ih2,ih3⟩:=spec_BeadsAt.mono_l k
  refine ⟨?_,?_,?_,?_⟩<;>intros<;>(first|unfold spec_BeadsAt.j0 | unfold spec_BeadsAt.l0 | unfold spec_BeadsAt.l1 | unfold spec_BeadsAt.l2)<;>(repeat' first|(with_reducible exact ih0 ..)|(with_reducible exact ih1 ..)|(with_reducible exact ih2 ..)|(with_reducible exact ih3 ..)|(with_reducible exact spec_FallsOf.mono _ _ _ _)|(with_reducible exact spec_l8Shades.mono _ _ _ _)|(with_reducible exact spec_l8Wire.mono _ _ _ _)|(with_reducible exact LeO.refl _)|(with_reducible exact LeO.none _)|(with_reducible refine LeO.ite ?_ ?_)|(with_reducible refine LeO.bind ?_ (fun _=>?_))|exact ih0 ..|exact ih1 ..|exact ih2 ..|exact ih3 ..|exact spec_FallsOf.mono _ _ _ _|exact spec_l8Shades.mono _ _ _ _|exact spec_l8Wire.mono _ _ _ _|exact LeO.none _|refine LeO.ite ?_ ?_|refine LeO.bind ?_ (fun _=>?_))
theorem spec_BeadsAt.mono : ∀ a0 a1 a2 a3 k,LeO (spec_BeadsAt.f k a0 a1 a2 a3) (spec_BeadsAt.f (k + 1) a0 a1 a2 a3):=by
 intro a0 a1 a2 a3 k
 obtain ⟨ih0,ih1,ih2,ih3⟩:=spec_BeadsAt.mono_l k
 unfold spec_BeadsAt.f
 repeat' first
   | (with_reducible exact ih0 _ _ _ _ _ _ _)
   | (with_reducible exact ih1 _ _ _ _ _ _ _ _)
   | (with_reducible exact ih2 _ _ _ _ _ _ _ _)
   | (with_reducible exact ih3 _ _ _ _ _ _ _ _ _ _)
   | (with_reducible exact spec_FallsOf.mono _ _ _ _)
   | (with_reducible exact spec_l8Shades.mono _ _ _ _)
   | (with_reducible exact spec_l8Wire.mono _ _ _ _)
   | (with_reducible exact LeO.refl _)
   | (with_reducible exact LeO.none _)
   | (with_reducible refine LeO.ite ?_ ?_)
   | (with_reducible refine LeO.bind ?_ (fun _=>?_))
   | exact ih0 _ _ _ _ _ _ _
   | exact ih1 _ _ _ _ _ _ _ _
   | exact ih2 _ _ _ _ _ _ _ _
   | exact ih3 _ _ _ _ _ _ _ _ _ _
   | exact spec_FallsOf.mono _ _ _ _
   | exact spec_l8Shades.mono _ _ _ _
   | exact spec_l8Wire.mono _ _ _ _
   | exact LeO.none _
   | refine LeO.ite ?_ ?_
   | refine LeO.bind ?_ (fun _=>?_)
def spec_BeadsAt.T15 : Bool × List (List Nat × List Nat):=(true,[([],[]),([0],[0]),([],[]),([1,2],[1,2]),([3],[3]),([],[]),([5],[5]),([],[]),([6,7],[6,7]),([8],[8]),([],[]),([9,10],[9,10]),([4,11],[4,11]),([12,0,1,2,3,4,5,6,7,8,9,10,11,12],[12]),([13,0,1,2,3,4,5,6,7,8,9,10,11,12,13],[])])
def spec_BeadsAt.B15 : List Nat:=[0,1,0,7,15,0,32,0,224,480,0,2016,4095,8191,16383]
theorem spec_BeadsAt.tab15 : rtab .any (opsOf Try.f31 15) = spec_BeadsAt.T15:=by kernel_rfl
theorem spec_BeadsAt.bits15 : waitsOk spec_BeadsAt.T15.2 spec_BeadsAt.B15 = true:=by kernel_rfl
def spec_BeadsAt.T18 : Bool × List (List Nat × List Nat):=(true,[([],[]),([],[]),([0,1],[0,1]),([2],[2]),([],[]),([4],[4]),([3,5,3],[3,5]),([],[]),([],[]),([7,8],[7,8]),([6,9,6],[6,9]),([10,10,0,1,2,3,4,5,6,7,8,9,10],[0,7,10])])
def spec_BeadsAt.B18 : List Nat:=[0,0,3,7,0,16,63,0,0,384,1023,2047]
theorem spec_BeadsAt.tab18 : rtab .any (opsOf Try.f31 18) = spec_BeadsAt.T18:=by kernel_rfl
theorem spec_BeadsAt.bits18 : waitsOk spec_BeadsAt.T18.2 spec_BeadsAt.B18 = true:=by kernel_rfl
set_option maxHeartbeats 8000000 in
set_option maxRecDepth 100000 in
theorem spec_BeadsAt.calls (k : Nat) (a0_0 : Int) (A0_1 : Option Addr) (c0_1 : Nat) (l0_1 : List Int) (A0_2 : Option Addr) (c0_2 : Nat) (l0_2 : List Int) (a1 : Int) (r1 : List Int) (r2 : List Int) (r3 : Bool) (w : World) (hr0_1 : Kd.C (Kd.int .i64) w A0_1 l0_1.length l0_1) (hc0_1 : l0_1.length ≤ c0_1) (hr0_2 : Kd.C (Kd.int .i64) w A0_2 l0_2.length l0_2) (hc0_2 : l0_2.length ≤ c0_2) (h : spec_BeadsAt.f k a0_0 l0_1 l0_2 a1 = some (r1,r2,r3)) :
  Calls Try.prog 31 #[.agg #[.int .i64 a0_0,.slice A0_1 l0_1.length c0_1,.slice A0_2 l0_2.length c0_2],.int .i64 a1] w fun e w'=>∃ v0_ v1_ : Value,e = .returned (.tuple #[v0_,v1_,.bool r3]) ∧ Kd.R (Kd.int .i64) 3 w' w.heap.size (fun k_=>ob k_ v1_) v0_ r1 ∧ Kd.R (Kd.int .i64) 3 w' w.heap.size (fun k_=>ob k_ v0_) v1_ r2 ∧ Below w.heap.size w w':=by
 have hu27:=Try.underlying27
 have HR0_1:=Aside0.mk hr0_1
 have HC0_1:=Aside0.mk hc0_1
 clear hr0_1 hc0_1
 have HR0_2:=Aside0.mk hr0_2
 have HC0_2:=Aside0.mk hc0_2
 clear hr0_2 hc0_2
 have HB:=Aside0.mk (Below.refl w.heap.size w)
 have H : ((some (([] : List Int) : List Int)).bind fun y308=>((some (([] : List Int) : List Int)).bind fun y311=>((spec_l8Wire.f k a0_0 l0_1 l0_2).bind fun t314=>(if t314 = true then (spec_BeadsAt.j0 k a1 y308 y311 (decide (a1 < 0)) a0_0 l0_1 l0_2) else (spec_BeadsAt.j0 k a1 y308 y311 true a0_0 l0_1 l0_2))))) = some (r1,r2,r3):=h
 clear h
 obtain ⟨y308,hy308⟩ : ∃ y_ : List Int,y_ = (([] : List Int)):=⟨_,rfl⟩
 replace H : ((some (([] : List Int) : List Int)).bind fun y311=>((spec_l8Wire.f k a0_0 l0_1 l0_2).bind fun t314=>(if t314 = true then (spec_BeadsAt.j0 k a1 y308 y311 (decide (a1 < 0)) a0_0 l0_1 l0_2) else (spec_BeadsAt.j0 k a1 y308 y311 true a0_0 l0_1 l0_2)))) = some (r1,r2,r3):=by first|(rw [hy308];with_reducible exact H)|(have H2_:=(Option.bind_some _ _).symm.trans H;rw [hy308];with_reducible exact H2_)|(have H2_:=(Option.bind_some _ _).symm.trans H;with_reducible exact H2_)|with_reducible exact H|(rw [hy308];exact H)|exact H
 have Ny308:=Aside0.mk hy308
 clear hy308
 obtain ⟨y311,hy311⟩ : ∃ y_ : List Int,y_ = (([] : List Int)):=⟨_,rfl⟩
 replace H : ((spec_l8Wire.f k a0_0 l0_1 l0_2).bind fun t314=>(if t314 = true then (spec_BeadsAt.j0 k a1 y308 y311 (decide (a1 < 0)) a0_0 l0_1 l0_2) else (spec_BeadsAt.j0 k a1 y308 y311 true a0_0 l0_1 l0_2))) = some (r1,r2,r3):=by first|(rw [hy311];with_reducible exact H)|(have H2_:=(Option.bind_some _ _).symm.trans H;rw [hy311];with_reducible exact H2_)|(have H2_:=(Option.bind_some _ _).symm.trans H;with_reducible exact H2_)|with_reducible exact H|(rw [hy311];exact H)|exact H
 have Ny311:=Aside0.mk hy311
 clear hy311
 have HC3:=Aside0.mk H
 clear H
 go_enter Try.func31,Try.ntmps31
 go_upto_region 2 with (first|((with_reducible refine gate_dst (N:=2) rfl ?_);refine box_event ?hg (N:=2) ?hd (cs:=#[.int .i64 a0_0,.slice A0_1 l0_1.length c0_1,.slice A0_2 l0_2.length c0_2]) (t:=27) ?hr ?_;(case hd=>rfl);(case hg=>rfl);(case hr=>first|(go_simp;done)|(go_simp;rfl));intro gb307 hg w4 hbox hb;have BK307:=ak hbox;have GW307:=ak ((by rw [hg];exact (below_size (hm HB.out)) : w.heap.size ≤ gb307));have GE307:=ak ((by rw [hg];exact (below_size (hm HB.out)) : w.heap.size ≤ gb307));replace HB:=bs HB hb;clear hb hbox hg)|((with_reducible refine gate_dst (N:=17) rfl ?_);refine R_lit (Kd.int .i64) _ 3 ?hg (N:=17) ?hd (xs:=([] : List Int)) (inner:=[]) (ok:=fun _=>True) (okp:=fun _=>True) ?hr ?hp (fun _ hk=>hk) trivial (Below.refl _ _) (Nat.le_refl _) (by simp) ?_;(case hd=>rfl);(case hg=>rfl);(case hr=>first|(go_simp;done)|(go_simp;rfl));(case hp=>exact (Reps.none _ _));intro v309 w5 ho6 hb hg_ hnew_;clear hg_ hnew_;(rw [← Ny308.out] at ho6);have HO310:=ak (R_lower ho6 (below_size (h1 HB.out GE307.out)));replace BK307:=kb BK307 hb;replace HB:=ak (below_step (h1 HB.out GE307.out) hb);clear hb ho6)|((with_reducible refine gate_dst (N:=18) rfl ?_);refine R_lit (Kd.int .i64) _ 3 ?hg (N:=18) ?hd (xs:=([] : List Int)) (inner:=[]) (ok:=fun _=>True) (okp:=fun _=>True) ?hr ?hp (fun _ hk=>hk) trivial (Below.refl _ _) (Nat.le_refl _) (by simp) ?_;(case hd=>rfl);(case hg=>rfl);(case hr=>first|(go_simp;done)|(go_simp;rfl));(case hp=>exact (Reps.none _ _));intro v312 w7 ho8 hb hg_ hnew_;clear hg_ hnew_;(rw [← Ny311.out] at ho8);have HO313:=ak (R_lower (R_new' ho8 (R_lt (rm HO310.out))) (below_size (h1 HB.out GE307.out)));replace HO310:=ak (R_elder' (rm HO310.out) (R_base ho8) hb);replace BK307:=kb BK307 hb;replace HB:=ak (below_step (h1 HB.out GE307.out) hb);clear hb ho8))
 go_cut [25] (fun v25 wc=>∃ (kq : Nat) (x25_2 : Bool),v25 = .bool x25_2 ∧ Aside0 (spec_BeadsAt.j0 kq a1 y308 y311 x25_2 a0_0 l0_1 l0_2 = some (r1,r2,r3)) ∧ Aside0 (kq ≤ k) ∧ Aside0 (Kd.R (Kd.int .i64) 3 wc w.heap.size (fun k_=>ob k_ v312) v309 y308) ∧ Aside0 (Kd.R (Kd.int .i64) 3 wc w.heap.size (fun k_=>ob k_ v309) v312 y311) ∧ Aside0 (wc.heap[gb307]? = some (.cells #[.int .i64 a0_0,(.slice A0_1 l0_1.length c0_1),(.slice A0_2 l0_2.length c0_2)] 27 (0,0))) ∧ Aside0 (Below w.heap.size w wc))
 case first =>
  have H:=HC3.out
  clear HC3
  replace H:=Option.bind_eq_some_iff.mp H
  obtain ⟨t314,A90,H⟩:=H
  have A9:=Aside0.mk A90
  clear A90
  by_cases c10 : t314 = true
  ·subst c10
   rw [if_pos rfl] at H
   have H':=Aside0.mk H
   clear H
   have hcz11_0 : w7.cell? ⟨gb307,0,none⟩ = some (.int .i64 a0_0):=(blk_cell BK307.out 0).trans rfl
   have hcz11_1 : w7.cell? ⟨gb307,1,none⟩ = some (.slice A0_1 l0_1.length c0_1):=(blk_cell BK307.out 1).trans rfl
   have hcz11_2 : w7.cell? ⟨gb307,2,none⟩ = some (.slice A0_2 l0_2.length c0_2):=(blk_cell BK307.out 2).trans rfl
   have hfz11_0:=blk_frozen BK307.out 0
   have hfz11_1:=blk_frozen BK307.out 1
   have hfz11_2:=blk_frozen BK307.out 2
   go_wp2_with (((with_reducible refine gate_callee (f:=40) rfl ?_);refine goesL_ (some 20) rfl rfl Try.func40 (by kernel_rfl) rfl #[.agg #[.int .i64 a0_0,.slice A0_1 l0_1.length c0_1,.slice A0_2 l0_2.length c0_2]] rfl gl ?_;(with_reducible refine (spec_l8Wire.calls k a0_0 _ _ l0_1 _ _ l0_2 true _ ?side1 ?side2 ?side3 ?side4 A9.out).mono ?_);(case side1=>exact cm (C_below HR0_1.out HB.out));(case side2=>exact HC0_1.out);(case side3=>exact cm (C_below HR0_2.out HB.out));(case side4=>exact HC0_2.out);rintro e w12 ⟨rfl,hb⟩;refine ⟨_,rfl,?_⟩;replace HO310:=rb HO310 hb;replace HO313:=rb HO313 hb;replace BK307:=kb BK307 hb;replace HB:=ak (below_step (h1 HB.out GE307.out) hb);(try clear hb)))
   go_meet
   case rel=>exact ⟨_,(decide (a1 < 0)),fd,H',⟨by first|omega|exact Nat.le_refl _⟩,⟨rm (R_mono HO310.out (fun _ hk=>hk.2))⟩,⟨rm (R_mono HO313.out (fun _ hk=>hk.2))⟩,⟨bm BK307.out⟩,⟨h1 HB.out GE307.out⟩⟩
  replace c10:=Bool.eq_false_iff.mpr c10
  subst c10
  rw [if_neg (show ¬ (false = true) by decide)] at H
  have H':=Aside0.mk H
  clear H
  have hcz13_0 : w7.cell? ⟨gb307,0,none⟩ = some (.int .i64 a0_0):=(blk_cell BK307.out 0).trans rfl
  have hcz13_1 : w7.cell? ⟨gb307,1,none⟩ = some (.slice A0_1 l0_1.length c0_1):=(blk_cell BK307.out 1).trans rfl
  have hcz13_2 : w7.cell? ⟨gb307,2,none⟩ = some (.slice A0_2 l0_2.length c0_2):=(blk_cell BK307.out 2).trans rfl
  have hfz13_0:=blk_frozen BK307.out 0
  have hfz13_1:=blk_frozen BK307.out 1
  have hfz13_2:=blk_frozen BK307.out 2
  go_wp2_with (((with_reducible refine gate_callee (f:=40) rfl ?_);refine goesL_ (some 20) rfl rfl Try.func40 (by kernel_rfl) rfl #[.agg #[.int .i64 a0_0,.slice A0_1 l0_1.length c0_1,.slice A0_2 l0_2.length c0_2]] rfl gl ?_;(with_reducible refine (spec_l8Wire.calls k a0_0 _ _ l0_1 _ _ l0_2 false _ ?side1 ?side2 ?side3 ?side4 A9.out).mono ?_);(case side1=>exact cm (C_below HR0_1.out HB.out));(case side2=>exact HC0_1.out);(case side3=>exact cm (C_below HR0_2.out HB.out));(case side4=>exact HC0_2.out);rintro e w14 ⟨rfl,hb⟩;refine ⟨_,rfl,?_⟩;replace HO310:=rb HO310 hb;replace HO313:=rb HO313 hb;replace BK307:=kb BK307 hb;replace HB:=ak (below_step (h1 HB.out GE307.out) hb);(try clear hb)))
  go_meet
  case rel=>exact ⟨_,(true),fd,H',⟨by first|omega|exact Nat.le_refl _⟩,⟨rm (R_mono HO310.out (fun _ hk=>hk.2))⟩,⟨rm (R_mono HO313.out (fun _ hk=>hk.2))⟩,⟨bm BK307.out⟩,⟨h1 HB.out GE307.out⟩⟩
 clear HC3
 obtain ⟨kq,x25_2,rfl,HA,HJ2,HO_7,HO_8,BK307,HB⟩:=hcut
 cases kq with
 | zero=>exact absurd HA.out (by simp [spec_BeadsAt.j0])
 | succ kj2 =>
  have H:=HA.out
  clear HA
  simp only [spec_BeadsAt.j0] at H
  by_cases c15 : x25_2 = true
  ·subst c15
   rw [if_pos rfl] at H
   simp only [Option.some.injEq,Prod.mk.injEq] at H
   obtain ⟨rfl,rfl,rfl⟩:=H
   go_wp2
   go_ret3
   exact ⟨_,_,fe,rm HO_7.out,rm HO_8.out,h1 HB.out GE307.out⟩
  replace c15:=Bool.eq_false_iff.mpr c15
  subst c15
  rw [if_neg (show ¬ (false = true) by decide)] at H
  replace H:=Option.bind_eq_some_iff.mp H
  obtain ⟨⟨t315,t318,t321⟩,A160,H⟩:=H
  (try dsimp only at H)
  have A16:=Aside0.mk A160
  clear A160
  have H':=Aside0.mk H
  clear H
  have hcz17_0 : wc.cell? ⟨gb307,0,none⟩ = some (.int .i64 a0_0):=(blk_cell BK307.out 0).trans rfl
  have hcz17_1 : wc.cell? ⟨gb307,1,none⟩ = some (.slice A0_1 l0_1.length c0_1):=(blk_cell BK307.out 1).trans rfl
  have hcz17_2 : wc.cell? ⟨gb307,2,none⟩ = some (.slice A0_2 l0_2.length c0_2):=(blk_cell BK307.out 2).trans rfl
  have hfz17_0:=blk_frozen BK307.out 0
  have hfz17_1:=blk_frozen BK307.out 1
  have hfz17_2:=blk_frozen BK307.out 2
  go_wp2_with (((with_reducible refine gate_callee (f:=29) rfl ?_);refine goesL_ (some 30) rfl rfl Try.func29 (by kernel_rfl) rfl #[.agg #[.int .i64 a0_0,.slice A0_1 l0_1.length c0_1,.slice A0_2 l0_2.length c0_2]] rfl gl ?_;(with_reducible refine (spec_FallsOf.calls kj2 a0_0 _ _ l0_1 _ _ l0_2 t315 t318 t321 _ ?side1 ?side2 ?side3 ?side4 A16.out).mono ?_);(case side1=>exact cm (C_below HR0_1.out HB.out));(case side2=>exact HC0_1.out);(case side3=>exact cm (C_below HR0_2.out HB.out));(case side4=>exact HC0_2.out);rintro e w18 ⟨v316,v319,rfl,ho0,ho1,hb⟩;refine ⟨_,rfl,?_⟩;have HO317:=ak (R_lower (R_new' (R_new' ho0 (R_lt (rm HO_7.out))) (R_lt (rm HO_8.out))) (below_size (h1 HB.out GE307.out)));have HO320:=ak (R_lower (R_new' (R_new' ho1 (R_lt (rm HO_7.out))) (R_lt (rm HO_8.out))) (below_size (h1 HB.out GE307.out)));replace HO_7:=ak (R_mono (R_told (R_told (R_old (rm HO_7.out) hb) (R_base ho0)) (R_base ho1)) (fun _ h_=>h_.1));replace HO_8:=ak (R_mono (R_told (R_told (R_old (rm HO_8.out) hb) (R_base ho0)) (R_base ho1)) (fun _ h_=>h_.1));replace BK307:=kb BK307 hb;replace HB:=ak (below_step (h1 HB.out GE307.out) hb);(try clear hb);(try clear ho0);(try clear ho1)))
  go_loopg [7,12] kj2 (fun kq v7 v12 w'=>∃ (x7_2 : List Int) (x12_2 : Int),v12 = .int .i64 x12_2 ∧ Aside0 (spec_BeadsAt.l0 kq a1 x7_2 y311 t315 x12_2 a0_0 l0_1 l0_2 = some (r1,r2,r3)) ∧ Aside0 (kq ≤ kj2) ∧ Aside0 (Kd.R (Kd.int .i64) 3 w' w.heap.size (fun k_=>ob k_ v312 ∧ ob k_ v316) v7 x7_2) ∧ Aside0 (Kd.R (Kd.int .i64) 3 w' w.heap.size (fun k_=>ob k_ v7 ∧ ob k_ v316) v312 y311) ∧ Aside0 (Kd.R (Kd.int .i64) 3 w' w.heap.size (fun k_=>ob k_ v7 ∧ ob k_ v312) v316 t315) ∧ Aside0 (w'.heap[gb307]? = some (.cells #[.int .i64 a0_0,(.slice A0_1 l0_1.length c0_1),(.slice A0_2 l0_2.length c0_2)] 27 (0,0))) ∧ Aside0 (Below w.heap.size w w'))
  case atStart=>exact ⟨(y308),(0),fd,H',⟨Nat.le_refl _⟩,⟨rm (R_mono HO_7.out (fun _ hk=>⟨hk.1.1,hk.1.2⟩))⟩,⟨rm (R_mono HO_8.out (fun _ hk=>⟨hk.1.1,hk.1.2⟩))⟩,⟨rm (R_mono HO317.out (fun _ hk=>⟨hk.1.2,hk.2⟩))⟩,⟨bm BK307.out⟩,⟨h1 HB.out GE307.out⟩⟩
  clear H'
  clear hcz17_0 hcz17_1 hcz17_2 hfz17_0 hfz17_1 hfz17_2
  obtain ⟨x7_2,x12_2,rfl,HA,HK2,HO_7,HO_8,HO_9,BK307,HB⟩:=hrel
  cases gk with
  | zero=>exact absurd HA.out (by simp [spec_BeadsAt.l0])
  | succ k2 =>
   have H:=HA.out
   clear HA
   simp only [spec_BeadsAt.l0] at H
   by_cases c19 : x12_2 < (t315.length : Int)
   ·rw [if_pos c19] at H
    have c19b0 : decide (x12_2 < (t315.length : Int)) = true:=decide_eq_true c19
    clear c19
    by_cases c20 : 0 ≤ x12_2
    rotate_left
    ·rw [if_neg c20] at H
     exact absurd H (by simp)
    rw [if_pos c20] at H
    have c20b0 : decide (0 ≤ x12_2) = true:=decide_eq_true c20
    clear c20
    by_cases c21 : (rd t315 x12_2) ≥ a1
    rotate_left
    ·rw [if_neg c21] at H
     have c21b0 : decide (a1 ≤ (rd t315 x12_2)) = false:=decide_eq_false c21
     clear c21
     have H':=Aside0.mk H
     clear H
     obtain ⟨Ao28,co28,eo28⟩:=R_slice HO_9.out
     subst eo28
     have p322 : 0 ≤ (x12_2 : Int):=od
     have q322 : x12_2 < (t315.length : Int):=od
     obtain ⟨ad322,e322,hx322_0⟩:=Kd.at_int (R_reads' HO_9.out).2.2 x12_2 p322 q322
     cases e322
     replace p322:=eq_true p322
     replace q322:=eq_true q322
     go_wp2
     go_roundg k2
     case measure=>have:=HJ2.out;have:=HK2.out;omega
     case rel=>exact ⟨(x7_2),(wrap64 (x12_2 + 1)),fd,H',⟨by have:=HJ2.out;have:=HK2.out;omega⟩,⟨rm HO_7.out⟩,⟨rm HO_8.out⟩,⟨rm HO_9.out⟩,⟨bm BK307.out⟩,⟨h1 HB.out GE307.out⟩⟩
    rw [if_pos c21] at H
    have c21b0 : decide (a1 ≤ (rd t315 x12_2)) = true:=decide_eq_true c21
    clear c21
    obtain ⟨y323,hy323⟩ : ∃ y_ : List Int,y_ = (([x12_2] : List Int)):=⟨_,rfl⟩
    replace H : (if x7_2.length + y323.length < 17592186044416 then (spec_BeadsAt.l0 k2 a1 (x7_2 ++ y323) y311 t315 (wrap64 (x12_2 + 1)) a0_0 l0_1 l0_2) else (none)) = some (r1,r2,r3):=by first|(rw [hy323];with_reducible exact H)|(have H2_:=(Option.bind_some _ _).symm.trans H;rw [hy323];with_reducible exact H2_)|(have H2_:=(Option.bind_some _ _).symm.trans H;with_reducible exact H2_)|with_reducible exact H|(rw [hy323];exact H)|exact H
    have Ny323:=Aside0.mk hy323
    clear hy323
    by_cases c22 : x7_2.length + y323.length < 17592186044416
    rotate_left
    ·rw [if_neg c22] at H
     exact absurd H (by simp)
    rw [if_pos c22] at H
    have LMc22:=Aside0.mk c22
    clear c22
    obtain ⟨y326,hy326⟩ : ∃ y_ : List Int,y_ = (x7_2 ++ y323):=⟨_,rfl⟩
    replace H : (spec_BeadsAt.l0 k2 a1 y326 y311 t315 (wrap64 (x12_2 + 1)) a0_0 l0_1 l0_2) = some (r1,r2,r3):=by first|(rw [hy326];with_reducible exact H)|(have H2_:=(Option.bind_some _ _).symm.trans H;rw [hy326];with_reducible exact H2_)|(have H2_:=(Option.bind_some _ _).symm.trans H;with_reducible exact H2_)|with_reducible exact H|(rw [hy326];exact H)|exact H
    have Ny326:=Aside0.mk hy326
    clear hy326
    have H':=Aside0.mk H
    clear H
    obtain ⟨Ao23,co23,eo23⟩:=R_slice HO_9.out
    subst eo23
    have p322 : 0 ≤ (x12_2 : Int):=od
    have q322 : x12_2 < (t315.length : Int):=od
    obtain ⟨ad322,e322,hx322_0⟩:=Kd.at_int (R_reads' HO_9.out).2.2 x12_2 p322 q322
    cases e322
    replace p322:=eq_true p322
    replace q322:=eq_true q322
    go_wp2_with (first|((with_reducible refine gate_dst (N:=48) rfl ?_);refine R_lit (Kd.int .i64) _ 3 ?hg (N:=48) ?hd (xs:=([x12_2] : List Int)) (inner:=[.int .i64 x12_2]) (ok:=fun _=>True) (okp:=fun _=>True) ?hr ?hp (fun _ hk=>hk) trivial (Below.refl _ _) (Nat.le_refl _) (by simp) ?_;(case hd=>rfl);(case hg=>rfl);(case hr=>first|(go_simp;done)|(go_simp;rfl));(case hp=>exact (Reps.one (show Kd.M (Kd.int .i64) _ _ _ x12_2 [.int .i64 x12_2] from rfl) (Reps.none _ _)));intro v324 w24 ho25 hb hg_ hnew_;clear hg_ hnew_;(rw [← Ny323.out] at ho25);have HO325:=ak (R_lower (R_new' (R_new' (R_new' ho25 (R_lt (rm HO_7.out))) (R_lt (rm HO_8.out))) (R_lt (rm HO_9.out))) (below_size (h1 HB.out GE307.out)));replace HO_7:=ak (R_elder' (rm HO_7.out) (R_base ho25) hb);replace HO_8:=ak (R_elder' (rm HO_8.out) (R_base ho25) hb);replace HO_9:=ak (R_elder' (rm HO_9.out) (R_base ho25) hb);replace BK307:=kb BK307 hb;replace HB:=ak (below_step (h1 HB.out GE307.out) hb);clear hb ho25;obtain ⟨Ao27,co27,eo27⟩:=R_slice HO325.out;subst eo27)|((with_reducible refine gate_builtin (b:=.append) (xs:=#[.tmp 46,.tmp 48]) rfl ?_);at_builtin;refine R_append_rows (Kd.int .i64) (w0:=w) w.heap.size rfl (.tmp 46) (.tmp 48) 22 3 (.int .i64 0) 8 rfl Try.underlying22 info3 rfl (by decide) (by omega) u7 x7_2 y323 _ _ _ (fun k_=>ob k_ v312 ∧ some k_ ≠ (.slice (some ad322) t315.length co23 : Value).ownBlock ∧ ob k_ (.slice Ao27 y323.length co27)) (fun _=>False) rfl rfl ?aO ?aR (fun _ _ h=>h) (fun _ h=>h.elim) ?aF ?aB ?aS ?aL ?_;(case aR=>exact cm (R_reads' HO325.out).2.2);(case aB=>exact (h1 HB.out GE307.out));(case aF=>exact (fun k_ hk=>⟨Kd.fresh' (R_lt (rm HO_8.out)) k_ hk,Kd.fresh' (R_lt (rm HO_9.out)) k_ hk,Kd.fresh' (R_lt (rm HO325.out)) k_ hk⟩));(case aO=>exact (rm (R_mono HO_7.out (fun _ hk=>⟨hk.1.1,⟨hk.1.2,hk.2⟩⟩))));(case aS=>exact (below_size (h1 HB.out GE307.out)));(case aL=>have:=LMc22.out;omega);intro v327 w26 ho hb hg hat;rw [← Ny326.out] at ho;replace HO_8:=ak (R_after (ok:=(fun k_=>some k_ ≠ (.slice (some ad322) t315.length co23 : Value).ownBlock ∧ ob k_ (.slice Ao27 y323.length co27))) (rm (R_mono HO_8.out (fun _ hk=>⟨⟨hk.1.2,hk.2⟩,hk.1.1⟩))) hg hat);replace HO_9:=ak (R_after (ok:=(fun k_=>ob k_ v312 ∧ ob k_ (.slice Ao27 y323.length co27))) (rm (R_mono HO_9.out (fun _ hk=>⟨⟨hk.1.2,hk.2⟩,hk.1.1⟩))) hg hat);replace BK307:=ak (blk_grown (g:=gb307) (o:=.cells #[.int .i64 a0_0,.slice A0_1 l0_1.length c0_1,.slice A0_2 l0_2.length c0_2] 27 (0,0)) (bm BK307.out) hg (R_ne HO_7.out BK307.out (by decide)));replace HO325:=ak (R_after (ok:=(fun k_=>ob k_ v312 ∧ some k_ ≠ (.slice (some ad322) t315.length co23 : Value).ownBlock)) (rm (R_mono HO325.out (fun _ hk=>⟨⟨hk.1.2,hk.2⟩,hk.1.1.2⟩))) hg hat);replace HB:=ak hb;have HO328:=ak ho;clear HO_7;clear ho hb hg hat))
    go_roundg k2
    case measure=>have:=HJ2.out;have:=HK2.out;omega
    case rel=>exact ⟨(y326),(wrap64 (x12_2 + 1)),fd,H',⟨by have:=HJ2.out;have:=HK2.out;omega⟩,⟨rm (R_mono HO328.out (fun _ hk=>⟨hk.1,hk.2.1⟩))⟩,⟨rm (R_mono HO_8.out (fun _ hk=>⟨hk.2,hk.1.1⟩))⟩,⟨rm (R_mono HO_9.out (fun _ hk=>⟨hk.2,hk.1.1⟩))⟩,⟨bm BK307.out⟩,⟨h1 HB.out GE307.out⟩⟩
   rw [if_neg c19] at H
   have c19b0 : decide (x12_2 < (t315.length : Int)) = false:=decide_eq_false c19
   clear c19
   replace H:=Option.bind_eq_some_iff.mp H
   obtain ⟨t329,A290,H⟩:=H
   have A29:=Aside0.mk A290
   clear A290
   have H':=Aside0.mk H
   clear H
   obtain ⟨Ao30,co30,eo30⟩:=R_slice HO_9.out
   subst eo30
   have hcz31_0 : wr.cell? ⟨gb307,0,none⟩ = some (.int .i64 a0_0):=(blk_cell BK307.out 0).trans rfl
   have hcz31_1 : wr.cell? ⟨gb307,1,none⟩ = some (.slice A0_1 l0_1.length c0_1):=(blk_cell BK307.out 1).trans rfl
   have hcz31_2 : wr.cell? ⟨gb307,2,none⟩ = some (.slice A0_2 l0_2.length c0_2):=(blk_cell BK307.out 2).trans rfl
   have hfz31_0:=blk_frozen BK307.out 0
   have hfz31_1:=blk_frozen BK307.out 1
   have hfz31_2:=blk_frozen BK307.out 2
   go_wp2_with (((with_reducible refine gate_callee (f:=44) rfl ?_);refine goesL_ (some 51) rfl rfl Try.func44 (by kernel_rfl) rfl #[.agg #[.int .i64 a0_0,.slice A0_1 l0_1.length c0_1,.slice A0_2 l0_2.length c0_2]] rfl gl ?_;(with_reducible refine (spec_l8Shades.calls k2 a0_0 _ _ l0_1 _ _ l0_2 t329 _ ?side1 ?side2 ?side3 ?side4 A29.out).mono ?_);(case side1=>exact cm (C_below HR0_1.out HB.out));(case side2=>exact HC0_1.out);(case side3=>exact cm (C_below HR0_2.out HB.out));(case side4=>exact HC0_2.out);rintro e w32 ⟨v330,rfl,ho0,hb⟩;refine ⟨_,rfl,?_⟩;have HO331:=ak (R_lower (R_new' (R_new' (R_new' ho0 (R_lt (rm HO_7.out))) (R_lt (rm HO_8.out))) (R_lt (rm HO_9.out))) (below_size (h1 HB.out GE307.out)));replace HO_7:=ak (R_elder' (rm HO_7.out) (R_base ho0) hb);replace HO_8:=ak (R_elder' (rm HO_8.out) (R_base ho0) hb);replace HO_9:=ak (R_elder' (rm HO_9.out) (R_base ho0) hb);replace BK307:=kb BK307 hb;replace HB:=ak (below_step (h1 HB.out GE307.out) hb);(try clear hb);(try clear ho0)))
   go_loopg [8,14] k2 (fun kq v8 v14 w'=>∃ (x8_3 : List Int) (x14_3 : Int),v14 = .int .i64 x14_3 ∧ Aside0 (spec_BeadsAt.l1 kq a1 x7_2 x8_3 t329 x14_3 a0_0 l0_1 l0_2 = some (r1,r2,r3)) ∧ Aside0 (kq ≤ k2) ∧ Aside0 (Kd.R (Kd.int .i64) 3 w' w.heap.size (fun k_=>ob k_ v8 ∧ ob k_ v330) u7 x7_2) ∧ Aside0 (Kd.R (Kd.int .i64) 3 w' w.heap.size (fun k_=>ob k_ u7 ∧ ob k_ v330) v8 x8_3) ∧ Aside0 (Kd.R (Kd.int .i64) 3 w' w.heap.size (fun k_=>ob k_ u7 ∧ ob k_ v8) v330 t329) ∧ Aside0 (w'.heap[gb307]? = some (.cells #[.int .i64 a0_0,(.slice A0_1 l0_1.length c0_1),(.slice A0_2 l0_2.length c0_2)] 27 (0,0))) ∧ Aside0 (Below w.heap.size w w'))
   case atStart=>exact ⟨(y311),(0),fd,H',⟨Nat.le_refl _⟩,⟨rm (R_mono HO_7.out (fun _ hk=>⟨hk.1.1,hk.2⟩))⟩,⟨rm (R_mono HO_8.out (fun _ hk=>⟨hk.1.1,hk.2⟩))⟩,⟨rm (R_mono HO331.out (fun _ hk=>⟨hk.1.1.2,hk.1.2⟩))⟩,⟨bm BK307.out⟩,⟨h1 HB.out GE307.out⟩⟩
   clear H'
   clear c19b0 hcz31_0 hcz31_1 hcz31_2 hfz31_0 hfz31_1 hfz31_2
   obtain ⟨x8_3,x14_3,rfl,HA,HK3,HO_7,HO_8,HO_13,BK307,HB⟩:=hrel
   cases gk with
   | zero=>exact absurd HA.out (by simp [spec_BeadsAt.l1])
   | succ k3 =>
    have H:=HA.out
    clear HA
    simp only [spec_BeadsAt.l1] at H
    by_cases c33 : x14_3 < (t329.length : Int)
    rotate_left
    ·rw [if_neg c33] at H
     have c33b0 : decide (x14_3 < (t329.length : Int)) = false:=decide_eq_false c33
     clear c33
     simp only [Option.some.injEq,Prod.mk.injEq] at H
     obtain ⟨rfl,rfl,rfl⟩:=H
     obtain ⟨Ao81,co81,eo81⟩:=R_slice HO_13.out
     subst eo81
     go_wp2
     go_ret3
     exact ⟨_,_,fe,rm (R_mono HO_7.out (fun _ hk=>hk.1)),rm (R_mono HO_8.out (fun _ hk=>hk.1)),h1 HB.out GE307.out⟩
    rw [if_pos c33] at H
    have c33b0 : decide (x14_3 < (t329.length : Int)) = true:=decide_eq_true c33
    clear c33
    by_cases c34 : 0 ≤ x14_3
    rotate_left
    ·rw [if_neg c34] at H
     exact absurd H (by simp)
    rw [if_pos c34] at H
    have c34b0 : decide (0 ≤ x14_3) = true:=decide_eq_true c34
    clear c34
    by_cases c35 : (rd t329 x14_3) < a1
    ·rw [if_pos c35] at H
     have c35b0 : decide ((rd t329 x14_3) < a1) = true:=decide_eq_true c35
     clear c35
     have H':=Aside0.mk H
     clear H
     obtain ⟨Ao36,co36,eo36⟩:=R_slice HO_13.out
     subst eo36
     have p332 : 0 ≤ (x14_3 : Int):=od
     have q332 : x14_3 < (t329.length : Int):=od
     obtain ⟨ad332,e332,hx332_0⟩:=Kd.at_int (R_reads' HO_13.out).2.2 x14_3 p332 q332
     cases e332
     replace p332:=eq_true p332
     replace q332:=eq_true q332
     go_wp2
     go_roundg k3
     case measure=>have:=HJ2.out;have:=HK2.out;have:=HK3.out;omega
     case rel=>exact ⟨(x8_3),(wrap64 (x14_3 + 1)),fd,H',⟨by have:=HJ2.out;have:=HK2.out;have:=HK3.out;omega⟩,⟨rm HO_7.out⟩,⟨rm HO_8.out⟩,⟨rm HO_13.out⟩,⟨bm BK307.out⟩,⟨h1 HB.out GE307.out⟩⟩
    rw [if_neg c35] at H
    have c35b0 : decide ((rd t329 x14_3) < a1) = false:=decide_eq_false c35
    clear c35
    by_cases c37 : x14_3 < (l0_1.length : Int)
    rotate_left
    ·rw [if_neg c37] at H
     exact absurd H (by simp)
    rw [if_pos c37] at H
    have c37b0 : decide (x14_3 < (l0_1.length : Int)) = true:=decide_eq_true c37
    clear c37
    by_cases c38 : x14_3 < (l0_2.length : Int)
    rotate_left
    ·rw [if_neg c38] at H
     exact absurd H (by simp)
    rw [if_pos c38] at H
    have c38b0 : decide (x14_3 < (l0_2.length : Int)) = true:=decide_eq_true c38
    clear c38
    have H':=Aside0.mk H
    clear H
    obtain ⟨Ao39,co39,eo39⟩:=R_slice HO_13.out
    subst eo39
    have p332 : 0 ≤ (x14_3 : Int):=od
    have q332 : x14_3 < (t329.length : Int):=od
    obtain ⟨ad332,e332,hx332_0⟩:=Kd.at_int (R_reads' HO_13.out).2.2 x14_3 p332 q332
    cases e332
    replace p332:=eq_true p332
    replace q332:=eq_true q332
    try go_wp2
    replace HO_7:=ak (R_drew HO_7.out)
    replace HO_8:=ak (R_drew HO_8.out)
    replace HO_13:=ak (R_drew HO_13.out)
    replace BK307:=ak (blk_drew BK307.out)
    replace HB:=ak (below_drew1 HB.out)
    have p333 : 0 ≤ (x14_3 : Int):=od
    have q333 : x14_3 < (l0_1.length : Int):=od
    obtain ⟨ad333,e333,hx333_0⟩:=Kd.at_int HR0_1.out x14_3 p333 q333
    have hw333_0:=hx333_0
    cases e333
    replace hx333_0:=(HB.out.cell (World.block_lt_of_cell? w _ hx333_0)).trans hx333_0
    replace p333:=eq_true p333
    replace q333:=eq_true q333
    have p334 : 0 ≤ (x14_3 : Int):=od
    have q334 : x14_3 < (l0_2.length : Int):=od
    obtain ⟨ad334,e334,hx334_0⟩:=Kd.at_int HR0_2.out x14_3 p334 q334
    have hw334_0:=hx334_0
    cases e334
    replace hx334_0:=(HB.out.cell (World.block_lt_of_cell? w _ hx334_0)).trans hx334_0
    replace p334:=eq_true p334
    replace q334:=eq_true q334
    refine start_ (n:=15) (S:=fun w'=>w'.cell? ⟨gb307,0,none⟩ = some (.int .i64 a0_0) ∧ w'.cell? ⟨gb307,1,none⟩ = some (.slice (some ad333) l0_1.length c0_1) ∧ w'.cell? ⟨gb307,2,none⟩ = some (.slice (some ad334) l0_2.length c0_2) ∧ w'.cell? (ad333.add (x14_3).toNat) = some (.int .i64 (rd l0_1 x14_3)) ∧ w'.cell? (ad334.add (x14_3).toNat) = some (.int .i64 (rd l0_2 x14_3))) (ds:=[]) (lb 15 0) (by kernel_rfl) rfl rfl ⟨(blk_cell BK307.out 0).trans rfl,(blk_cell BK307.out 1).trans rfl,(blk_cell BK307.out 2).trans rfl,((HB.out.cell (World.block_lt_of_cell? w _ hw333_0)).trans hw333_0),((HB.out.cell (World.block_lt_of_cell? w _ hw334_0)).trans hw334_0)⟩ (fun hHeld=>?_);refine with_tabW spec_BeadsAt.tab15 spec_BeadsAt.bits15 (fun HT_ HW_=>?_)
    generalize wr.drew = w40 at HO_7 HO_8 HO_13 BK307 HB hx333_0 hx334_0 hHeld ⊢
    refine pq 0 (N:=some 64) (lb 15 1) HT_ ?_
    refine pq 2 (N:=some 66) (lb 15 5) HT_ ?_
    refine pq 5 (N:=some 69) (lb 15 37) HT_ ?_
    refine pq 7 (N:=some 71) (lb 15 165) HT_ ?_
    refine pq 10 (N:=some 74) (lb 15 1189) HT_ ?_
    refine tq 1 (N:=some 65) (lb 15 1191) HT_ HW_ hHeld ?_
    refine pq 3 (N:=some 67) (lb 15 1199) HT_ ?_
    refine tq 4 (N:=some 68) (lb 15 1215) HT_ HW_ hHeld ?_
    refine tq 6 (N:=some 70) (lb 15 1279) HT_ HW_ hHeld ?_
    refine pq 8 (N:=some 72) (lb 15 1535) HT_ ?_
    refine tq 9 (N:=some 73) (lb 15 2047) HT_ HW_ hHeld ?_
    refine pq 11 (N:=some 75) (lb 15 4095) HT_ ?_
    refine pq 12 (N:=some 76) (lb 15 8191) HT_ ?_
    refine pq 13 (N:=some 15) (lb 15 16383) HT_ ?_
    refine pq 14 (N:=some 16) (lb 15 32767) HT_ ?_
    refine done_ (done_of HT_.out (by kernel_rfl)) ?_
    try go_wp2
    go_loopg [16] k3 (fun kq v16 w'=>∃ (x16_4 : Int),v16 = .int .i64 x16_4 ∧ Aside0 (spec_BeadsAt.l2 kq a1 x7_2 x8_3 t329 x14_3 (wrap64 ((rd l0_1 x14_3) + (wrap64 ((rd l0_2 x14_3) * a1)))) x16_4 a0_0 l0_1 l0_2 = some (r1,r2,r3)) ∧ Aside0 (kq ≤ k3) ∧ Aside0 (Kd.R (Kd.int .i64) 3 w' w.heap.size (fun k_=>ob k_ u8 ∧ some k_ ≠ ((.slice (some ad332) t329.length co39) : Value).ownBlock) u7 x7_2) ∧ Aside0 (Kd.R (Kd.int .i64) 3 w' w.heap.size (fun k_=>ob k_ u7 ∧ some k_ ≠ ((.slice (some ad332) t329.length co39) : Value).ownBlock) u8 x8_3) ∧ Aside0 (Kd.R (Kd.int .i64) 3 w' w.heap.size (fun k_=>ob k_ u7 ∧ ob k_ u8) (.slice (some ad332) t329.length co39) t329) ∧ Aside0 (w'.heap[gb307]? = some (.cells #[.int .i64 a0_0,(.slice (some ad333) l0_1.length c0_1),(.slice (some ad334) l0_2.length c0_2)] 27 (0,0))) ∧ Aside0 (Below w.heap.size w w'))
    case atStart=>exact ⟨(0),fd,H',⟨Nat.le_refl _⟩,⟨rm HO_7.out⟩,⟨rm HO_8.out⟩,⟨rm HO_13.out⟩,⟨bm BK307.out⟩,⟨h1 HB.out GE307.out⟩⟩
    clear H'
    clear c33b0 c34b0 c35b0 c37b0 c38b0 hx332_0 hx333_0 hx334_0 p332 p333 p334 q332 q333 q334
    obtain ⟨x16_4,rfl,HA,HK4,HO_7,HO_8,HO_13,BK307,HB⟩:=hrel
    cases gk with
    | zero=>exact absurd HA.out (by simp [spec_BeadsAt.l2])
    | succ k4 =>
     have H:=HA.out
     clear HA
     simp only [spec_BeadsAt.l2] at H
     by_cases c41 : x16_4 < (x8_3.length : Int)
     rotate_left
     ·rw [if_neg c41] at H
      have c41b0 : decide (x16_4 < (x8_3.length : Int)) = false:=decide_eq_false c41
      clear c41
      by_cases c63 : 0 ≤ x16_4
      rotate_left
      ·rw [if_neg c63] at H
       exact absurd H (by simp)
      rw [if_pos c63] at H
      have c63b0:=eq_true c63
      have c63b1 : decide (0 ≤ x16_4) = true:=decide_eq_true c63
      clear c63
      by_cases c64 : x16_4 ≤ (x8_3.length : Int)
      rotate_left
      ·rw [if_neg c64] at H
       exact absurd H (by simp)
      rw [if_pos c64] at H
      have c64b0:=eq_true c64
      have c64b1 : decide (x16_4 ≤ (x8_3.length : Int)) = true:=decide_eq_true c64
      clear c64
      obtain ⟨y356,hy356⟩ : ∃ y_ : List Int,y_ = (x8_3.take (x16_4 : Int).toNat):=⟨_,rfl⟩
      replace H : ((spec_l1Own.f y356).bind fun t360=>((some (([(wrap64 ((rd l0_1 x14_3) + (wrap64 ((rd l0_2 x14_3) * a1))))] : List Int) : List Int)).bind fun y363=>(if t360.length + y363.length < 17592186044416 then ((some (t360 ++ y363 : List Int)).bind fun y366=>((some (x8_3.drop (x16_4 : Int).toNat : List Int)).bind fun y369=>(if y366.length + y369.length < 17592186044416 then (spec_BeadsAt.l1 k4 a1 x7_2 (y366 ++ y369) t329 (wrap64 (x14_3 + 1)) a0_0 l0_1 l0_2) else (none)))) else (none)))) = some (r1,r2,r3):=by first|(rw [hy356];with_reducible exact H)|(have H2_:=(Option.bind_some _ _).symm.trans H;rw [hy356];with_reducible exact H2_)|(have H2_:=(Option.bind_some _ _).symm.trans H;with_reducible exact H2_)|with_reducible exact H|(rw [hy356];exact H)|exact H
      have Ny356:=Aside0.mk hy356
      clear hy356
      replace H:=Option.bind_eq_some_iff.mp H
      obtain ⟨t360,A650,H⟩:=H
      have A65:=Aside0.mk A650
      clear A650
      obtain ⟨y363,hy363⟩ : ∃ y_ : List Int,y_ = (([(wrap64 ((rd l0_1 x14_3) + (wrap64 ((rd l0_2 x14_3) * a1))))] : List Int)):=⟨_,rfl⟩
      replace H : (if t360.length + y363.length < 17592186044416 then ((some (t360 ++ y363 : List Int)).bind fun y366=>((some (x8_3.drop (x16_4 : Int).toNat : List Int)).bind fun y369=>(if y366.length + y369.length < 17592186044416 then (spec_BeadsAt.l1 k4 a1 x7_2 (y366 ++ y369) t329 (wrap64 (x14_3 + 1)) a0_0 l0_1 l0_2) else (none)))) else (none)) = some (r1,r2,r3):=by first|(rw [hy363];with_reducible exact H)|(have H2_:=(Option.bind_some _ _).symm.trans H;rw [hy363];with_reducible exact H2_)|(have H2_:=(Option.bind_some _ _).symm.trans H;with_reducible exact H2_)|with_reducible exact H|(rw [hy363];exact H)|exact H
      have Ny363:=Aside0.mk hy363
      clear hy363
      by_cases c66 : t360.length + y363.length < 17592186044416
      rotate_left
      ·rw [if_neg c66] at H
       exact absurd H (by simp)
      rw [if_pos c66] at H
      have LMc66:=Aside0.mk c66
      clear c66
      obtain ⟨y366,hy366⟩ : ∃ y_ : List Int,y_ = (t360 ++ y363):=⟨_,rfl⟩
      replace H : ((some (x8_3.drop (x16_4 : Int).toNat : List Int)).bind fun y369=>(if y366.length + y369.length < 17592186044416 then (spec_BeadsAt.l1 k4 a1 x7_2 (y366 ++ y369) t329 (wrap64 (x14_3 + 1)) a0_0 l0_1 l0_2) else (none))) = some (r1,r2,r3):=by first|(rw [hy366];with_reducible exact H)|(have H2_:=(Option.bind_some _ _).symm.trans H;rw [hy366];with_reducible exact H2_)|(have H2_:=(Option.bind_some _ _).symm.trans H;with_reducible exact H2_)|with_reducible exact H|(rw [hy366];exact H)|exact H
      have Ny366:=Aside0.mk hy366
      clear hy366
      have c67b0:=eq_true (od : 0 ≤ x16_4)
      have c68b0:=eq_true (od : x16_4 ≤ (x8_3.length : Int))
      obtain ⟨y369,hy369⟩ : ∃ y_ : List Int,y_ = (x8_3.drop (x16_4 : Int).toNat):=⟨_,rfl⟩
      replace H : (if y366.length + y369.length < 17592186044416 then (spec_BeadsAt.l1 k4 a1 x7_2 (y366 ++ y369) t329 (wrap64 (x14_3 + 1)) a0_0 l0_1 l0_2) else (none)) = some (r1,r2,r3):=by first|(rw [hy369];with_reducible exact H)|(have H2_:=(Option.bind_some _ _).symm.trans H;rw [hy369];with_reducible exact H2_)|(have H2_:=(Option.bind_some _ _).symm.trans H;with_reducible exact H2_)|with_reducible exact H|(rw [hy369];exact H)|exact H
      have Ny369:=Aside0.mk hy369
      clear hy369
      by_cases c69 : y366.length + y369.length < 17592186044416
      rotate_left
      ·rw [if_neg c69] at H
       exact absurd H (by simp)
      rw [if_pos c69] at H
      have LMc69:=Aside0.mk c69
      clear c69
      obtain ⟨y373,hy373⟩ : ∃ y_ : List Int,y_ = (y366 ++ y369):=⟨_,rfl⟩
      replace H : (spec_BeadsAt.l1 k4 a1 x7_2 y373 t329 (wrap64 (x14_3 + 1)) a0_0 l0_1 l0_2) = some (r1,r2,r3):=by first|(rw [hy373];with_reducible exact H)|(have H2_:=(Option.bind_some _ _).symm.trans H;rw [hy373];with_reducible exact H2_)|(have H2_:=(Option.bind_some _ _).symm.trans H;with_reducible exact H2_)|with_reducible exact H|(rw [hy373];exact H)|exact H
      have Ny373:=Aside0.mk hy373
      clear hy373
      have H':=Aside0.mk H
      clear H
      obtain ⟨Ao70,co70,eo70⟩:=R_slice HO_8.out
      subst eo70
      try go_wp2
      replace HO_7:=ak (R_drew HO_7.out)
      replace HO_8:=ak (R_drew HO_8.out)
      replace HO_13:=ak (R_drew HO_13.out)
      replace BK307:=ak (blk_drew BK307.out)
      replace HB:=ak (below_drew1 HB.out)
      have q72 : (x16_4 : Int) ≤ ((x8_3.length : Int) : Int):=od
      obtain ⟨i072,hi072,_,hsz72,_⟩:=info_parts info3
      have hroom72 : x8_3.length ≤ co70:=(R_reads' HO_8.out).2.1
      have hC72 : Kd.C (Kd.int .i64) _ Ao70 x8_3.length x8_3:=(R_reads' HO_8.out).2.2
      have hcut72:=cut_to (P:=Try.prog) 22 3 .i64 Try.underlying22 hi072 Ao70 x8_3.length co70 x16_4 (od) q72 hroom72
      have hr72:=C_take (m:=(x16_4 : Int).toNat) hC72 (by omega)
      have hy72 : y356.length = (x16_4 : Int).toNat:=(by rw [Ny356.out,List.length_take];omega)
      rw [← Ny356.out] at hr72
      rw [← hy72] at hcut72
      have HR359:=Aside0.mk hr72
      have HC359:=Aside0.mk (show y356.length ≤ co70 from by omega)
      clear hr72 hC72 hroom72 hi072 hsz72
      have KY72:=Aside0.mk hy72
      clear hy72
      have KL72:=Aside0.mk (show (x16_4 : Int).toNat ≤ x8_3.length from by omega)
      replace q72:=eq_true q72
      have q73 : (x16_4 : Int) ≤ ((x8_3.length : Int) : Int):=od
      obtain ⟨i073,hi073,_,hsz73,_⟩:=info_parts info3
      have hroom73 : x8_3.length ≤ co70:=(R_reads' HO_8.out).2.1
      have hC73 : Kd.C (Kd.int .i64) _ Ao70 x8_3.length x8_3:=(R_reads' HO_8.out).2.2
      have q073 : (0 : Int) ≤ (x16_4 : Int):=od
      have hcut73:=cut_from (P:=Try.prog) 22 3 .i64 Try.underlying22 hi073 1 hsz73 Ao70 x8_3.length co70 x16_4 q073 q73
      have hr73:=C_drop (m:=(x16_4 : Int).toNat) (c:=co70) hC73 (by omega) hroom73
      obtain ⟨A73,hA73⟩ : ∃ A_,A_ = (if co70 = (x16_4 : Int).toNat then Ao70 else (Ao70 : Option Addr).map (·.add ((x16_4 : Int).toNat * 1))):=⟨_,rfl⟩
      obtain ⟨c73,hc73⟩ : ∃ c1,c1 = co70 - (x16_4 : Int).toNat:=⟨_,rfl⟩
      have hy73 : y369.length = x8_3.length - (x16_4 : Int).toNat:=(by rw [Ny369.out,List.length_drop] <;> omega)
      rw [show (x8_3).drop (x16_4 : Int).toNat = y369 from Ny369.out.symm] at hr73
      replace hr73 : Kd.C (Kd.int .i64) _ A73 y369.length y369:=(by rw [hA73];exact hr73)
      rw [← hy73,← hA73,← hc73] at hcut73
      have HR372:=Aside0.mk hr73
      have HC372:=Aside0.mk (show y369.length ≤ c73 from by rw [hy73,hc73];exact Nat.sub_le_sub_right hroom73 _)
      clear hr73 hC73 hroom73 hi073 hsz73 hc73
      have KY73:=Aside0.mk hy73
      have KA73:=Aside0.mk hA73
      clear hy73 hA73
      have KL73:=Aside0.mk (show (x16_4 : Int).toNat ≤ x8_3.length from by omega)
      replace q73:=eq_true q73
      refine start_ (n:=12) (S:=fun w'=>True) (ds:=[]) (lb 12 0) (by kernel_rfl) rfl rfl trivial (fun hHeld=>?_);refine with_tabW spec_BeadsAt.tab18 spec_BeadsAt.bits18 (fun HT_ HW_=>?_)
      generalize wr.drew = w71 at HO_7 HO_8 HO_13 BK307 HB HR359 HR372 hHeld ⊢
      refine pq 0 (N:=some 91) (lb 12 1) HT_ ?_
      refine pq 1 (N:=some 92) (lb 12 3) HT_ ?_
      refine pq 2 (N:=some 93) (lb 12 7) HT_ ?_
      refine pq 4 (N:=some 95) (lb 12 23) HT_ ?_
      refine pq 7 (N:=some 98) (lb 12 151) HT_ ?_
      refine pq 8 (N:=some 99) (lb 12 407) HT_ ?_
      refine pq 9 (N:=some 100) (lb 12 919) HT_ ?_
      refine join_ (σ:=Value × Value) 3 (lb 12 959) (fun s_=>[(94,s_.1),(96,s_.2)]) (fun s_ w'=>(Kd.R (Kd.int .i64) 3 w' w.heap.size (fun k_=>some k_ ≠ (s_.2 : Value).ownBlock ∧ some k_ ≠ (.slice (some ad332) t329.length co39 : Value).ownBlock ∧ ob k_ u7 ∧ ob k_ (.slice Ao70 x8_3.length co70)) s_.1 t360) ∧ (Kd.R (Kd.int .i64) 3 w' w.heap.size (fun k_=>some k_ ≠ (s_.1 : Value).ownBlock ∧ some k_ ≠ (.slice (some ad332) t329.length co39 : Value).ownBlock ∧ ob k_ u7 ∧ ob k_ (.slice Ao70 x8_3.length co70)) s_.2 y363) ∧ (Kd.R (Kd.int .i64) 3 w' w.heap.size (fun k_=>some k_ ≠ (s_.1 : Value).ownBlock ∧ some k_ ≠ (s_.2 : Value).ownBlock ∧ ob k_ u7 ∧ ob k_ (.slice Ao70 x8_3.length co70)) (.slice (some ad332) t329.length co39) t329) ∧ (Kd.R (Kd.int .i64) 3 w' w.heap.size (fun k_=>some k_ ≠ (s_.1 : Value).ownBlock ∧ some k_ ≠ (s_.2 : Value).ownBlock ∧ some k_ ≠ (.slice (some ad332) t329.length co39 : Value).ownBlock ∧ ob k_ (.slice Ao70 x8_3.length co70)) u7 x7_2) ∧ (Kd.R (Kd.int .i64) 3 w' w.heap.size (fun k_=>some k_ ≠ (s_.1 : Value).ownBlock ∧ some k_ ≠ (s_.2 : Value).ownBlock ∧ some k_ ≠ (.slice (some ad332) t329.length co39 : Value).ownBlock ∧ ob k_ u7) (.slice Ao70 x8_3.length co70) x8_3) ∧ (w'.heap[gb307]? = some (.cells #[.int .i64 a0_0,.slice (some ad333) l0_1.length c0_1,.slice (some ad334) l0_2.length c0_2] 27 (0,0))) ∧ (Below w.heap.size w w')) ?_ ?_
      rotate_left
      ·intro hCont
       refine two_ (i:=3) (j:=5) (Ni:=some 94) (Nj:=some 96) (lb 12 927) (lb 12 951) rfl rfl rfl rfl (two_of HT_.out (by kernel_rfl)) (by decide) (by decide) (fun K hK=>?_) (fun K hK=>?_)
       rotate_left
       ·skip
        refine R_lit_step (Kd.int .i64) _ 3 ?hg (N:=96) ?hd (xs:=([(wrap64 ((rd l0_1 x14_3) + (wrap64 ((rd l0_2 x14_3) * a1))))] : List Int)) (inner:=[.int .i64 (wrap64 ((rd l0_1 x14_3) + (wrap64 ((rd l0_2 x14_3) * a1))))]) (ok:=fun _=>True) (okp:=fun _=>True) ?hr ?hp (fun _ hk=>hk) trivial (Below.refl _ _) (Nat.le_refl _) (by simp) ?_;(case hd=>rfl);(case hg=>rfl);(case hr=>first|(go_simp;done)|(go_simp;rfl));(case hp=>exact (Reps.one (show Kd.M (Kd.int .i64) _ _ _ (wrap64 ((rd l0_1 x14_3) + (wrap64 ((rd l0_2 x14_3) * a1)))) [.int .i64 (wrap64 ((rd l0_1 x14_3) + (wrap64 ((rd l0_2 x14_3) * a1))))] from rfl) (Reps.none _ _)))
        intro v364 w74 ho75 hb hg_ hnew_
        clear hg_ hnew_
        (rw [← Ny363.out] at ho75)
        have HO365:=ak (R_lower (R_new' (R_new' (R_new' ho75 (R_lt (rm HO_7.out))) (R_lt (rm HO_8.out))) (R_lt (rm HO_13.out))) (below_size (h1 HB.out GE307.out)))
        replace HO_7:=ak (R_elder' (rm HO_7.out) (R_base ho75) hb)
        replace HO_8:=ak (R_elder' (rm HO_8.out) (R_base ho75) hb)
        replace HO_13:=ak (R_elder' (rm HO_13.out) (R_base ho75) hb)
        replace BK307:=kb BK307 hb
        replace HR359:=ak (C_below (by repeat ((with_reducible exact HR359.out))) hb)
        replace HR372:=ak (C_below (by repeat ((with_reducible exact HR372.out))) hb)
        replace HB:=ak (below_step (h1 HB.out GE307.out) hb)
        clear hb ho75
        refine hK.out _ _ trivial (fun hHeld=>?_)
        clear hK K
        refine norm_ (a':=?_) ?_ ?_
        rotate_left
        ·show Act.put _ (some 96) _ = _
         simp only [ap]
         rfl
        refine one_ (i:=3) (N:=some 94) (lb 12 959) rfl rfl (one_of HT_.out (by kernel_rfl)) (by decide) (fun K hK=>?_)
        refine goes_ Try.func53 (by kernel_rfl) rfl #[.slice Ao70 y356.length co70] (by rfl) rfl rfl gl ?_
        with_reducible refine (spec_l1Own.calls _ _ y356 t360 _ ?side1 ?side2 A65.out).mono ?_
        (case side1=>repeat (exact (by repeat ((with_reducible exact HR359.out)))))
        (case side2=>exact HC359.out)
        rintro e w76 ⟨v361,rfl,ho0,hb⟩
        refine ⟨_,rfl,?_⟩
        have HO362:=ak (R_lower (R_new' (R_new' (R_new' (R_new' ho0 (R_lt (rm HO_7.out))) (R_lt (rm HO_8.out))) (R_lt (rm HO_13.out))) (R_lt (rm HO365.out))) (below_size (h1 HB.out GE307.out)))
        replace HO_7:=ak (R_elder' (rm HO_7.out) (R_base ho0) hb)
        replace HO_8:=ak (R_elder' (rm HO_8.out) (R_base ho0) hb)
        replace HO_13:=ak (R_elder' (rm HO_13.out) (R_base ho0) hb)
        replace HO365:=ak (R_elder' (rm HO365.out) (R_base ho0) hb)
        replace BK307:=kb BK307 hb
        replace HR359:=ak (C_below (by repeat ((with_reducible exact HR359.out))) hb)
        replace HR372:=ak (C_below (by repeat ((with_reducible exact HR372.out))) hb)
        replace HB:=ak (below_step (h1 HB.out GE307.out) hb)
        (try clear hb)
        (try clear ho0)
        refine hK.out _ _ trivial (fun hHeld=>?_)
        clear hK K
        refine norm_ (a':=?_) ?_ ?_
        rotate_left
        ·show Act.put _ (some 94) _ = _
         simp only [ap]
         rfl
        exact norm_ (by simp only [putAll,Act.put,List.setIfInBounds_toArray,List.set_cons_zero,List.set_cons_succ]) (hCont (v361,v364) _ ⟨(rm (R_mono HO362.out (fun _ hk=>⟨hk.2,⟨hk.1.2,⟨hk.1.1.1.2,hk.1.1.2⟩⟩⟩))),(rm (R_mono HO365.out (fun _ hk=>⟨hk.2,⟨hk.1.2,⟨hk.1.1.1.2,hk.1.1.2⟩⟩⟩))),(rm (R_mono HO_13.out (fun _ hk=>⟨hk.2,⟨hk.1.2,⟨hk.1.1.1,hk.1.1.2⟩⟩⟩))),(rm (R_mono HO_7.out (fun _ hk=>⟨hk.2,⟨hk.1.2,⟨hk.1.1.2,hk.1.1.1⟩⟩⟩))),(rm (R_mono HO_8.out (fun _ hk=>⟨hk.2,⟨hk.1.2,⟨hk.1.1.2,hk.1.1.1⟩⟩⟩))),(bm BK307.out),(h1 HB.out GE307.out)⟩)
       skip
       refine goes_ Try.func53 (by kernel_rfl) rfl #[.slice Ao70 y356.length co70] (by rfl) rfl rfl gl ?_
       with_reducible refine (spec_l1Own.calls _ _ y356 t360 _ ?side1 ?side2 A65.out).mono ?_
       (case side1=>repeat (exact (by repeat ((with_reducible exact HR359.out)))))
       (case side2=>exact HC359.out)
       rintro e w74 ⟨v361,rfl,ho0,hb⟩
       refine ⟨_,rfl,?_⟩
       have HO362:=ak (R_lower (R_new' (R_new' (R_new' ho0 (R_lt (rm HO_7.out))) (R_lt (rm HO_8.out))) (R_lt (rm HO_13.out))) (below_size (h1 HB.out GE307.out)))
       replace HO_7:=ak (R_elder' (rm HO_7.out) (R_base ho0) hb)
       replace HO_8:=ak (R_elder' (rm HO_8.out) (R_base ho0) hb)
       replace HO_13:=ak (R_elder' (rm HO_13.out) (R_base ho0) hb)
       replace BK307:=kb BK307 hb
       replace HR359:=ak (C_below (by repeat ((with_reducible exact HR359.out))) hb)
       replace HR372:=ak (C_below (by repeat ((with_reducible exact HR372.out))) hb)
       replace HB:=ak (below_step (h1 HB.out GE307.out) hb)
       (try clear hb)
       (try clear ho0)
       refine hK.out _ _ trivial (fun hHeld=>?_)
       clear hK K
       refine norm_ (a':=?_) ?_ ?_
       rotate_left
       ·show Act.put _ (some 94) _ = _
        simp only [ap]
        rfl
       refine one_ (i:=5) (N:=some 96) (lb 12 959) rfl rfl (one_of HT_.out (by kernel_rfl)) (by decide) (fun K hK=>?_)
       refine R_lit_step (Kd.int .i64) _ 3 ?hg (N:=96) ?hd (xs:=([(wrap64 ((rd l0_1 x14_3) + (wrap64 ((rd l0_2 x14_3) * a1))))] : List Int)) (inner:=[.int .i64 (wrap64 ((rd l0_1 x14_3) + (wrap64 ((rd l0_2 x14_3) * a1))))]) (ok:=fun _=>True) (okp:=fun _=>True) ?hr ?hp (fun _ hk=>hk) trivial (Below.refl _ _) (Nat.le_refl _) (by simp) ?_;(case hd=>rfl);(case hg=>rfl);(case hr=>first|(go_simp;done)|(go_simp;rfl));(case hp=>exact (Reps.one (show Kd.M (Kd.int .i64) _ _ _ (wrap64 ((rd l0_1 x14_3) + (wrap64 ((rd l0_2 x14_3) * a1)))) [.int .i64 (wrap64 ((rd l0_1 x14_3) + (wrap64 ((rd l0_2 x14_3) * a1))))] from rfl) (Reps.none _ _)))
       intro v364 w75 ho76 hb hg_ hnew_
       clear hg_ hnew_
       (rw [← Ny363.out] at ho76)
       have HO365:=ak (R_lower (R_new' (R_new' (R_new' (R_new' ho76 (R_lt (rm HO_7.out))) (R_lt (rm HO_8.out))) (R_lt (rm HO_13.out))) (R_lt (rm HO362.out))) (below_size (h1 HB.out GE307.out)))
       replace HO_7:=ak (R_elder' (rm HO_7.out) (R_base ho76) hb)
       replace HO_8:=ak (R_elder' (rm HO_8.out) (R_base ho76) hb)
       replace HO_13:=ak (R_elder' (rm HO_13.out) (R_base ho76) hb)
       replace HO362:=ak (R_elder' (rm HO362.out) (R_base ho76) hb)
       replace BK307:=kb BK307 hb
       replace HR359:=ak (C_below (by repeat ((with_reducible exact HR359.out))) hb)
       replace HR372:=ak (C_below (by repeat ((with_reducible exact HR372.out))) hb)
       replace HB:=ak (below_step (h1 HB.out GE307.out) hb)
       clear hb ho76
       refine hK.out _ _ trivial (fun hHeld=>?_)
       clear hK K
       refine norm_ (a':=?_) ?_ ?_
       rotate_left
       ·show Act.put _ (some 96) _ = _
        simp only [ap]
        rfl
       exact norm_ (by simp only [putAll,Act.put,List.setIfInBounds_toArray,List.set_cons_zero,List.set_cons_succ]) (hCont (v361,v364) _ ⟨(rm (R_mono HO362.out (fun _ hk=>⟨hk.2,⟨hk.1.2,⟨hk.1.1.1.2,hk.1.1.2⟩⟩⟩))),(rm (R_mono HO365.out (fun _ hk=>⟨hk.2,⟨hk.1.2,⟨hk.1.1.1.2,hk.1.1.2⟩⟩⟩))),(rm (R_mono HO_13.out (fun _ hk=>⟨hk.1.2,⟨hk.2,⟨hk.1.1.1,hk.1.1.2⟩⟩⟩))),(rm (R_mono HO_7.out (fun _ hk=>⟨hk.1.2,⟨hk.2,⟨hk.1.1.2,hk.1.1.1⟩⟩⟩))),(rm (R_mono HO_8.out (fun _ hk=>⟨hk.1.2,⟨hk.2,⟨hk.1.1.2,hk.1.1.1⟩⟩⟩))),(bm BK307.out),(h1 HB.out GE307.out)⟩)
      rintro ⟨v361,v364⟩ w77 ⟨h0_,h1_,h2_,h3_,h4_,h5_,h6_⟩
      have n0_ : Aside0 (Kd.R (Kd.int .i64) 3 w77 w.heap.size (fun k_=>ob k_ v364 ∧ some k_ ≠ (.slice (some ad332) t329.length co39 : Value).ownBlock ∧ ob k_ u7 ∧ ob k_ (.slice Ao70 x8_3.length co70)) v361 t360):=⟨h0_⟩
      have n1_ : Aside0 (Kd.R (Kd.int .i64) 3 w77 w.heap.size (fun k_=>ob k_ v361 ∧ some k_ ≠ (.slice (some ad332) t329.length co39 : Value).ownBlock ∧ ob k_ u7 ∧ ob k_ (.slice Ao70 x8_3.length co70)) v364 y363):=⟨h1_⟩
      have n2_ : Aside0 (Kd.R (Kd.int .i64) 3 w77 w.heap.size (fun k_=>ob k_ v361 ∧ ob k_ v364 ∧ ob k_ u7 ∧ ob k_ (.slice Ao70 x8_3.length co70)) (.slice (some ad332) t329.length co39) t329):=⟨h2_⟩
      have n3_ : Aside0 (Kd.R (Kd.int .i64) 3 w77 w.heap.size (fun k_=>ob k_ v361 ∧ ob k_ v364 ∧ some k_ ≠ (.slice (some ad332) t329.length co39 : Value).ownBlock ∧ ob k_ (.slice Ao70 x8_3.length co70)) u7 x7_2):=⟨h3_⟩
      have n4_ : Aside0 (Kd.R (Kd.int .i64) 3 w77 w.heap.size (fun k_=>ob k_ v361 ∧ ob k_ v364 ∧ some k_ ≠ (.slice (some ad332) t329.length co39 : Value).ownBlock ∧ ob k_ u7) (.slice Ao70 x8_3.length co70) x8_3):=⟨h4_⟩
      have n5_ : Aside0 (w77.heap[gb307]? = some (.cells #[.int .i64 a0_0,.slice (some ad333) l0_1.length c0_1,.slice (some ad334) l0_2.length c0_2] 27 (0,0))):=⟨h5_⟩
      have n6_ : Aside0 (Below w.heap.size w w77):=⟨h6_⟩
      clear HO_7
      clear HO_8
      clear HO_13
      clear BK307
      clear HB
      clear h0_ h1_ h2_ h3_ h4_ h5_ h6_
      have HO362:=n0_
      have HO365:=n1_
      have HO_13:=n2_
      have HO_7:=n3_
      have HO_8:=n4_
      have BK307:=n5_
      have HB:=n6_
      clear n0_ n1_ n2_ n3_ n4_ n5_ n6_
      have hHeld:=trivial
      obtain ⟨Ao79,co79,eo79⟩:=R_slice HO365.out
      (subst eo79)
      refine norm_ (a':=?_) ?_ ?_
      rotate_left
      ·simp only [putAll,Act.put,List.setIfInBounds_toArray,List.set_cons_zero,List.set_cons_succ]
       rfl
      refine one_ (i:=6) (N:=some 97) (lb 12 1023) rfl rfl (one_of HT_.out (by kernel_rfl)) (by decide) (fun K hK=>?_)
      refine R_append_rows_step (Kd.int .i64) (w0:=w) w.heap.size (by rfl) (.tmp 94) (.tmp 96) 22 3 (.int .i64 0) 8 rfl Try.underlying22 info3 rfl (by decide) (by omega) v361 t360 y363 _ _ _ (fun k_=>ob k_ u7 ∧ ob k_ (.slice Ao70 x8_3.length co70) ∧ some k_ ≠ (.slice (some ad332) t329.length co39 : Value).ownBlock ∧ ob k_ (.slice Ao79 y363.length co79)) (fun _=>False) rfl rfl ?aO ?aR (fun _ _ h=>h) (fun _ h=>h.elim) ?aF ?aB ?aS ?aL ?_
      (case aR=>exact cm (R_reads' HO365.out).2.2)
      (case aB=>exact (h1 HB.out GE307.out))
      (case aF=>exact (fun k_ hk=>⟨Kd.fresh' (R_lt (rm HO_7.out)) k_ hk,Kd.fresh' (R_lt (rm HO_8.out)) k_ hk,Kd.fresh' (R_lt (rm HO_13.out)) k_ hk,Kd.fresh' (R_lt (rm HO365.out)) k_ hk⟩))
      (case aO=>exact (rm (R_mono HO362.out (fun _ hk=>⟨hk.2.2.1,⟨hk.2.2.2,⟨hk.2.1,hk.1⟩⟩⟩))))
      (case aS=>exact (below_size (h1 HB.out GE307.out)))
      (case aL=>have:=LMc66.out;omega)
      intro v367 w78 ho hb hg hat
      rw [← Ny366.out] at ho
      replace HO_7:=ak (R_after (ok:=(fun k_=>ob k_ (.slice Ao70 x8_3.length co70) ∧ some k_ ≠ (.slice (some ad332) t329.length co39 : Value).ownBlock ∧ ob k_ (.slice Ao79 y363.length co79))) (rm (R_mono HO_7.out (fun _ hk=>⟨⟨hk.2.2.2,⟨hk.2.2.1,hk.2.1⟩⟩,hk.1⟩))) hg hat)
      replace HO_8:=ak (R_after (ok:=(fun k_=>ob k_ u7 ∧ some k_ ≠ (.slice (some ad332) t329.length co39 : Value).ownBlock ∧ ob k_ (.slice Ao79 y363.length co79))) (rm (R_mono HO_8.out (fun _ hk=>⟨⟨hk.2.2.2,⟨hk.2.2.1,hk.2.1⟩⟩,hk.1⟩))) hg hat)
      replace HO_13:=ak (R_after (ok:=(fun k_=>ob k_ u7 ∧ ob k_ (.slice Ao70 x8_3.length co70) ∧ ob k_ (.slice Ao79 y363.length co79))) (rm (R_mono HO_13.out (fun _ hk=>⟨⟨hk.2.2.1,⟨hk.2.2.2,hk.2.1⟩⟩,hk.1⟩))) hg hat)
      replace BK307:=ak (blk_grown (g:=gb307) (o:=.cells #[.int .i64 a0_0,.slice (some ad333) l0_1.length c0_1,.slice (some ad334) l0_2.length c0_2] 27 (0,0)) (bm BK307.out) hg (R_ne HO362.out BK307.out (by decide)))
      replace HO365:=ak (R_after (ok:=(fun k_=>ob k_ u7 ∧ ob k_ (.slice Ao70 x8_3.length co70) ∧ some k_ ≠ (.slice (some ad332) t329.length co39 : Value).ownBlock)) (rm (R_mono HO365.out (fun _ hk=>⟨⟨hk.2.2.1,⟨hk.2.2.2,hk.2.1⟩⟩,hk.1⟩))) hg hat)
      replace HB:=ak hb
      have HO368:=ak ho
      clear HO362
      clear ho hb hg hat
      refine hK.out _ _ trivial (fun hHeld=>?_)
      clear hK K
      refine norm_ (a':=?_) ?_ ?_
      rotate_left
      ·show Act.put _ (some 97) _ = _
       simp only [ap]
       rfl
      refine one_ (i:=10) (N:=some 101) (lb 12 2047) rfl rfl (one_of HT_.out (by kernel_rfl)) (by decide) (fun K hK=>?_)
      refine R_append_rows_step (Kd.int .i64) (w0:=w) w.heap.size (by rfl) (.tmp 97) (.tmp 100) 22 3 (.int .i64 0) 8 rfl Try.underlying22 info3 rfl (by decide) (by omega) v367 y366 y369 _ _ _ (fun k_=>ob k_ u7 ∧ ob k_ (.slice Ao70 x8_3.length co70) ∧ some k_ ≠ (.slice (some ad332) t329.length co39 : Value).ownBlock ∧ ob k_ (.slice Ao79 y363.length co79)) (fun _=>False) rfl rfl ?aO ?aR (fun _ _ h=>h) (fun _ h=>h.elim) ?aF ?aB ?aS ?aL ?_
      (case aR=>repeat (exact ((show Kd.C (Kd.int .i64) _ A73 y369.length y369 from by rw [Ny369.out,KA73.out];refine C_drop (m:=(x16_4 : Int).toNat) (c:=co70) ?cA KL73.out ((R_reads' HO_8.out).2.1);(case cA=>exact ((R_reads' (rm HO_8.out)).2.2))))))
      (case aB=>exact (h1 HB.out GE307.out))
      (case aF=>exact (fun k_ hk=>⟨Kd.fresh' (R_lt (rm HO_7.out)) k_ hk,Kd.fresh' (R_lt (rm HO_8.out)) k_ hk,Kd.fresh' (R_lt (rm HO_13.out)) k_ hk,Kd.fresh' (R_lt (rm HO365.out)) k_ hk⟩))
      (case aO=>exact (rm HO368.out))
      (case aS=>exact (below_size (h1 HB.out GE307.out)))
      (case aL=>have:=LMc69.out;omega)
      intro v374 w80 ho hb hg hat
      rw [← Ny373.out] at ho
      replace HO_7:=ak (R_after (ok:=(fun k_=>ob k_ (.slice Ao70 x8_3.length co70) ∧ some k_ ≠ (.slice (some ad332) t329.length co39 : Value).ownBlock ∧ ob k_ (.slice Ao79 y363.length co79))) (rm HO_7.out) hg hat)
      replace HO_8:=ak (R_after (ok:=(fun k_=>ob k_ u7 ∧ some k_ ≠ (.slice (some ad332) t329.length co39 : Value).ownBlock ∧ ob k_ (.slice Ao79 y363.length co79))) (rm HO_8.out) hg hat)
      replace HO_13:=ak (R_after (ok:=(fun k_=>ob k_ u7 ∧ ob k_ (.slice Ao70 x8_3.length co70) ∧ ob k_ (.slice Ao79 y363.length co79))) (rm HO_13.out) hg hat)
      replace BK307:=ak (blk_grown (g:=gb307) (o:=.cells #[.int .i64 a0_0,.slice (some ad333) l0_1.length c0_1,.slice (some ad334) l0_2.length c0_2] 27 (0,0)) (bm BK307.out) hg (R_ne HO368.out BK307.out (by decide)))
      replace HO365:=ak (R_after (ok:=(fun k_=>ob k_ u7 ∧ ob k_ (.slice Ao70 x8_3.length co70) ∧ some k_ ≠ (.slice (some ad332) t329.length co39 : Value).ownBlock)) (rm HO365.out) hg hat)
      replace HB:=ak hb
      have HO375:=ak ho
      clear HO368
      clear ho hb hg hat
      refine hK.out _ _ trivial (fun hHeld=>?_)
      clear hK K
      refine norm_ (a':=?_) ?_ ?_
      rotate_left
      ·show Act.put _ (some 101) _ = _
       simp only [ap]
       rfl
      refine pq 11 (N:=some 8) (lb 12 4095) HT_ ?_
      refine done_ (done_of HT_.out (by kernel_rfl)) ?_
      try go_wp2
      go_roundg k4
      case measure=>have:=HJ2.out;have:=HK2.out;have:=HK3.out;have:=HK4.out;omega
      case rel=>exact ⟨(y373),(wrap64 (x14_3 + 1)),fd,H',⟨by have:=HJ2.out;have:=HK2.out;have:=HK3.out;have:=HK4.out;omega⟩,⟨rm (R_mono HO_7.out (fun _ hk=>⟨hk.2,hk.1.2.1⟩))⟩,⟨rm (R_mono HO375.out (fun _ hk=>⟨hk.1,hk.2.2.1⟩))⟩,⟨rm (R_mono HO_13.out (fun _ hk=>⟨hk.1.1,hk.2⟩))⟩,⟨bm BK307.out⟩,⟨h1 HB.out GE307.out⟩⟩
     rw [if_pos c41] at H
     have c41b0 : decide (x16_4 < (x8_3.length : Int)) = true:=decide_eq_true c41
     clear c41
     by_cases c42 : 0 ≤ x16_4
     rotate_left
     ·rw [if_neg c42] at H
      exact absurd H (by simp)
     rw [if_pos c42] at H
     have c42b0 : decide (0 ≤ x16_4) = true:=decide_eq_true c42
     clear c42
     by_cases c43 : (rd x8_3 x16_4) ≤ (wrap64 ((rd l0_1 x14_3) + (wrap64 ((rd l0_2 x14_3) * a1))))
     ·rw [if_pos c43] at H
      have c43b0 : decide ((rd x8_3 x16_4) ≤ (wrap64 ((rd l0_1 x14_3) + (wrap64 ((rd l0_2 x14_3) * a1))))) = true:=decide_eq_true c43
      clear c43
      have H':=Aside0.mk H
      clear H
      obtain ⟨Ao44,co44,eo44⟩:=R_slice HO_8.out
      subst eo44
      have p335 : 0 ≤ (x16_4 : Int):=od
      have q335 : x16_4 < (x8_3.length : Int):=od
      obtain ⟨ad335,e335,hx335_0⟩:=Kd.at_int (R_reads' HO_8.out).2.2 x16_4 p335 q335
      cases e335
      replace p335:=eq_true p335
      replace q335:=eq_true q335
      go_wp2
      go_roundg k4
      case measure=>have:=HJ2.out;have:=HK2.out;have:=HK3.out;have:=HK4.out;omega
      case rel=>exact ⟨(wrap64 (x16_4 + 1)),fd,H',⟨by have:=HJ2.out;have:=HK2.out;have:=HK3.out;have:=HK4.out;omega⟩,⟨rm HO_7.out⟩,⟨rm HO_8.out⟩,⟨rm HO_13.out⟩,⟨bm BK307.out⟩,⟨h1 HB.out GE307.out⟩⟩
     rw [if_neg c43] at H
     have c43b0 : decide ((rd x8_3 x16_4) ≤ (wrap64 ((rd l0_1 x14_3) + (wrap64 ((rd l0_2 x14_3) * a1))))) = false:=decide_eq_false c43
     clear c43
     have c45b0:=eq_true (od : 0 ≤ x16_4)
     by_cases c46 : x16_4 ≤ (x8_3.length : Int)
     rotate_left
     ·rw [if_neg c46] at H
      exact absurd H (by simp)
     rw [if_pos c46] at H
     have c46b0:=eq_true c46
     have c46b1 : decide (x16_4 ≤ (x8_3.length : Int)) = true:=decide_eq_true c46
     clear c46
     obtain ⟨y336,hy336⟩ : ∃ y_ : List Int,y_ = (x8_3.take (x16_4 : Int).toNat):=⟨_,rfl⟩
     replace H : ((spec_l1Own.f y336).bind fun t340=>((some (([(wrap64 ((rd l0_1 x14_3) + (wrap64 ((rd l0_2 x14_3) * a1))))] : List Int) : List Int)).bind fun y343=>(if t340.length + y343.length < 17592186044416 then ((some (t340 ++ y343 : List Int)).bind fun y346=>((some (x8_3.drop (x16_4 : Int).toNat : List Int)).bind fun y349=>(if y346.length + y349.length < 17592186044416 then (spec_BeadsAt.l1 k4 a1 x7_2 (y346 ++ y349) t329 (wrap64 (x14_3 + 1)) a0_0 l0_1 l0_2) else (none)))) else (none)))) = some (r1,r2,r3):=by first|(rw [hy336];with_reducible exact H)|(have H2_:=(Option.bind_some _ _).symm.trans H;rw [hy336];with_reducible exact H2_)|(have H2_:=(Option.bind_some _ _).symm.trans H;with_reducible exact H2_)|with_reducible exact H|(rw [hy336];exact H)|exact H
     have Ny336:=Aside0.mk hy336
     clear hy336
     replace H:=Option.bind_eq_some_iff.mp H
     obtain ⟨t340,A470,H⟩:=H
     have A47:=Aside0.mk A470
     clear A470
     obtain ⟨y343,hy343⟩ : ∃ y_ : List Int,y_ = (([(wrap64 ((rd l0_1 x14_3) + (wrap64 ((rd l0_2 x14_3) * a1))))] : List Int)):=⟨_,rfl⟩
     replace H : (if t340.length + y343.length < 17592186044416 then ((some (t340 ++ y343 : List Int)).bind fun y346=>((some (x8_3.drop (x16_4 : Int).toNat : List Int)).bind fun y349=>(if y346.length + y349.length < 17592186044416 then (spec_BeadsAt.l1 k4 a1 x7_2 (y346 ++ y349) t329 (wrap64 (x14_3 + 1)) a0_0 l0_1 l0_2) else (none)))) else (none)) = some (r1,r2,r3):=by first|(rw [hy343];with_reducible exact H)|(have H2_:=(Option.bind_some _ _).symm.trans H;rw [hy343];with_reducible exact H2_)|(have H2_:=(Option.bind_some _ _).symm.trans H;with_reducible exact H2_)|with_reducible exact H|(rw [hy343];exact H)|exact H
     have Ny343:=Aside0.mk hy343
     clear hy343
     by_cases c48 : t340.length + y343.length < 17592186044416
     rotate_left
     ·rw [if_neg c48] at H
      exact absurd H (by simp)
     rw [if_pos c48] at H
     have LMc48:=Aside0.mk c48
     clear c48
     obtain ⟨y346,hy346⟩ : ∃ y_ : List Int,y_ = (t340 ++ y343):=⟨_,rfl⟩
     replace H : ((some (x8_3.drop (x16_4 : Int).toNat : List Int)).bind fun y349=>(if y346.length + y349.length < 17592186044416 then (spec_BeadsAt.l1 k4 a1 x7_2 (y346 ++ y349) t329 (wrap64 (x14_3 + 1)) a0_0 l0_1 l0_2) else (none))) = some (r1,r2,r3):=by first|(rw [hy346];with_reducible exact H)|(have H2_:=(Option.bind_some _ _).symm.trans H;rw [hy346];with_reducible exact H2_)|(have H2_:=(Option.bind_some _ _).symm.trans H;with_reducible exact H2_)|with_reducible exact H|(rw [hy346];exact H)|exact H
     have Ny346:=Aside0.mk hy346
     clear hy346
     have c49b0:=eq_true (od : 0 ≤ x16_4)
     have c50b0:=eq_true (od : x16_4 ≤ (x8_3.length : Int))
     obtain ⟨y349,hy349⟩ : ∃ y_ : List Int,y_ = (x8_3.drop (x16_4 : Int).toNat):=⟨_,rfl⟩
     replace H : (if y346.length + y349.length < 17592186044416 then (spec_BeadsAt.l1 k4 a1 x7_2 (y346 ++ y349) t329 (wrap64 (x14_3 + 1)) a0_0 l0_1 l0_2) else (none)) = some (r1,r2,r3):=by first|(rw [hy349];with_reducible exact H)|(have H2_:=(Option.bind_some _ _).symm.trans H;rw [hy349];with_reducible exact H2_)|(have H2_:=(Option.bind_some _ _).symm.trans H;with_reducible exact H2_)|with_reducible exact H|(rw [hy349];exact H)|exact H
     have Ny349:=Aside0.mk hy349
     clear hy349
     by_cases c51 : y346.length + y349.length < 17592186044416
     rotate_left
     ·rw [if_neg c51] at H
      exact absurd H (by simp)
     rw [if_pos c51] at H
     have LMc51:=Aside0.mk c51
     clear c51
     obtain ⟨y353,hy353⟩ : ∃ y_ : List Int,y_ = (y346 ++ y349):=⟨_,rfl⟩
     replace H : (spec_BeadsAt.l1 k4 a1 x7_2 y353 t329 (wrap64 (x14_3 + 1)) a0_0 l0_1 l0_2) = some (r1,r2,r3):=by first|(rw [hy353];with_reducible exact H)|(have H2_:=(Option.bind_some _ _).symm.trans H;rw [hy353];with_reducible exact H2_)|(have H2_:=(Option.bind_some _ _).symm.trans H;with_reducible exact H2_)|with_reducible exact H|(rw [hy353];exact H)|exact H
     have Ny353:=Aside0.mk hy353
     clear hy353
     have H':=Aside0.mk H
     clear H
     obtain ⟨Ao52,co52,eo52⟩:=R_slice HO_8.out
     subst eo52
     have p335 : 0 ≤ (x16_4 : Int):=od
     have q335 : x16_4 < (x8_3.length : Int):=od
     obtain ⟨ad335,e335,hx335_0⟩:=Kd.at_int (R_reads' HO_8.out).2.2 x16_4 p335 q335
     cases e335
     replace p335:=eq_true p335
     replace q335:=eq_true q335
     try go_wp2
     replace HO_7:=ak (R_drew HO_7.out)
     replace HO_8:=ak (R_drew HO_8.out)
     replace HO_13:=ak (R_drew HO_13.out)
     replace BK307:=ak (blk_drew BK307.out)
     replace HB:=ak (below_drew1 HB.out)
     have q54 : (x16_4 : Int) ≤ ((x8_3.length : Int) : Int):=od
     obtain ⟨i054,hi054,_,hsz54,_⟩:=info_parts info3
     have hroom54 : x8_3.length ≤ co52:=(R_reads' HO_8.out).2.1
     have hC54 : Kd.C (Kd.int .i64) _ (some ad335) x8_3.length x8_3:=(R_reads' HO_8.out).2.2
     have hcut54:=cut_to (P:=Try.prog) 22 3 .i64 Try.underlying22 hi054 (some ad335) x8_3.length co52 x16_4 (od) q54 hroom54
     have hr54:=C_take (m:=(x16_4 : Int).toNat) hC54 (by omega)
     have hy54 : y336.length = (x16_4 : Int).toNat:=(by rw [Ny336.out,List.length_take];omega)
     rw [← Ny336.out] at hr54
     rw [← hy54] at hcut54
     have HR339:=Aside0.mk hr54
     have HC339:=Aside0.mk (show y336.length ≤ co52 from by omega)
     clear hr54 hC54 hroom54 hi054 hsz54
     have KY54:=Aside0.mk hy54
     clear hy54
     have KL54:=Aside0.mk (show (x16_4 : Int).toNat ≤ x8_3.length from by omega)
     replace q54:=eq_true q54
     have q55 : (x16_4 : Int) ≤ ((x8_3.length : Int) : Int):=od
     obtain ⟨i055,hi055,_,hsz55,_⟩:=info_parts info3
     have hroom55 : x8_3.length ≤ co52:=(R_reads' HO_8.out).2.1
     have hC55 : Kd.C (Kd.int .i64) _ (some ad335) x8_3.length x8_3:=(R_reads' HO_8.out).2.2
     have q055 : (0 : Int) ≤ (x16_4 : Int):=od
     have hcut55:=cut_from (P:=Try.prog) 22 3 .i64 Try.underlying22 hi055 1 hsz55 (some ad335) x8_3.length co52 x16_4 q055 q55
     have hr55:=C_drop (m:=(x16_4 : Int).toNat) (c:=co52) hC55 (by omega) hroom55
     obtain ⟨A55,hA55⟩ : ∃ A_,A_ = (if co52 = (x16_4 : Int).toNat then (some ad335) else ((some ad335) : Option Addr).map (·.add ((x16_4 : Int).toNat * 1))):=⟨_,rfl⟩
     obtain ⟨c55,hc55⟩ : ∃ c1,c1 = co52 - (x16_4 : Int).toNat:=⟨_,rfl⟩
     have hy55 : y349.length = x8_3.length - (x16_4 : Int).toNat:=(by rw [Ny349.out,List.length_drop] <;> omega)
     rw [show (x8_3).drop (x16_4 : Int).toNat = y349 from Ny349.out.symm] at hr55
     replace hr55 : Kd.C (Kd.int .i64) _ A55 y349.length y349:=(by rw [hA55];exact hr55)
     rw [← hy55,← hA55,← hc55] at hcut55
     have HR352:=Aside0.mk hr55
     have HC352:=Aside0.mk (show y349.length ≤ c55 from by rw [hy55,hc55];exact Nat.sub_le_sub_right hroom55 _)
     clear hr55 hC55 hroom55 hi055 hsz55 hc55
     have KY55:=Aside0.mk hy55
     have KA55:=Aside0.mk hA55
     clear hy55 hA55
     have KL55:=Aside0.mk (show (x16_4 : Int).toNat ≤ x8_3.length from by omega)
     replace q55:=eq_true q55
     refine start_ (n:=12) (S:=fun w'=>True) (ds:=[]) (lb 12 0) (by kernel_rfl) rfl rfl trivial (fun hHeld=>?_);refine with_tabW spec_BeadsAt.tab18 spec_BeadsAt.bits18 (fun HT_ HW_=>?_)
     generalize wr.drew = w53 at HO_7 HO_8 HO_13 BK307 HB HR339 HR352 hHeld ⊢
     refine pq 0 (N:=some 91) (lb 12 1) HT_ ?_
     refine pq 1 (N:=some 92) (lb 12 3) HT_ ?_
     refine pq 2 (N:=some 93) (lb 12 7) HT_ ?_
     refine pq 4 (N:=some 95) (lb 12 23) HT_ ?_
     refine pq 7 (N:=some 98) (lb 12 151) HT_ ?_
     refine pq 8 (N:=some 99) (lb 12 407) HT_ ?_
     refine pq 9 (N:=some 100) (lb 12 919) HT_ ?_
     refine join_ (σ:=Value × Value) 3 (lb 12 959) (fun s_=>[(94,s_.1),(96,s_.2)]) (fun s_ w'=>(Kd.R (Kd.int .i64) 3 w' w.heap.size (fun k_=>some k_ ≠ (s_.2 : Value).ownBlock ∧ some k_ ≠ (.slice (some ad332) t329.length co39 : Value).ownBlock ∧ ob k_ u7 ∧ some k_ ≠ (.slice (some ad335) x8_3.length co52 : Value).ownBlock) s_.1 t340) ∧ (Kd.R (Kd.int .i64) 3 w' w.heap.size (fun k_=>some k_ ≠ (s_.1 : Value).ownBlock ∧ some k_ ≠ (.slice (some ad332) t329.length co39 : Value).ownBlock ∧ ob k_ u7 ∧ some k_ ≠ (.slice (some ad335) x8_3.length co52 : Value).ownBlock) s_.2 y343) ∧ (Kd.R (Kd.int .i64) 3 w' w.heap.size (fun k_=>some k_ ≠ (s_.1 : Value).ownBlock ∧ some k_ ≠ (s_.2 : Value).ownBlock ∧ ob k_ u7 ∧ some k_ ≠ (.slice (some ad335) x8_3.length co52 : Value).ownBlock) (.slice (some ad332) t329.length co39) t329) ∧ (Kd.R (Kd.int .i64) 3 w' w.heap.size (fun k_=>some k_ ≠ (s_.1 : Value).ownBlock ∧ some k_ ≠ (s_.2 : Value).ownBlock ∧ some k_ ≠ (.slice (some ad332) t329.length co39 : Value).ownBlock ∧ some k_ ≠ (.slice (some ad335) x8_3.length co52 : Value).ownBlock) u7 x7_2) ∧ (Kd.R (Kd.int .i64) 3 w' w.heap.size (fun k_=>some k_ ≠ (s_.1 : Value).ownBlock ∧ some k_ ≠ (s_.2 : Value).ownBlock ∧ some k_ ≠ (.slice (some ad332) t329.length co39 : Value).ownBlock ∧ ob k_ u7) (.slice (some ad335) x8_3.length co52) x8_3) ∧ (w'.heap[gb307]? = some (.cells #[.int .i64 a0_0,.slice (some ad333) l0_1.length c0_1,.slice (some ad334) l0_2.length c0_2] 27 (0,0))) ∧ (Below w.heap.size w w')) ?_ ?_
     rotate_left
     ·intro hCont
      refine two_ (i:=3) (j:=5) (Ni:=some 94) (Nj:=some 96) (lb 12 927) (lb 12 951) rfl rfl rfl rfl (two_of HT_.out (by kernel_rfl)) (by decide) (by decide) (fun K hK=>?_) (fun K hK=>?_)
      rotate_left
      ·skip
       refine R_lit_step (Kd.int .i64) _ 3 ?hg (N:=96) ?hd (xs:=([(wrap64 ((rd l0_1 x14_3) + (wrap64 ((rd l0_2 x14_3) * a1))))] : List Int)) (inner:=[.int .i64 (wrap64 ((rd l0_1 x14_3) + (wrap64 ((rd l0_2 x14_3) * a1))))]) (ok:=fun _=>True) (okp:=fun _=>True) ?hr ?hp (fun _ hk=>hk) trivial (Below.refl _ _) (Nat.le_refl _) (by simp) ?_;(case hd=>rfl);(case hg=>rfl);(case hr=>first|(go_simp;done)|(go_simp;rfl));(case hp=>exact (Reps.one (show Kd.M (Kd.int .i64) _ _ _ (wrap64 ((rd l0_1 x14_3) + (wrap64 ((rd l0_2 x14_3) * a1)))) [.int .i64 (wrap64 ((rd l0_1 x14_3) + (wrap64 ((rd l0_2 x14_3) * a1))))] from rfl) (Reps.none _ _)))
       intro v344 w56 ho57 hb hg_ hnew_
       clear hg_ hnew_
       (rw [← Ny343.out] at ho57)
       have HO345:=ak (R_lower (R_new' (R_new' (R_new' ho57 (R_lt (rm HO_7.out))) (R_lt (rm HO_8.out))) (R_lt (rm HO_13.out))) (below_size (h1 HB.out GE307.out)))
       replace HO_7:=ak (R_elder' (rm HO_7.out) (R_base ho57) hb)
       replace HO_8:=ak (R_elder' (rm HO_8.out) (R_base ho57) hb)
       replace HO_13:=ak (R_elder' (rm HO_13.out) (R_base ho57) hb)
       replace BK307:=kb BK307 hb
       replace HR339:=ak (C_below (by repeat ((with_reducible exact HR339.out))) hb)
       replace HR352:=ak (C_below (by repeat ((with_reducible exact HR352.out))) hb)
       replace HB:=ak (below_step (h1 HB.out GE307.out) hb)
       clear hb ho57
       refine hK.out _ _ trivial (fun hHeld=>?_)
       clear hK K
       refine norm_ (a':=?_) ?_ ?_
       rotate_left
       ·show Act.put _ (some 96) _ = _
        simp only [ap]
        rfl
       refine one_ (i:=3) (N:=some 94) (lb 12 959) rfl rfl (one_of HT_.out (by kernel_rfl)) (by decide) (fun K hK=>?_)
       refine goes_ Try.func53 (by kernel_rfl) rfl #[.slice (some ad335) y336.length co52] (by rfl) rfl rfl gl ?_
       with_reducible refine (spec_l1Own.calls _ _ y336 t340 _ ?side1 ?side2 A47.out).mono ?_
       (case side1=>repeat (exact (by repeat ((with_reducible exact HR339.out)))))
       (case side2=>exact HC339.out)
       rintro e w58 ⟨v341,rfl,ho0,hb⟩
       refine ⟨_,rfl,?_⟩
       have HO342:=ak (R_lower (R_new' (R_new' (R_new' (R_new' ho0 (R_lt (rm HO_7.out))) (R_lt (rm HO_8.out))) (R_lt (rm HO_13.out))) (R_lt (rm HO345.out))) (below_size (h1 HB.out GE307.out)))
       replace HO_7:=ak (R_elder' (rm HO_7.out) (R_base ho0) hb)
       replace HO_8:=ak (R_elder' (rm HO_8.out) (R_base ho0) hb)
       replace HO_13:=ak (R_elder' (rm HO_13.out) (R_base ho0) hb)
       replace HO345:=ak (R_elder' (rm HO345.out) (R_base ho0) hb)
       replace BK307:=kb BK307 hb
       replace HR339:=ak (C_below (by repeat ((with_reducible exact HR339.out))) hb)
       replace HR352:=ak (C_below (by repeat ((with_reducible exact HR352.out))) hb)
       replace HB:=ak (below_step (h1 HB.out GE307.out) hb)
       (try clear hb)
       (try clear ho0)
       refine hK.out _ _ trivial (fun hHeld=>?_)
       clear hK K
       refine norm_ (a':=?_) ?_ ?_
       rotate_left
       ·show Act.put _ (some 94) _ = _
        simp only [ap]
        rfl
       exact norm_ (by simp only [putAll,Act.put,List.setIfInBounds_toArray,List.set_cons_zero,List.set_cons_succ]) (hCont (v341,v344) _ ⟨(rm (R_mono HO342.out (fun _ hk=>⟨hk.2,⟨hk.1.2,⟨hk.1.1.1.2,hk.1.1.2⟩⟩⟩))),(rm (R_mono HO345.out (fun _ hk=>⟨hk.2,⟨hk.1.2,⟨hk.1.1.1.2,hk.1.1.2⟩⟩⟩))),(rm (R_mono HO_13.out (fun _ hk=>⟨hk.2,⟨hk.1.2,⟨hk.1.1.1,hk.1.1.2⟩⟩⟩))),(rm (R_mono HO_7.out (fun _ hk=>⟨hk.2,⟨hk.1.2,⟨hk.1.1.2,hk.1.1.1⟩⟩⟩))),(rm (R_mono HO_8.out (fun _ hk=>⟨hk.2,⟨hk.1.2,⟨hk.1.1.2,hk.1.1.1⟩⟩⟩))),(bm BK307.out),(h1 HB.out GE307.out)⟩)
      skip
      refine goes_ Try.func53 (by kernel_rfl) rfl #[.slice (some ad335) y336.length co52] (by rfl) rfl rfl gl ?_
      with_reducible refine (spec_l1Own.calls _ _ y336 t340 _ ?side1 ?side2 A47.out).mono ?_
      (case side1=>repeat (exact (by repeat ((with_reducible exact HR339.out)))))
      (case side2=>exact HC339.out)
      rintro e w56 ⟨v341,rfl,ho0,hb⟩
      refine ⟨_,rfl,?_⟩
      have HO342:=ak (R_lower (R_new' (R_new' (R_new' ho0 (R_lt (rm HO_7.out))) (R_lt (rm HO_8.out))) (R_lt (rm HO_13.out))) (below_size (h1 HB.out GE307.out)))
      replace HO_7:=ak (R_elder' (rm HO_7.out) (R_base ho0) hb)
      replace HO_8:=ak (R_elder' (rm HO_8.out) (R_base ho0) hb)
      replace HO_13:=ak (R_elder' (rm HO_13.out) (R_base ho0) hb)
      replace BK307:=kb BK307 hb
      replace HR339:=ak (C_below (by repeat ((with_reducible exact HR339.out))) hb)
      replace HR352:=ak (C_below (by repeat ((with_reducible exact HR352.out))) hb)
      replace HB:=ak (below_step (h1 HB.out GE307.out) hb)
      (try clear hb)
      (try clear ho0)
      refine hK.out _ _ trivial (fun hHeld=>?_)
      clear hK K
      refine norm_ (a':=?_) ?_ ?_
      rotate_left
      ·show Act.put _ (some 94) _ = _
       simp only [ap]
       rfl
      refine one_ (i:=5) (N:=some 96) (lb 12 959) rfl rfl (one_of HT_.out (by kernel_rfl)) (by decide) (fun K hK=>?_)
      refine R_lit_step (Kd.int .i64) _ 3 ?hg (N:=96) ?hd (xs:=([(wrap64 ((rd l0_1 x14_3) + (wrap64 ((rd l0_2 x14_3) * a1))))] : List Int)) (inner:=[.int .i64 (wrap64 ((rd l0_1 x14_3) + (wrap64 ((rd l0_2 x14_3) * a1))))]) (ok:=fun _=>True) (okp:=fun _=>True) ?hr ?hp (fun _ hk=>hk) trivial (Below.refl _ _) (Nat.le_refl _) (by simp) ?_;(case hd=>rfl);(case hg=>rfl);(case hr=>first|(go_simp;done)|(go_simp;rfl));(case hp=>exact (Reps.one (show Kd.M (Kd.int .i64) _ _ _ (wrap64 ((rd l0_1 x14_3) + (wrap64 ((rd l0_2 x14_3) * a1)))) [.int .i64 (wrap64 ((rd l0_1 x14_3) + (wrap64 ((rd l0_2 x14_3) * a1))))] from rfl) (Reps.none _ _)))
      intro v344 w57 ho58 hb hg_ hnew_
      clear hg_ hnew_
      (rw [← Ny343.out] at ho58)
      have HO345:=ak (R_lower (R_new' (R_new' (R_new' (R_new' ho58 (R_lt (rm HO_7.out))) (R_lt (rm HO_8.out))) (R_lt (rm HO_13.out))) (R_lt (rm HO342.out))) (below_size (h1 HB.out GE307.out)))
      replace HO_7:=ak (R_elder' (rm HO_7.out) (R_base ho58) hb)
      replace HO_8:=ak (R_elder' (rm HO_8.out) (R_base ho58) hb)
      replace HO_13:=ak (R_elder' (rm HO_13.out) (R_base ho58) hb)
      replace HO342:=ak (R_elder' (rm HO342.out) (R_base ho58) hb)
      replace BK307:=kb BK307 hb
      replace HR339:=ak (C_below (by repeat ((with_reducible exact HR339.out))) hb)
      replace HR352:=ak (C_below (by repeat ((with_reducible exact HR352.out))) hb)
      replace HB:=ak (below_step (h1 HB.out GE307.out) hb)
      clear hb ho58
      refine hK.out _ _ trivial (fun hHeld=>?_)
      clear hK K
      refine norm_ (a':=?_) ?_ ?_
      rotate_left
      ·show Act.put _ (some 96) _ = _
       simp only [ap]
       rfl
      exact norm_ (by simp only [putAll,Act.put,List.setIfInBounds_toArray,List.set_cons_zero,List.set_cons_succ]) (hCont (v341,v344) _ ⟨(rm (R_mono HO342.out (fun _ hk=>⟨hk.2,⟨hk.1.2,⟨hk.1.1.1.2,hk.1.1.2⟩⟩⟩))),(rm (R_mono HO345.out (fun _ hk=>⟨hk.2,⟨hk.1.2,⟨hk.1.1.1.2,hk.1.1.2⟩⟩⟩))),(rm (R_mono HO_13.out (fun _ hk=>⟨hk.1.2,⟨hk.2,⟨hk.1.1.1,hk.1.1.2⟩⟩⟩))),(rm (R_mono HO_7.out (fun _ hk=>⟨hk.1.2,⟨hk.2,⟨hk.1.1.2,hk.1.1.1⟩⟩⟩))),(rm (R_mono HO_8.out (fun _ hk=>⟨hk.1.2,⟨hk.2,⟨hk.1.1.2,hk.1.1.1⟩⟩⟩))),(bm BK307.out),(h1 HB.out GE307.out)⟩)
     rintro ⟨v341,v344⟩ w59 ⟨h0_,h1_,h2_,h3_,h4_,h5_,h6_⟩
     have n0_ : Aside0 (Kd.R (Kd.int .i64) 3 w59 w.heap.size (fun k_=>ob k_ v344 ∧ some k_ ≠ (.slice (some ad332) t329.length co39 : Value).ownBlock ∧ ob k_ u7 ∧ some k_ ≠ (.slice (some ad335) x8_3.length co52 : Value).ownBlock) v341 t340):=⟨h0_⟩
     have n1_ : Aside0 (Kd.R (Kd.int .i64) 3 w59 w.heap.size (fun k_=>ob k_ v341 ∧ some k_ ≠ (.slice (some ad332) t329.length co39 : Value).ownBlock ∧ ob k_ u7 ∧ some k_ ≠ (.slice (some ad335) x8_3.length co52 : Value).ownBlock) v344 y343):=⟨h1_⟩
     have n2_ : Aside0 (Kd.R (Kd.int .i64) 3 w59 w.heap.size (fun k_=>ob k_ v341 ∧ ob k_ v344 ∧ ob k_ u7 ∧ some k_ ≠ (.slice (some ad335) x8_3.length co52 : Value).ownBlock) (.slice (some ad332) t329.length co39) t329):=⟨h2_⟩
     have n3_ : Aside0 (Kd.R (Kd.int .i64) 3 w59 w.heap.size (fun k_=>ob k_ v341 ∧ ob k_ v344 ∧ some k_ ≠ (.slice (some ad332) t329.length co39 : Value).ownBlock ∧ some k_ ≠ (.slice (some ad335) x8_3.length co52 : Value).ownBlock) u7 x7_2):=⟨h3_⟩
     have n4_ : Aside0 (Kd.R (Kd.int .i64) 3 w59 w.heap.size (fun k_=>ob k_ v341 ∧ ob k_ v344 ∧ some k_ ≠ (.slice (some ad332) t329.length co39 : Value).ownBlock ∧ ob k_ u7) (.slice (some ad335) x8_3.length co52) x8_3):=⟨h4_⟩
     have n5_ : Aside0 (w59.heap[gb307]? = some (.cells #[.int .i64 a0_0,.slice (some ad333) l0_1.length c0_1,.slice (some ad334) l0_2.length c0_2] 27 (0,0))):=⟨h5_⟩
     have n6_ : Aside0 (Below w.heap.size w w59):=⟨h6_⟩
     clear HO_7
     clear HO_8
     clear HO_13
     clear BK307
     clear HB
     clear h0_ h1_ h2_ h3_ h4_ h5_ h6_
     have HO342:=n0_
     have HO345:=n1_
     have HO_13:=n2_
     have HO_7:=n3_
     have HO_8:=n4_
     have BK307:=n5_
     have HB:=n6_
     clear n0_ n1_ n2_ n3_ n4_ n5_ n6_
     have hHeld:=trivial
     obtain ⟨Ao61,co61,eo61⟩:=R_slice HO345.out
     (subst eo61)
     refine norm_ (a':=?_) ?_ ?_
     rotate_left
     ·simp only [putAll,Act.put,List.setIfInBounds_toArray,List.set_cons_zero,List.set_cons_succ]
      rfl
     refine one_ (i:=6) (N:=some 97) (lb 12 1023) rfl rfl (one_of HT_.out (by kernel_rfl)) (by decide) (fun K hK=>?_)
     refine R_append_rows_step (Kd.int .i64) (w0:=w) w.heap.size (by rfl) (.tmp 94) (.tmp 96) 22 3 (.int .i64 0) 8 rfl Try.underlying22 info3 rfl (by decide) (by omega) v341 t340 y343 _ _ _ (fun k_=>ob k_ u7 ∧ some k_ ≠ (.slice (some ad335) x8_3.length co52 : Value).ownBlock ∧ some k_ ≠ (.slice (some ad332) t329.length co39 : Value).ownBlock ∧ ob k_ (.slice Ao61 y343.length co61)) (fun _=>False) rfl rfl ?aO ?aR (fun _ _ h=>h) (fun _ h=>h.elim) ?aF ?aB ?aS ?aL ?_
     (case aR=>exact cm (R_reads' HO345.out).2.2)
     (case aB=>exact (h1 HB.out GE307.out))
     (case aF=>exact (fun k_ hk=>⟨Kd.fresh' (R_lt (rm HO_7.out)) k_ hk,Kd.fresh' (R_lt (rm HO_8.out)) k_ hk,Kd.fresh' (R_lt (rm HO_13.out)) k_ hk,Kd.fresh' (R_lt (rm HO345.out)) k_ hk⟩))
     (case aO=>exact (rm (R_mono HO342.out (fun _ hk=>⟨hk.2.2.1,⟨hk.2.2.2,⟨hk.2.1,hk.1⟩⟩⟩))))
     (case aS=>exact (below_size (h1 HB.out GE307.out)))
     (case aL=>have:=LMc48.out;omega)
     intro v347 w60 ho hb hg hat
     rw [← Ny346.out] at ho
     replace HO_7:=ak (R_after (ok:=(fun k_=>some k_ ≠ (.slice (some ad335) x8_3.length co52 : Value).ownBlock ∧ some k_ ≠ (.slice (some ad332) t329.length co39 : Value).ownBlock ∧ ob k_ (.slice Ao61 y343.length co61))) (rm (R_mono HO_7.out (fun _ hk=>⟨⟨hk.2.2.2,⟨hk.2.2.1,hk.2.1⟩⟩,hk.1⟩))) hg hat)
     replace HO_8:=ak (R_after (ok:=(fun k_=>ob k_ u7 ∧ some k_ ≠ (.slice (some ad332) t329.length co39 : Value).ownBlock ∧ ob k_ (.slice Ao61 y343.length co61))) (rm (R_mono HO_8.out (fun _ hk=>⟨⟨hk.2.2.2,⟨hk.2.2.1,hk.2.1⟩⟩,hk.1⟩))) hg hat)
     replace HO_13:=ak (R_after (ok:=(fun k_=>ob k_ u7 ∧ some k_ ≠ (.slice (some ad335) x8_3.length co52 : Value).ownBlock ∧ ob k_ (.slice Ao61 y343.length co61))) (rm (R_mono HO_13.out (fun _ hk=>⟨⟨hk.2.2.1,⟨hk.2.2.2,hk.2.1⟩⟩,hk.1⟩))) hg hat)
     replace BK307:=ak (blk_grown (g:=gb307) (o:=.cells #[.int .i64 a0_0,.slice (some ad333) l0_1.length c0_1,.slice (some ad334) l0_2.length c0_2] 27 (0,0)) (bm BK307.out) hg (R_ne HO342.out BK307.out (by decide)))
     replace HO345:=ak (R_after (ok:=(fun k_=>ob k_ u7 ∧ some k_ ≠ (.slice (some ad335) x8_3.length co52 : Value).ownBlock ∧ some k_ ≠ (.slice (some ad332) t329.length co39 : Value).ownBlock)) (rm (R_mono HO345.out (fun _ hk=>⟨⟨hk.2.2.1,⟨hk.2.2.2,hk.2.1⟩⟩,hk.1⟩))) hg hat)
     replace HB:=ak hb
     have HO348:=ak ho
     clear HO342
     clear ho hb hg hat
     refine hK.out _ _ trivial (fun hHeld=>?_)
     clear hK K
     refine norm_ (a':=?_) ?_ ?_
     rotate_left
     ·show Act.put _ (some 97) _ = _
      simp only [ap]
      rfl
     refine one_ (i:=10) (N:=some 101) (lb 12 2047) rfl rfl (one_of HT_.out (by kernel_rfl)) (by decide) (fun K hK=>?_)
     refine R_append_rows_step (Kd.int .i64) (w0:=w) w.heap.size (by rfl) (.tmp 97) (.tmp 100) 22 3 (.int .i64 0) 8 rfl Try.underlying22 info3 rfl (by decide) (by omega) v347 y346 y349 _ _ _ (fun k_=>ob k_ u7 ∧ some k_ ≠ (.slice (some ad335) x8_3.length co52 : Value).ownBlock ∧ some k_ ≠ (.slice (some ad332) t329.length co39 : Value).ownBlock ∧ ob k_ (.slice Ao61 y343.length co61)) (fun _=>False) rfl rfl ?aO ?aR (fun _ _ h=>h) (fun _ h=>h.elim) ?aF ?aB ?aS ?aL ?_
     (case aR=>repeat (exact ((show Kd.C (Kd.int .i64) _ A55 y349.length y349 from by rw [Ny349.out,KA55.out];refine C_drop (m:=(x16_4 : Int).toNat) (c:=co52) ?cA KL55.out ((R_reads' HO_8.out).2.1);(case cA=>exact ((R_reads' (rm HO_8.out)).2.2))))))
     (case aB=>exact (h1 HB.out GE307.out))
     (case aF=>exact (fun k_ hk=>⟨Kd.fresh' (R_lt (rm HO_7.out)) k_ hk,Kd.fresh' (R_lt (rm HO_8.out)) k_ hk,Kd.fresh' (R_lt (rm HO_13.out)) k_ hk,Kd.fresh' (R_lt (rm HO345.out)) k_ hk⟩))
     (case aO=>exact (rm HO348.out))
     (case aS=>exact (below_size (h1 HB.out GE307.out)))
     (case aL=>have:=LMc51.out;omega)
     intro v354 w62 ho hb hg hat
     rw [← Ny353.out] at ho
     replace HO_7:=ak (R_after (ok:=(fun k_=>some k_ ≠ (.slice (some ad335) x8_3.length co52 : Value).ownBlock ∧ some k_ ≠ (.slice (some ad332) t329.length co39 : Value).ownBlock ∧ ob k_ (.slice Ao61 y343.length co61))) (rm HO_7.out) hg hat)
     replace HO_8:=ak (R_after (ok:=(fun k_=>ob k_ u7 ∧ some k_ ≠ (.slice (some ad332) t329.length co39 : Value).ownBlock ∧ ob k_ (.slice Ao61 y343.length co61))) (rm HO_8.out) hg hat)
     replace HO_13:=ak (R_after (ok:=(fun k_=>ob k_ u7 ∧ some k_ ≠ (.slice (some ad335) x8_3.length co52 : Value).ownBlock ∧ ob k_ (.slice Ao61 y343.length co61))) (rm HO_13.out) hg hat)
     replace BK307:=ak (blk_grown (g:=gb307) (o:=.cells #[.int .i64 a0_0,.slice (some ad333) l0_1.length c0_1,.slice (some ad334) l0_2.length c0_2] 27 (0,0)) (bm BK307.out) hg (R_ne HO348.out BK307.out (by decide)))
     replace HO345:=ak (R_after (ok:=(fun k_=>ob k_ u7 ∧ some k_ ≠ (.slice (some ad335) x8_3.length co52 : Value).ownBlock ∧ some k_ ≠ (.slice (some ad332) t329.length co39 : Value).ownBlock)) (rm HO345.out) hg hat)
     replace HB:=ak hb
     have HO355:=ak ho
     clear HO348
     clear ho hb hg hat
     refine hK.out _ _ trivial (fun hHeld=>?_)
     clear hK K
     refine norm_ (a':=?_) ?_ ?_
     rotate_left
     ·show Act.put _ (some 101) _ = _
      simp only [ap]
      rfl
     refine pq 11 (N:=some 8) (lb 12 4095) HT_ ?_
     refine done_ (done_of HT_.out (by kernel_rfl)) ?_
     try go_wp2
     go_roundg k4
     case measure=>have:=HJ2.out;have:=HK2.out;have:=HK3.out;have:=HK4.out;omega
     case rel=>exact ⟨(y353),(wrap64 (x14_3 + 1)),fd,H',⟨by have:=HJ2.out;have:=HK2.out;have:=HK3.out;have:=HK4.out;omega⟩,⟨rm (R_mono HO_7.out (fun _ hk=>⟨hk.2,hk.1.2.1⟩))⟩,⟨rm (R_mono HO355.out (fun _ hk=>⟨hk.1,hk.2.2.1⟩))⟩,⟨rm (R_mono HO_13.out (fun _ hk=>⟨hk.1.1,hk.2⟩))⟩,⟨bm BK307.out⟩,⟨h1 HB.out GE307.out⟩⟩


end
end Go.Proofs.Ytciihopkgblpkaa.QFnWires
