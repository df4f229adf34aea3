/- Functions that the law FnExactBeadsAt comes to, as Lean functions, with the proof that the Go code does what they say: written by a program of this session over the kit's print. No condition but those named. -/
import Derived.Test.YtciihopkgblpkaaQFnExactBeadsAtx0
import Derived.Test.YtciihopkgblpkaaQFnExactBeadsAtx2
import Derived.Test.YtciihopkgblpkaaQFnExactBeadsAtx3
import Derived.Test.YtciihopkgblpkaaQFnExactBeadsAtx4
namespace Go.Proofs.Ytciihopkgblpkaa.QFnExactBeadsAt
open Go.RowKit Go.Proofs.YtciihopkgblpkaaW.PrintWords Go.Proofs.YtciihopkgblpkaaW.PrintLast Go.Proofs.YtciihopkgblpkaaW.PrintMore Go.Proofs.Ytciihopkgblpkaa.Short
attribute [local go_sem] max2_int min2_int max_two min_two max_three min_three max_four min_four   -- for this text's walks alone
set_option linter.unusedVariables false
set_option linter.unusedSimpArgs false

/-! ### spec_BeadsAt: function 31 -/
section
open Kd
mutual
def spec_BeadsAt.j0 : Nat → Int → List Int → List Int → Bool → Int → List Int → List Int → Option (List Int × List Int × Bool)
 | 0,_,_,_,_,_,_,_=>none
 | k + 1,x1,x7,x8,x25,x185000,x185001,x185002=>if x25 = true then (some (x7,x8,false)) else ((spec_FallsOf.f k x185000 x185001 x185002).bind fun bt192=>(spec_BeadsAt.l0 k x1 x7 x8 bt192.1 0 x185000 x185001 x185002))
def spec_BeadsAt.l0 : Nat → Int → List Int → List Int → List Int → Int → Int → List Int → List Int → Option (List Int × List Int × Bool)
 | 0,_,_,_,_,_,_,_,_=>none
 | k + 1,x1,x7,x8,x9,x12,x185000,x185001,x185002=>if x12 < (x9.length : Int) then (if 0 ≤ x12 then (if (rd x9 x12) ≥ x1 then ((some (([x12] : List Int) : List Int)).bind fun y200=>(if x7.length + y200.length < 17592186044416 then (spec_BeadsAt.l0 k x1 (x7 ++ y200) x8 x9 (wrap64 (x12 + 1)) x185000 x185001 x185002) else (none))) else (spec_BeadsAt.l0 k x1 x7 x8 x9 (wrap64 (x12 + 1)) x185000 x185001 x185002)) else (none)) else ((spec_l8Shades.f k x185000 x185001 x185002).bind fun t206=>(spec_BeadsAt.l1 k x1 x7 x8 t206 0 x185000 x185001 x185002))
def spec_BeadsAt.l1 : Nat → Int → List Int → List Int → List Int → Int → Int → List Int → List Int → Option (List Int × List Int × Bool)
 | 0,_,_,_,_,_,_,_,_=>none
 | k + 1,x1,x7,x8,x13,x14,x185000,x185001,x185002=>if x14 < (x13.length : Int) then (if 0 ≤ x14 then (if (rd x13 x14) < x1 then (spec_BeadsAt.l1 k x1 x7 x8 x13 (wrap64 (x14 + 1)) x185000 x185001 x185002) else (if x14 < (x185001.length : Int) then (if x14 < (x185002.length : Int) then (spec_BeadsAt.l2 k x1 x7 x8 x13 x14 (wrap64 ((rd x185001 x14) + (wrap64 ((rd x185002 x14) * x1)))) 0 x185000 x185001 x185002) else (none)) else (none))) else (none)) else (some (x7,x8,true))
def spec_BeadsAt.l2 : Nat → Int → List Int → List Int → List Int → Int → Int → Int → Int → List Int → List Int → Option (List Int × List Int × Bool)
 | 0,_,_,_,_,_,_,_,_,_,_=>none
 | k + 1,x1,x7,x8,x13,x14,x15,x16,x185000,x185001,x185002=>if x16 < (x8.length : Int) then (if 0 ≤ x16 then (if (rd x8 x16) ≤ x15 then (spec_BeadsAt.l2 k x1 x7 x8 x13 x14 x15 (wrap64 (x16 + 1)) x185000 x185001 x185002) else (if x16 ≤ (x8.length : Int) then ((spec_l1Own.f (x8.take (x16 : Int).toNat)).bind fun t217=>((some (([x15] : List Int) : List Int)).bind fun y220=>(if t217.length + y220.length < 17592186044416 then ((some (t217 ++ y220 : List Int)).bind fun y223=>((some (x8.drop (x16 : Int).toNat : List Int)).bind fun y226=>(if y223.length + y226.length < 17592186044416 then (spec_BeadsAt.l1 k x1 x7 (y223 ++ y226) x13 (wrap64 (x14 + 1)) x185000 x185001 x185002) else (none)))) else (none)))) else (none))) else (none)) else (if 0 ≤ x16 then (if x16 ≤ (x8.length : Int) then ((spec_l1Own.f (x8.take (x16 : Int).toNat)).bind fun t237=>((some (([x15] : List Int) : List Int)).bind fun y240=>(if t237.length + y240.length < 17592186044416 then ((some (t237 ++ y240 : List Int)).bind fun y243=>((some (x8.drop (x16 : Int).toNat : List Int)).bind fun y246=>(if y243.length + y246.length < 17592186044416 then (spec_BeadsAt.l1 k x1 x7 (y243 ++ y246) x13 (wrap64 (x14 + 1)) x185000 x185001 x185002) else (none)))) else (none)))) else (none)) else (none))
end
def spec_BeadsAt.f (k : Nat) (a0_0 : Int) (l0_1 : List Int) (l0_2 : List Int) (a1 : Int) : Option (List Int × List Int × Bool):=(some (([] : List Int) : List Int)).bind fun y185=>((some (([] : List Int) : List Int)).bind fun y188=>((spec_l8Wire.f k a0_0 l0_1 l0_2).bind fun t191=>(if t191 = true then (spec_BeadsAt.j0 k a1 y185 y188 (decide (a1 < 0)) a0_0 l0_1 l0_2) else (spec_BeadsAt.j0 k a1 y185 y188 true a0_0 l0_1 l0_2))))
theorem spec_BeadsAt.mono_l : ∀ k,(∀ y0 y1 y2 y3 y4 y5 y6,LeO (spec_BeadsAt.j0 k y0 y1 y2 y3 y4 y5 y6) (spec_BeadsAt.j0 (k + 1) y0 y1 y2 y3 y4 y5 y6)) ∧ (∀ y0 y1 y2 y3 y4 y5 y6 y7,LeO (spec_BeadsAt.l0 k y0 y1 y2 y3 y4 y5 y6 y7) (spec_BeadsAt.l0 (k + 1) y0 y1 y2 y3 y4 y5 y6 y7)) ∧ (∀ y0 y1 y2 y3 y4 y5 y6 y7,LeO (spec_BeadsAt.l1 k y0 y1 y2 y3 y4 y5 y6 y7) (spec_BeadsAt.l1 (k + 1) y0 y1 y2 y3 y4 y5 y6 y7)) ∧ (∀ y0 y1 y2 y3 y4 y5 y6 y7 y8 y9,LeO (spec_BeadsAt.l2 k y0 y1 y2 y3 y4 y5 y6 y7 y8 y9) (spec_BeadsAt.l2 (k + 1) y0 y1 y2 y3 y4 y5 y6 y7 y8 y9))
 | 0=>⟨fun _ _ _ _ _ _ _ r h=>by simp [spec_BeadsAt.j0] at h,fun _ _ _ _ _ _ _ _ r h=>by simp [spec_BeadsAt.l0] at h,fun _ _ _ _ _ _ _ _ r h=>by simp [spec_BeadsAt.l1] at h,fun _ _ _ _ _ _ _ _ _ _ r h=>by simp [spec_BeadsAt.l2] at h⟩
 | k + 1=>by
  obtain ⟨ih0,ih1,ih2,ih3⟩:=spec_BeadsAt.mono_l k
  refine ⟨?_,?_,?_,?_⟩
  ·intro y0 y1 y2 y3 y4 y5 y6
   unfold spec_BeadsAt.j0
   repeat' first
   | (with_reducible exact ih0 _ _ _ _ _ _ _)
   | (with_reducible exact ih1 _ _ _ _ _ _ _ _)
   | (with_reducible exact ih2 _ _ _ _ _ _ _ _)
   | (with_reducible exact ih3 _ _ _ _ _ _ _ _ _ _)
   | (with_reducible exact spec_FallsOf.mono _ _ _ _)
   | (with_reducible exact spec_l8Shades.mono _ _ _ _)
   | (with_reducible exact spec_l8Wire.mono _ _ _ _)
   | (with_reducible exact LeO.refl _)
   | (with_reducible exact LeO.none _)
   | (with_reducible refine LeO.ite ?_ ?_)
   | (with_reducible refine LeO.bind ?_ (fun _=>?_))
   | exact ih0 _ _ _ _ _ _ _
   | exact ih1 _ _ _ _ _ _ _ _
   | exact ih2 _ _ _ _ _ _ _ _
   | exact ih3 _ _ _ _ _ _ _ _ _ _
   | exact spec_FallsOf.mono _ _ _ _
   | exact spec_l8Shades.mono _ _ _ _
   | exact spec_l8Wire.mono _ _ _ _
   | exact LeO.none _
   | refine LeO.ite ?_ ?_
   | refine LeO.bind ?_ (fun _=>?_)
  ·intro y0 y1 y2 y3 y4 y5 y6 y7
   unfold spec_BeadsAt.l0
   repeat' first
   | (with_reducible exact ih0 _ _ _ _ _ _ _)
   | (with_reducible exact ih1 _ _ _ _ _ _ _ _)
   | (with_reducible exact ih2 _ _ _ _ _ _ _ _)
   | (with_reducible exact ih3 _ _ _ _ _ _ _ _ _ _)
   | (with_reducible exact spec_FallsOf.mono _ _ _ _)
   | (with_reducible exact spec_l8Shades.mono _ _ _ _)
   | (with_reducible exact spec_l8Wire.mono _ _ _ _)
   | (with_reducible exact LeO.refl _)
   | (with_reducible exact LeO.none _)
   | (with_reducible refine LeO.ite ?_ ?_)
   | (with_reducible refine LeO.bind ?_ (fun _=>?_))
   | exact ih0 _ _ _ _ _ _ _
   | exact ih1 _ _ _ _ _ _ _ _
   | exact ih2 _ _ _ _ _ _ _ _
   | exact ih3 _ _ _ _ _ _ _ _ _ _
   | exact spec_FallsOf.mono _ _ _ _
   | exact spec_l8Shades.mono _ _ _ _
   | exact spec_l8Wire.mono _ _ _ _
   | exact LeO.none _
   | refine LeO.ite ?_ ?_
   | refine LeO.bind ?_ (fun _=>?_)
  ·intro y0 y1 y2 y3 y4 y5 y6 y7
   unfold spec_BeadsAt.l1
   repeat' first
   | (with_reducible exact ih0 _ _ _ _ _ _ _)
   | (with_reducible exact ih1 _ _ _ _ _ _ _ _)
   | (with_reducible exact ih2 _ _ _ _ _ _ _ _)
   | (with_reducible exact ih3 _ _ _ _ _ _ _ _ _ _)
   | (with_reducible exact spec_FallsOf.mono _ _ _ _)
   | (with_reducible exact spec_l8Shades.mono _ _ _ _)
   | (with_reducible exact spec_l8Wire.mono _ _ _ _)
   | (with_reducible exact LeO.refl _)
   | (with_reducible exact LeO.none _)
   | (with_reducible refine LeO.ite ?_ ?_)
   | (with_reducible refine LeO.bind ?_ (fun _=>?_))
   | exact ih0 _ _ _ _ _ _ _
   | exact ih1 _ _ _ _ _ _ _ _
   | exact ih2 _ _ _ _ _ _ _ _
   | exact ih3 _ _ _ _ _ _ _ _ _ _
   | exact spec_FallsOf.mono _ _ _ _
   | exact spec_l8Shades.mono _ _ _ _
   | exact spec_l8Wire.mono _ _ _ _
   | exact LeO.none _
   | refine LeO.ite ?_ ?_
   | refine LeO.bind ?_ (fun _=>?_)
  ·intro y0 y1 y2 y3 y4 y5 y6 y7 y8 y9
   unfold spec_BeadsAt.l2
   repeat' first
   | (with_reducible exact ih0 _ _ _ _ _ _ _)
   | (with_reducible exact ih1 _ _ _ _ _ _ _ _)
   | (with_reducible exact ih2 _ _ _ _ _ _ _ _)
   | (with_reducible exact ih3 _ _ _ _ _ _ _ _ _ _)
   | (with_reducible exact spec_FallsOf.mono _ _ _ _)
   | (with_reducible exact spec_l8Shades.mono _ _ _ _)
   | (with_reducible exact spec_l8Wire.mono _ _ _ _)
   | (with_reducible exact LeO.refl _)
   | (with_reducible exact LeO.none _)
   | (with_reducible refine LeO.ite ?_ ?_)
   | (with_reducible refine LeO.bind ?_ (fun _=>?_))
   | exact ih0 _ _ _ _ _ _ _
   | exact ih1 _ _ _ _ _ _ _ _
   | exact ih2 _ _ _ _ _ _ _ _
   | exact ih3 _ _ _ _ _ _ _ _ _ _
   | exact spec_FallsOf.mono _ _ _ _
   | exact spec_l8Shades.mono _ _ _ _
   | exact spec_l8Wire.mono _ _ _ _
   | exact LeO.none _
   | refine LeO.ite ?_ ?_
   | refine LeO.bind ?_ (fun _=>?_)
theorem spec_BeadsAt.mono : ∀ a0 a1 a2 a3 k,LeO (spec_BeadsAt.f k a0 a1 a2 a3) (spec_BeadsAt.f (k + 1) a0 a1 a2 a3):=by
 intro a0 a1 a2 a3 k
 obtain ⟨ih0,ih1,ih2,ih3⟩:=spec_BeadsAt.mono_l k
 unfold spec_BeadsAt.f
 repeat' first
   | (with_reducible exact ih0 _ _ _ _ _ _ _)
   | (with_reducible exact ih1 _ _ _ _ _ _ _ _)
   | (with_reducible exact ih2 _ _ _ _ _ _ _ _)
   | (with_reducible exact ih3 _ _ _ _ _ _ _ _ _ _)
   | (with_reducible exact spec_FallsOf.mono _ _ _ _)
   | (with_reducible exact spec_l8Shades.mono _ _ _ _)
   | (with_reducible exact spec_l8Wire.mono _ _ _ _)
   | (with_reducible exact LeO.refl _)
   | (with_reducible exact LeO.none _)
   | (with_reducible refine LeO.ite ?_ ?_)
   | (with_reducible refine LeO.bind ?_ (fun _=>?_))
   | exact ih0 _ _ _ _ _ _ _
   | exact ih1 _ _ _ _ _ _ _ _
   | exact ih2 _ _ _ _ _ _ _ _
   | exact ih3 _ _ _ _ _ _ _ _ _ _
   | exact spec_FallsOf.mono _ _ _ _
   | exact spec_l8Shades.mono _ _ _ _
   | exact spec_l8Wire.mono _ _ _ _
   | exact LeO.none _
   | refine LeO.ite ?_ ?_
   | refine LeO.bind ?_ (fun _=>?_)
def spec_BeadsAt.T15 : Bool × List (List Nat × List Nat):=(true,[([],[]),([0],[0]),([],[]),([1,2],[1,2]),([3],[3]),([],[]),([5],[5]),([],[]),([6,7],[6,7]),([8],[8]),([],[]),([9,10],[9,10]),([4,11],[4,11]),([12,0,1,2,3,4,5,6,7,8,9,10,11,12],[12]),([13,0,1,2,3,4,5,6,7,8,9,10,11,12,13],[])])
def spec_BeadsAt.B15 : List Nat:=[0,1,0,7,15,0,32,0,224,480,0,2016,4095,8191,16383]
theorem spec_BeadsAt.tab15 : rtab .any (opsOf Try.f31 15) = spec_BeadsAt.T15:=by kernel_rfl
theorem spec_BeadsAt.bits15 : waitsOk spec_BeadsAt.T15.2 spec_BeadsAt.B15 = true:=by kernel_rfl
def spec_BeadsAt.T18 : Bool × List (List Nat × List Nat):=(true,[([],[]),([],[]),([0,1],[0,1]),([2],[2]),([],[]),([4],[4]),([3,5,3],[3,5]),([],[]),([],[]),([7,8],[7,8]),([6,9,6],[6,9]),([10,10,0,1,2,3,4,5,6,7,8,9,10],[0,7,10])])
def spec_BeadsAt.B18 : List Nat:=[0,0,3,7,0,16,63,0,0,384,1023,2047]
theorem spec_BeadsAt.tab18 : rtab .any (opsOf Try.f31 18) = spec_BeadsAt.T18:=by kernel_rfl
theorem spec_BeadsAt.bits18 : waitsOk spec_BeadsAt.T18.2 spec_BeadsAt.B18 = true:=by kernel_rfl
set_option maxHeartbeats 8000000 in
set_option maxRecDepth 100000 in
theorem spec_BeadsAt.calls (k : Nat) (a0_0 : Int) (A0_1 : Option Addr) (c0_1 : Nat) (l0_1 : List Int) (A0_2 : Option Addr) (c0_2 : Nat) (l0_2 : List Int) (a1 : Int) (r1 : List Int) (r2 : List Int) (r3 : Bool) (w : World) (hr0_1 : Kd.C (Kd.int .i64) w A0_1 l0_1.length l0_1) (hc0_1 : l0_1.length ≤ c0_1) (hr0_2 : Kd.C (Kd.int .i64) w A0_2 l0_2.length l0_2) (hc0_2 : l0_2.length ≤ c0_2) (h : spec_BeadsAt.f k a0_0 l0_1 l0_2 a1 = some (r1,r2,r3)) :
  Calls Try.prog 31 #[.agg #[.int .i64 a0_0,.slice A0_1 l0_1.length c0_1,.slice A0_2 l0_2.length c0_2],.int .i64 a1] w fun e w'=>∃ v0_ v1_ : Value,e = .returned (.tuple #[v0_,v1_,.bool r3]) ∧ Kd.R (Kd.int .i64) 3 w' w.heap.size (fun k_=>some k_ ≠ (v1_ : Value).ownBlock) v0_ r1 ∧ Kd.R (Kd.int .i64) 3 w' w.heap.size (fun k_=>some k_ ≠ (v0_ : Value).ownBlock) v1_ r2 ∧ Below w.heap.size w w':=by
 have hu27:=Try.underlying27
 have HR0_1:=Aside0.mk hr0_1
 have HC0_1:=Aside0.mk hc0_1
 clear hr0_1 hc0_1
 have HR0_2:=Aside0.mk hr0_2
 have HC0_2:=Aside0.mk hc0_2
 clear hr0_2 hc0_2
 have HB:=Aside0.mk (Below.refl w.heap.size w)
 have H : ((some (([] : List Int) : List Int)).bind fun y185=>((some (([] : List Int) : List Int)).bind fun y188=>((spec_l8Wire.f k a0_0 l0_1 l0_2).bind fun t191=>(if t191 = true then (spec_BeadsAt.j0 k a1 y185 y188 (decide (a1 < 0)) a0_0 l0_1 l0_2) else (spec_BeadsAt.j0 k a1 y185 y188 true a0_0 l0_1 l0_2))))) = some (r1,r2,r3):=h
 clear h
 obtain ⟨y185,hy185⟩ : ∃ y_ : List Int,y_ = (([] : List Int)):=⟨_,rfl⟩
 replace H : ((some (([] : List Int) : List Int)).bind fun y188=>((spec_l8Wire.f k a0_0 l0_1 l0_2).bind fun t191=>(if t191 = true then (spec_BeadsAt.j0 k a1 y185 y188 (decide (a1 < 0)) a0_0 l0_1 l0_2) else (spec_BeadsAt.j0 k a1 y185 y188 true a0_0 l0_1 l0_2)))) = some (r1,r2,r3):=by first|(rw [hy185];with_reducible exact H)|(have H2_:=(Option.bind_some _ _).symm.trans H;rw [hy185];with_reducible exact H2_)|(have H2_:=(Option.bind_some _ _).symm.trans H;with_reducible exact H2_)|with_reducible exact H|(rw [hy185];exact H)|exact H
 have Ny185:=Aside0.mk hy185
 clear hy185
 obtain ⟨y188,hy188⟩ : ∃ y_ : List Int,y_ = (([] : List Int)):=⟨_,rfl⟩
 replace H : ((spec_l8Wire.f k a0_0 l0_1 l0_2).bind fun t191=>(if t191 = true then (spec_BeadsAt.j0 k a1 y185 y188 (decide (a1 < 0)) a0_0 l0_1 l0_2) else (spec_BeadsAt.j0 k a1 y185 y188 true a0_0 l0_1 l0_2))) = some (r1,r2,r3):=by first|(rw [hy188];with_reducible exact H)|(have H2_:=(Option.bind_some _ _).symm.trans H;rw [hy188];with_reducible exact H2_)|(have H2_:=(Option.bind_some _ _).symm.trans H;with_reducible exact H2_)|with_reducible exact H|(rw [hy188];exact H)|exact H
 have Ny188:=Aside0.mk hy188
 clear hy188
 have HC3:=Aside0.mk H
 clear H
 go_enter Try.func31,Try.ntmps31
 go_upto_region 2 with (first|((with_reducible refine gate_dst (N:=2) rfl ?_);refine box_event ?hg (N:=2) ?hd (cs:=#[.int .i64 a0_0,.slice A0_1 l0_1.length c0_1,.slice A0_2 l0_2.length c0_2]) (t:=27) ?hr ?_;(case hd=>rfl);(case hg=>rfl);(case hr=>first|(go_simp;done)|(go_simp;rfl));intro gb184 hg w4 hbox hb;have n0_:=Aside0.mk (below_step (hm HB.out) hb);have n1_:=Aside0.mk (hbox);have n2_:=Aside0.mk ((by rw [hg];exact (below_size (hm HB.out)) : w.heap.size ≤ gb184));have n3_:=Aside0.mk ((by rw [hg];exact (below_size (hm HB.out)) : w.heap.size ≤ gb184));clear HB;have HB:=n0_;have BK184:=n1_;have GW184:=n2_;have GE184:=n3_;clear n0_ n1_ n2_ n3_;clear hb hbox hg)|((with_reducible refine gate_dst (N:=17) rfl ?_);refine R_lit (Kd.int .i64) _ 3 ?hg (N:=17) ?hd (xs:=([] : List Int)) (inner:=[]) (ok:=fun _=>True) (okp:=fun _=>True) ?hr ?hp (fun _ hk=>hk) trivial (Below.refl _ _) (Nat.le_refl _) (by simp) ?_;(case hd=>rfl);(case hg=>rfl);(case hr=>first|(go_simp;done)|(go_simp;rfl));(case hp=>exact (Reps.none _ _));intro v186 w5 ho6 hb hg_ hnew_;clear hg_ hnew_;(first|rw [← Ny185.out] at ho6|(simp only [Int.reduceToNat] at ho6;rw [← Ny185.out] at ho6));have n0_:=Aside0.mk (R_lower ho6 (below_size (h1 HB.out GE184.out)));have n1_:=Aside0.mk (blk_below (g:=gb184) (o:=.cells #[.int .i64 a0_0,.slice A0_1 l0_1.length c0_1,.slice A0_2 l0_2.length c0_2] 27 (0,0)) (bm BK184.out) hb);have n2_:=Aside0.mk (below_step (h1 HB.out GE184.out) hb);clear BK184;clear HB;have HO187:=n0_;have BK184:=n1_;have HB:=n2_;clear n0_ n1_ n2_;clear hb ho6)|((with_reducible refine gate_dst (N:=18) rfl ?_);refine R_lit (Kd.int .i64) _ 3 ?hg (N:=18) ?hd (xs:=([] : List Int)) (inner:=[]) (ok:=fun _=>True) (okp:=fun _=>True) ?hr ?hp (fun _ hk=>hk) trivial (Below.refl _ _) (Nat.le_refl _) (by simp) ?_;(case hd=>rfl);(case hg=>rfl);(case hr=>first|(go_simp;done)|(go_simp;rfl));(case hp=>exact (Reps.none _ _));intro v189 w7 ho8 hb hg_ hnew_;clear hg_ hnew_;(first|rw [← Ny188.out] at ho8|(simp only [Int.reduceToNat] at ho8;rw [← Ny188.out] at ho8));have n0_:=Aside0.mk (R_elder' (rm HO187.out) (R_base ho8) hb);have n1_:=Aside0.mk (R_lower (R_new' ho8 (R_lt (rm HO187.out))) (below_size (h1 HB.out GE184.out)));have n2_:=Aside0.mk (blk_below (g:=gb184) (o:=.cells #[.int .i64 a0_0,.slice A0_1 l0_1.length c0_1,.slice A0_2 l0_2.length c0_2] 27 (0,0)) (bm BK184.out) hb);have n3_:=Aside0.mk (below_step (h1 HB.out GE184.out) hb);clear HO187;clear BK184;clear HB;have HO187:=n0_;have HO190:=n1_;have BK184:=n2_;have HB:=n3_;clear n0_ n1_ n2_ n3_;clear hb ho8))
 (try simp only [ap])
 go_cut [25] (fun v25 wc=>∃ (kq : Nat) (x25_2 : Bool),v25 = .bool x25_2 ∧ Aside0 (spec_BeadsAt.j0 kq a1 y185 y188 x25_2 a0_0 l0_1 l0_2 = some (r1,r2,r3)) ∧ Aside0 (kq ≤ k) ∧ Aside0 (Kd.R (Kd.int .i64) 3 wc w.heap.size (fun k_=>some k_ ≠ (v189 : Value).ownBlock) v186 y185) ∧ Aside0 (Kd.R (Kd.int .i64) 3 wc w.heap.size (fun k_=>some k_ ≠ (v186 : Value).ownBlock) v189 y188) ∧ Aside0 (wc.heap[gb184]? = some (.cells #[.int .i64 a0_0,(.slice A0_1 l0_1.length c0_1),(.slice A0_2 l0_2.length c0_2)] 27 (0,0))) ∧ Aside0 (Below w.heap.size w wc))
 case first =>
  have H:=HC3.out
  clear HC3
  replace H:=Option.bind_eq_some_iff.mp H
  obtain ⟨t191,A90,H⟩:=H
  replace H : (if t191 = true then (spec_BeadsAt.j0 k a1 y185 y188 (decide (a1 < 0)) a0_0 l0_1 l0_2) else (spec_BeadsAt.j0 k a1 y185 y188 true a0_0 l0_1 l0_2)) = some (r1,r2,r3):=H
  have A9:=Aside0.mk A90
  clear A90
  by_cases c10 : t191 = true
  ·subst c10
   have H1 : (spec_BeadsAt.j0 k a1 y185 y188 (decide (a1 < 0)) a0_0 l0_1 l0_2) = some (r1,r2,r3):=by rw [if_pos rfl] at H;exact H
   clear H
   have H:=H1
   clear H1
   have H':=Aside0.mk H
   clear H
   have hcz11_0 : w7.cell? ⟨gb184,0,none⟩ = some (.int .i64 a0_0):=(blk_cell BK184.out 0).trans rfl
   have hcz11_1 : w7.cell? ⟨gb184,1,none⟩ = some (.slice A0_1 l0_1.length c0_1):=(blk_cell BK184.out 1).trans rfl
   have hcz11_2 : w7.cell? ⟨gb184,2,none⟩ = some (.slice A0_2 l0_2.length c0_2):=(blk_cell BK184.out 2).trans rfl
   have hfz11_0:=blk_frozen BK184.out 0
   have hfz11_1:=blk_frozen BK184.out 1
   have hfz11_2:=blk_frozen BK184.out 2
   go_wp2_with (first|((with_reducible refine gate_callee (f:=40) rfl ?_);refine goesL_ (some 20) rfl rfl Try.func40 (by kernel_rfl) rfl #[.agg #[.int .i64 a0_0,.slice A0_1 l0_1.length c0_1,.slice A0_2 l0_2.length c0_2]] rfl (by (try simp only [List.map_toArray,List.map_cons,List.map_nil]);first|done|rfl|(simp only [List.length_drop,List.length_take];rfl)) ?_;(with_reducible refine (spec_l8Wire.calls k a0_0 _ _ l0_1 _ _ l0_2 true _ ?side1 ?side2 ?side3 ?side4 A9.out).mono ?_);(case side1=>exact cm (C_below HR0_1.out HB.out));(case side2=>exact HC0_1.out);(case side3=>exact cm (C_below HR0_2.out HB.out));(case side4=>exact HC0_2.out);rintro e w12 ⟨rfl,hb⟩;refine ⟨_,rfl,?_⟩;have n0_:=Aside0.mk (R_below (rm HO187.out) hb);have n1_:=Aside0.mk (R_below (rm HO190.out) hb);have n2_:=Aside0.mk (blk_below (g:=gb184) (o:=.cells #[.int .i64 a0_0,.slice A0_1 l0_1.length c0_1,.slice A0_2 l0_2.length c0_2] 27 (0,0)) (bm BK184.out) hb);have n3_:=Aside0.mk (below_step (h1 HB.out GE184.out) hb);clear HO187;clear HO190;clear BK184;clear HB;have HO187:=n0_;have HO190:=n1_;have BK184:=n2_;have HB:=n3_;clear n0_ n1_ n2_ n3_;(try clear hb);(try clear hb2);(try clear hk);(try clear hi)))
   go_meet
   case rel=>exact ⟨_,(decide (a1 < 0)),(by first|rfl|(simp;done)|(simp [*];done)),H',⟨by first|omega|exact Nat.le_refl _⟩,⟨rm (R_mono HO187.out (fun _ hk=>hk.2))⟩,⟨rm (R_mono HO190.out (fun _ hk=>hk.2))⟩,⟨bm BK184.out⟩,⟨h1 HB.out GE184.out⟩⟩
  replace c10:=Bool.eq_false_iff.mpr c10
  subst c10
  have H1 : (spec_BeadsAt.j0 k a1 y185 y188 true a0_0 l0_1 l0_2) = some (r1,r2,r3):=by rw [if_neg (show ¬ (false = true) by decide)] at H;exact H
  clear H
  have H:=H1
  clear H1
  have H':=Aside0.mk H
  clear H
  have hcz13_0 : w7.cell? ⟨gb184,0,none⟩ = some (.int .i64 a0_0):=(blk_cell BK184.out 0).trans rfl
  have hcz13_1 : w7.cell? ⟨gb184,1,none⟩ = some (.slice A0_1 l0_1.length c0_1):=(blk_cell BK184.out 1).trans rfl
  have hcz13_2 : w7.cell? ⟨gb184,2,none⟩ = some (.slice A0_2 l0_2.length c0_2):=(blk_cell BK184.out 2).trans rfl
  have hfz13_0:=blk_frozen BK184.out 0
  have hfz13_1:=blk_frozen BK184.out 1
  have hfz13_2:=blk_frozen BK184.out 2
  go_wp2_with (first|((with_reducible refine gate_callee (f:=40) rfl ?_);refine goesL_ (some 20) rfl rfl Try.func40 (by kernel_rfl) rfl #[.agg #[.int .i64 a0_0,.slice A0_1 l0_1.length c0_1,.slice A0_2 l0_2.length c0_2]] rfl (by (try simp only [List.map_toArray,List.map_cons,List.map_nil]);first|done|rfl|(simp only [List.length_drop,List.length_take];rfl)) ?_;(with_reducible refine (spec_l8Wire.calls k a0_0 _ _ l0_1 _ _ l0_2 false _ ?side1 ?side2 ?side3 ?side4 A9.out).mono ?_);(case side1=>exact cm (C_below HR0_1.out HB.out));(case side2=>exact HC0_1.out);(case side3=>exact cm (C_below HR0_2.out HB.out));(case side4=>exact HC0_2.out);rintro e w14 ⟨rfl,hb⟩;refine ⟨_,rfl,?_⟩;have n0_:=Aside0.mk (R_below (rm HO187.out) hb);have n1_:=Aside0.mk (R_below (rm HO190.out) hb);have n2_:=Aside0.mk (blk_below (g:=gb184) (o:=.cells #[.int .i64 a0_0,.slice A0_1 l0_1.length c0_1,.slice A0_2 l0_2.length c0_2] 27 (0,0)) (bm BK184.out) hb);have n3_:=Aside0.mk (below_step (h1 HB.out GE184.out) hb);clear HO187;clear HO190;clear BK184;clear HB;have HO187:=n0_;have HO190:=n1_;have BK184:=n2_;have HB:=n3_;clear n0_ n1_ n2_ n3_;(try clear hb);(try clear hb2);(try clear hk);(try clear hi)))
  go_meet
  case rel=>exact ⟨_,(true),(by first|rfl|(simp;done)|(simp [*];done)),H',⟨by first|omega|exact Nat.le_refl _⟩,⟨rm (R_mono HO187.out (fun _ hk=>hk.2))⟩,⟨rm (R_mono HO190.out (fun _ hk=>hk.2))⟩,⟨bm BK184.out⟩,⟨h1 HB.out GE184.out⟩⟩
 clear HC3
 try clear c1
 try clear p2
 try clear c3
 try clear c4
 try clear c10
 try clear hcz11_0
 try clear hcz11_1
 try clear hcz11_2
 try clear hcz13_0
 try clear hcz13_1
 try clear hcz13_2
 try clear hfz11_0
 try clear hfz11_1
 try clear hfz11_2
 try clear hfz13_0
 try clear hfz13_1
 try clear hfz13_2
 obtain ⟨kq,x25_2,rfl,HA,HJ2,HO_7,HO_8,BK184,HB⟩:=hcut
 cases kq with
 | zero=>exact absurd HA.out (by simp [spec_BeadsAt.j0])
 | succ kj2 =>
  have H:=HA.out
  clear HA
  simp only [spec_BeadsAt.j0] at H
  by_cases c15 : x25_2 = true
  ·subst c15
   have H1 : (some (y185,y188,false)) = some (r1,r2,r3):=by rw [if_pos rfl] at H;exact H
   clear H
   have H:=H1
   clear H1
   simp only [Option.some.injEq,Prod.mk.injEq] at H
   obtain ⟨rfl,rfl,rfl⟩:=H
   go_wp2
   go_ret3
   exact ⟨_,_,by first|rfl|(simp [errW_none,errW_some] <;> rfl)|(simp [*,errW_none,errW_some] <;> rfl),rm HO_7.out,rm HO_8.out,h1 HB.out GE184.out⟩
  replace c15:=Bool.eq_false_iff.mpr c15
  subst c15
  have H1 : ((spec_FallsOf.f kj2 a0_0 l0_1 l0_2).bind fun bt192=>(spec_BeadsAt.l0 kj2 a1 y185 y188 bt192.1 0 a0_0 l0_1 l0_2)) = some (r1,r2,r3):=by rw [if_neg (show ¬ (false = true) by decide)] at H;exact H
  clear H
  have H:=H1
  clear H1
  replace H:=Option.bind_eq_some_iff.mp H
  obtain ⟨⟨t192,t195,t198⟩,A160,H⟩:=H
  replace H : (spec_BeadsAt.l0 kj2 a1 y185 y188 t192 0 a0_0 l0_1 l0_2) = some (r1,r2,r3):=H
  have A16:=Aside0.mk A160
  clear A160
  have H':=Aside0.mk H
  clear H
  have hcz17_0 : wc.cell? ⟨gb184,0,none⟩ = some (.int .i64 a0_0):=(blk_cell BK184.out 0).trans rfl
  have hcz17_1 : wc.cell? ⟨gb184,1,none⟩ = some (.slice A0_1 l0_1.length c0_1):=(blk_cell BK184.out 1).trans rfl
  have hcz17_2 : wc.cell? ⟨gb184,2,none⟩ = some (.slice A0_2 l0_2.length c0_2):=(blk_cell BK184.out 2).trans rfl
  have hfz17_0:=blk_frozen BK184.out 0
  have hfz17_1:=blk_frozen BK184.out 1
  have hfz17_2:=blk_frozen BK184.out 2
  go_wp2_with (first|((with_reducible refine gate_callee (f:=29) rfl ?_);refine goesL_ (some 30) rfl rfl Try.func29 (by kernel_rfl) rfl #[.agg #[.int .i64 a0_0,.slice A0_1 l0_1.length c0_1,.slice A0_2 l0_2.length c0_2]] rfl (by (try simp only [List.map_toArray,List.map_cons,List.map_nil]);first|done|rfl|(simp only [List.length_drop,List.length_take];rfl)) ?_;(with_reducible refine (spec_FallsOf.calls kj2 a0_0 _ _ l0_1 _ _ l0_2 t192 t195 t198 _ ?side1 ?side2 ?side3 ?side4 A16.out).mono ?_);(case side1=>exact cm (C_below HR0_1.out HB.out));(case side2=>exact HC0_1.out);(case side3=>exact cm (C_below HR0_2.out HB.out));(case side4=>exact HC0_2.out);rintro e w18 ⟨v193,v196,rfl,ho0,ho1,hb⟩;refine ⟨_,rfl,?_⟩;have n0_:=Aside0.mk (R_mono (R_told (R_told (R_old (rm HO_7.out) hb) (R_base ho0)) (R_base ho1)) (fun _ h_=>h_.1));have n1_:=Aside0.mk (R_mono (R_told (R_told (R_old (rm HO_8.out) hb) (R_base ho0)) (R_base ho1)) (fun _ h_=>h_.1));have n2_:=Aside0.mk (R_lower (R_new' (R_new' ho0 (R_lt (rm HO_7.out))) (R_lt (rm HO_8.out))) (below_size (h1 HB.out GE184.out)));have n3_:=Aside0.mk (R_lower (R_new' (R_new' ho1 (R_lt (rm HO_7.out))) (R_lt (rm HO_8.out))) (below_size (h1 HB.out GE184.out)));have n4_:=Aside0.mk (blk_below (g:=gb184) (o:=.cells #[.int .i64 a0_0,.slice A0_1 l0_1.length c0_1,.slice A0_2 l0_2.length c0_2] 27 (0,0)) (bm BK184.out) hb);have n5_:=Aside0.mk (below_step (h1 HB.out GE184.out) hb);clear HO_7;clear HO_8;clear BK184;clear HB;have HO_7:=n0_;have HO_8:=n1_;have HO194:=n2_;have HO197:=n3_;have BK184:=n4_;have HB:=n5_;clear n0_ n1_ n2_ n3_ n4_ n5_;(try clear hb);(try clear hb2);(try clear hk);(try clear hi);(try clear ho0);(try clear ho1)))
  go_loopg [7,12] kj2 (fun kq v7 v12 w'=>∃ (x7_2 : List Int) (x12_2 : Int),v12 = .int .i64 x12_2 ∧ Aside0 (spec_BeadsAt.l0 kq a1 x7_2 y188 t192 x12_2 a0_0 l0_1 l0_2 = some (r1,r2,r3)) ∧ Aside0 (kq ≤ kj2) ∧ Aside0 (Kd.R (Kd.int .i64) 3 w' w.heap.size (fun k_=>some k_ ≠ (v189 : Value).ownBlock ∧ some k_ ≠ (v193 : Value).ownBlock) v7 x7_2) ∧ Aside0 (Kd.R (Kd.int .i64) 3 w' w.heap.size (fun k_=>some k_ ≠ (v7 : Value).ownBlock ∧ some k_ ≠ (v193 : Value).ownBlock) v189 y188) ∧ Aside0 (Kd.R (Kd.int .i64) 3 w' w.heap.size (fun k_=>some k_ ≠ (v7 : Value).ownBlock ∧ some k_ ≠ (v189 : Value).ownBlock) v193 t192) ∧ Aside0 (w'.heap[gb184]? = some (.cells #[.int .i64 a0_0,(.slice A0_1 l0_1.length c0_1),(.slice A0_2 l0_2.length c0_2)] 27 (0,0))) ∧ Aside0 (Below w.heap.size w w'))
  case atStart=>exact ⟨(y185),(0),(by first|rfl|(simp;done)|(simp [*];done)),H',⟨Nat.le_refl _⟩,⟨rm (R_mono HO_7.out (fun _ hk=>⟨hk.1.1,hk.1.2⟩))⟩,⟨rm (R_mono HO_8.out (fun _ hk=>⟨hk.1.1,hk.1.2⟩))⟩,⟨rm (R_mono HO194.out (fun _ hk=>⟨hk.1.2,hk.2⟩))⟩,⟨bm BK184.out⟩,⟨h1 HB.out GE184.out⟩⟩
  clear H'
  try clear c1
  try clear c2
  try clear p2
  try clear c3
  try clear c4
  try clear c10
  try clear c15
  try clear hcz11_0
  try clear hcz11_1
  try clear hcz11_2
  try clear hcz13_0
  try clear hcz13_1
  try clear hcz13_2
  try clear hcz17_0
  try clear hcz17_1
  try clear hcz17_2
  try clear hfz11_0
  try clear hfz11_1
  try clear hfz11_2
  try clear hfz13_0
  try clear hfz13_1
  try clear hfz13_2
  try clear hfz17_0
  try clear hfz17_1
  try clear hfz17_2
  try clear p2
  obtain ⟨x7_2,x12_2,rfl,HA,HK2,HO_7,HO_8,HO_9,BK184,HB⟩:=hrel
  cases gk with
  | zero=>exact absurd HA.out (by simp [spec_BeadsAt.l0])
  | succ k2 =>
   have H:=HA.out
   clear HA
   simp only [spec_BeadsAt.l0] at H
   by_cases c19 : x12_2 < (t192.length : Int)
   ·rw [if_pos c19] at H
    have c19b0 : decide (x12_2 < (t192.length : Int)) = true:=decide_eq_true c19
    clear c19
    by_cases c20 : 0 ≤ x12_2
    rotate_left
    ·rw [if_neg c20] at H
     exact absurd H (by simp)
    rw [if_pos c20] at H
    have c20b0 : decide (0 ≤ x12_2) = true:=decide_eq_true c20
    clear c20
    by_cases c21 : (rd t192 x12_2) ≥ a1
    rotate_left
    ·rw [if_neg c21] at H
     have c21b0 : decide (a1 ≤ (rd t192 x12_2)) = false:=decide_eq_false c21
     clear c21
     have H':=Aside0.mk H
     clear H
     obtain ⟨Ao28,co28,eo28⟩:=R_slice HO_9.out
     subst eo28
     have p199 : 0 ≤ (x12_2 : Int):=od
     have q199 : x12_2 < (t192.length : Int):=od
     obtain ⟨ad199,e199,hx199_0⟩:=Kd.at_int (R_reads' HO_9.out).2.2 x12_2 p199 q199
     cases e199
     replace p199:=eq_true p199
     replace q199:=eq_true q199
     go_wp2
     go_roundg k2
     case measure=>have:=HJ2.out;have:=HK2.out;omega
     case rel=>exact ⟨(x7_2),(wrap64 (x12_2 + 1)),(by first|rfl|(simp;done)|(simp [*];done)),H',⟨by have:=HJ2.out;have:=HK2.out;omega⟩,⟨rm HO_7.out⟩,⟨rm HO_8.out⟩,⟨rm HO_9.out⟩,⟨bm BK184.out⟩,⟨h1 HB.out GE184.out⟩⟩
    rw [if_pos c21] at H
    have c21b0 : decide (a1 ≤ (rd t192 x12_2)) = true:=decide_eq_true c21
    clear c21
    obtain ⟨y200,hy200⟩ : ∃ y_ : List Int,y_ = (([x12_2] : List Int)):=⟨_,rfl⟩
    replace H : (if x7_2.length + y200.length < 17592186044416 then (spec_BeadsAt.l0 k2 a1 (x7_2 ++ y200) y188 t192 (wrap64 (x12_2 + 1)) a0_0 l0_1 l0_2) else (none)) = some (r1,r2,r3):=by first|(rw [hy200];with_reducible exact H)|(have H2_:=(Option.bind_some _ _).symm.trans H;rw [hy200];with_reducible exact H2_)|(have H2_:=(Option.bind_some _ _).symm.trans H;with_reducible exact H2_)|with_reducible exact H|(rw [hy200];exact H)|exact H
    have Ny200:=Aside0.mk hy200
    clear hy200
    by_cases c22 : x7_2.length + y200.length < 17592186044416
    rotate_left
    ·rw [if_neg c22] at H
     exact absurd H (by simp)
    rw [if_pos c22] at H
    have LMc22:=Aside0.mk c22
    clear c22
    obtain ⟨y203,hy203⟩ : ∃ y_ : List Int,y_ = (x7_2 ++ y200):=⟨_,rfl⟩
    replace H : (spec_BeadsAt.l0 k2 a1 y203 y188 t192 (wrap64 (x12_2 + 1)) a0_0 l0_1 l0_2) = some (r1,r2,r3):=by first|(rw [hy203];with_reducible exact H)|(have H2_:=(Option.bind_some _ _).symm.trans H;rw [hy203];with_reducible exact H2_)|(have H2_:=(Option.bind_some _ _).symm.trans H;with_reducible exact H2_)|with_reducible exact H|(rw [hy203];exact H)|exact H
    have Ny203:=Aside0.mk hy203
    clear hy203
    have H':=Aside0.mk H
    clear H
    obtain ⟨Ao23,co23,eo23⟩:=R_slice HO_9.out
    subst eo23
    have p199 : 0 ≤ (x12_2 : Int):=od
    have q199 : x12_2 < (t192.length : Int):=od
    obtain ⟨ad199,e199,hx199_0⟩:=Kd.at_int (R_reads' HO_9.out).2.2 x12_2 p199 q199
    cases e199
    replace p199:=eq_true p199
    replace q199:=eq_true q199
    go_wp2_with (first|((with_reducible refine gate_dst (N:=48) rfl ?_);refine R_lit (Kd.int .i64) _ 3 ?hg (N:=48) ?hd (xs:=([x12_2] : List Int)) (inner:=[.int .i64 x12_2]) (ok:=fun _=>True) (okp:=fun _=>True) ?hr ?hp (fun _ hk=>hk) trivial (Below.refl _ _) (Nat.le_refl _) (by simp) ?_;(case hd=>rfl);(case hg=>rfl);(case hr=>first|(go_simp;done)|(go_simp;rfl));(case hp=>exact (Reps.one (show Kd.M (Kd.int .i64) _ _ _ x12_2 [.int .i64 x12_2] from rfl) (Reps.none _ _)));intro v201 w24 ho25 hb hg_ hnew_;clear hg_ hnew_;(first|rw [← Ny200.out] at ho25|(simp only [Int.reduceToNat] at ho25;rw [← Ny200.out] at ho25));have n0_:=Aside0.mk (R_elder' (rm HO_7.out) (R_base ho25) hb);have n1_:=Aside0.mk (R_elder' (rm HO_8.out) (R_base ho25) hb);have n2_:=Aside0.mk (R_elder' (rm HO_9.out) (R_base ho25) hb);have n3_:=Aside0.mk (R_lower (R_new' (R_new' (R_new' ho25 (R_lt (rm HO_7.out))) (R_lt (rm HO_8.out))) (R_lt (rm HO_9.out))) (below_size (h1 HB.out GE184.out)));have n4_:=Aside0.mk (blk_below (g:=gb184) (o:=.cells #[.int .i64 a0_0,.slice A0_1 l0_1.length c0_1,.slice A0_2 l0_2.length c0_2] 27 (0,0)) (bm BK184.out) hb);have n5_:=Aside0.mk (below_step (h1 HB.out GE184.out) hb);clear HO_7;clear HO_8;clear HO_9;clear BK184;clear HB;have HO_7:=n0_;have HO_8:=n1_;have HO_9:=n2_;have HO202:=n3_;have BK184:=n4_;have HB:=n5_;clear n0_ n1_ n2_ n3_ n4_ n5_;clear hb ho25;obtain ⟨Ao27,co27,eo27⟩:=R_slice HO202.out;subst eo27)|((with_reducible refine gate_builtin (b:=.append) (xs:=#[.tmp 46,.tmp 48]) rfl ?_);at_builtin;refine R_append_rows (Kd.int .i64) (w0:=w) w.heap.size rfl (.tmp 46) (.tmp 48) 22 3 (.int .i64 0) 8 rfl Try.underlying22 info3 rfl (by decide) (by omega) u7 x7_2 y200 _ _ _ (fun k_=>some k_ ≠ (v189 : Value).ownBlock ∧ some k_ ≠ (.slice (some ad199) t192.length co23 : Value).ownBlock ∧ some k_ ≠ (.slice Ao27 y200.length co27 : Value).ownBlock) (fun _=>False) rfl rfl ?aO ?aR (fun _ _ h=>h) (fun _ h=>h.elim) ?aF ?aB ?aS ?aL ?_;(case aR=>exact cm (R_reads' HO202.out).2.2);(case aB=>exact (h1 HB.out GE184.out));(case aF=>exact (fun k_ hk=>⟨Kd.fresh' (R_lt (rm HO_8.out)) k_ hk,Kd.fresh' (R_lt (rm HO_9.out)) k_ hk,Kd.fresh' (R_lt (rm HO202.out)) k_ hk⟩));(case aO=>exact (rm (R_mono HO_7.out (fun _ hk=>⟨hk.1.1,⟨hk.1.2,hk.2⟩⟩))));(case aS=>exact (below_size (h1 HB.out GE184.out)));(case aL=>have:=LMc22.out;omega);intro v204 w26 ho hb hg hat;rw [← Ny203.out] at ho;have n0_:=Aside0.mk (R_after (ok:=(fun k_=>some k_ ≠ (.slice (some ad199) t192.length co23 : Value).ownBlock ∧ some k_ ≠ (.slice Ao27 y200.length co27 : Value).ownBlock)) (rm (R_mono HO_8.out (fun _ hk=>⟨⟨hk.1.2,hk.2⟩,hk.1.1⟩))) hg hat);have n1_:=Aside0.mk (R_after (ok:=(fun k_=>some k_ ≠ (v189 : Value).ownBlock ∧ some k_ ≠ (.slice Ao27 y200.length co27 : Value).ownBlock)) (rm (R_mono HO_9.out (fun _ hk=>⟨⟨hk.1.2,hk.2⟩,hk.1.1⟩))) hg hat);have n2_:=Aside0.mk (blk_grown (g:=gb184) (o:=.cells #[.int .i64 a0_0,.slice A0_1 l0_1.length c0_1,.slice A0_2 l0_2.length c0_2] 27 (0,0)) (bm BK184.out) hg (R_ne HO_7.out BK184.out (by decide)));have n3_:=Aside0.mk (R_after (ok:=(fun k_=>some k_ ≠ (v189 : Value).ownBlock ∧ some k_ ≠ (.slice (some ad199) t192.length co23 : Value).ownBlock)) (rm (R_mono HO202.out (fun _ hk=>⟨⟨hk.1.2,hk.2⟩,hk.1.1.2⟩))) hg hat);have n4_:=Aside0.mk (hb);have n5_:=Aside0.mk (ho);clear HO_8;clear HO_9;clear BK184;clear HO202;clear HB;clear HO_7;have HO_8:=n0_;have HO_9:=n1_;have BK184:=n2_;have HO202:=n3_;have HB:=n4_;have HO205:=n5_;clear n0_ n1_ n2_ n3_ n4_ n5_;clear ho hb hg hat))
    go_roundg k2
    case measure=>have:=HJ2.out;have:=HK2.out;omega
    case rel=>exact ⟨(y203),(wrap64 (x12_2 + 1)),(by first|rfl|(simp;done)|(simp [*];done)),H',⟨by have:=HJ2.out;have:=HK2.out;omega⟩,⟨rm (R_mono HO205.out (fun _ hk=>⟨hk.1,hk.2.1⟩))⟩,⟨rm (R_mono HO_8.out (fun _ hk=>⟨hk.2,hk.1.1⟩))⟩,⟨rm (R_mono HO_9.out (fun _ hk=>⟨hk.2,hk.1.1⟩))⟩,⟨bm BK184.out⟩,⟨h1 HB.out GE184.out⟩⟩
   rw [if_neg c19] at H
   have c19b0 : decide (x12_2 < (t192.length : Int)) = false:=decide_eq_false c19
   clear c19
   replace H:=Option.bind_eq_some_iff.mp H
   obtain ⟨t206,A290,H⟩:=H
   replace H : (spec_BeadsAt.l1 k2 a1 x7_2 y188 t206 0 a0_0 l0_1 l0_2) = some (r1,r2,r3):=H
   have A29:=Aside0.mk A290
   clear A290
   have H':=Aside0.mk H
   clear H
   obtain ⟨Ao30,co30,eo30⟩:=R_slice HO_9.out
   subst eo30
   have hcz31_0 : wr.cell? ⟨gb184,0,none⟩ = some (.int .i64 a0_0):=(blk_cell BK184.out 0).trans rfl
   have hcz31_1 : wr.cell? ⟨gb184,1,none⟩ = some (.slice A0_1 l0_1.length c0_1):=(blk_cell BK184.out 1).trans rfl
   have hcz31_2 : wr.cell? ⟨gb184,2,none⟩ = some (.slice A0_2 l0_2.length c0_2):=(blk_cell BK184.out 2).trans rfl
   have hfz31_0:=blk_frozen BK184.out 0
   have hfz31_1:=blk_frozen BK184.out 1
   have hfz31_2:=blk_frozen BK184.out 2
   go_wp2_with (first|((with_reducible refine gate_callee (f:=44) rfl ?_);refine goesL_ (some 51) rfl rfl Try.func44 (by kernel_rfl) rfl #[.agg #[.int .i64 a0_0,.slice A0_1 l0_1.length c0_1,.slice A0_2 l0_2.length c0_2]] rfl (by (try simp only [List.map_toArray,List.map_cons,List.map_nil]);first|done|rfl|(simp only [List.length_drop,List.length_take];rfl)) ?_;(with_reducible refine (spec_l8Shades.calls k2 a0_0 _ _ l0_1 _ _ l0_2 t206 _ ?side1 ?side2 ?side3 ?side4 A29.out).mono ?_);(case side1=>exact cm (C_below HR0_1.out HB.out));(case side2=>exact HC0_1.out);(case side3=>exact cm (C_below HR0_2.out HB.out));(case side4=>exact HC0_2.out);rintro e w32 ⟨v207,rfl,ho0,hb⟩;refine ⟨_,rfl,?_⟩;have n0_:=Aside0.mk (R_elder' (rm HO_7.out) (R_base ho0) hb);have n1_:=Aside0.mk (R_elder' (rm HO_8.out) (R_base ho0) hb);have n2_:=Aside0.mk (R_elder' (rm HO_9.out) (R_base ho0) hb);have n3_:=Aside0.mk (R_lower (R_new' (R_new' (R_new' ho0 (R_lt (rm HO_7.out))) (R_lt (rm HO_8.out))) (R_lt (rm HO_9.out))) (below_size (h1 HB.out GE184.out)));have n4_:=Aside0.mk (blk_below (g:=gb184) (o:=.cells #[.int .i64 a0_0,.slice A0_1 l0_1.length c0_1,.slice A0_2 l0_2.length c0_2] 27 (0,0)) (bm BK184.out) hb);have n5_:=Aside0.mk (below_step (h1 HB.out GE184.out) hb);clear HO_7;clear HO_8;clear HO_9;clear BK184;clear HB;have HO_7:=n0_;have HO_8:=n1_;have HO_9:=n2_;have HO208:=n3_;have BK184:=n4_;have HB:=n5_;clear n0_ n1_ n2_ n3_ n4_ n5_;(try clear hb);(try clear hb2);(try clear hk);(try clear hi);(try clear ho0)))
   go_loopg [8,14] k2 (fun kq v8 v14 w'=>∃ (x8_3 : List Int) (x14_3 : Int),v14 = .int .i64 x14_3 ∧ Aside0 (spec_BeadsAt.l1 kq a1 x7_2 x8_3 t206 x14_3 a0_0 l0_1 l0_2 = some (r1,r2,r3)) ∧ Aside0 (kq ≤ k2) ∧ Aside0 (Kd.R (Kd.int .i64) 3 w' w.heap.size (fun k_=>some k_ ≠ (v8 : Value).ownBlock ∧ some k_ ≠ (v207 : Value).ownBlock) u7 x7_2) ∧ Aside0 (Kd.R (Kd.int .i64) 3 w' w.heap.size (fun k_=>some k_ ≠ (u7 : Value).ownBlock ∧ some k_ ≠ (v207 : Value).ownBlock) v8 x8_3) ∧ Aside0 (Kd.R (Kd.int .i64) 3 w' w.heap.size (fun k_=>some k_ ≠ (u7 : Value).ownBlock ∧ some k_ ≠ (v8 : Value).ownBlock) v207 t206) ∧ Aside0 (w'.heap[gb184]? = some (.cells #[.int .i64 a0_0,(.slice A0_1 l0_1.length c0_1),(.slice A0_2 l0_2.length c0_2)] 27 (0,0))) ∧ Aside0 (Below w.heap.size w w'))
   case atStart=>exact ⟨(y188),(0),(by first|rfl|(simp;done)|(simp [*];done)),H',⟨Nat.le_refl _⟩,⟨rm (R_mono HO_7.out (fun _ hk=>⟨hk.1.1,hk.2⟩))⟩,⟨rm (R_mono HO_8.out (fun _ hk=>⟨hk.1.1,hk.2⟩))⟩,⟨rm (R_mono HO208.out (fun _ hk=>⟨hk.1.1.2,hk.1.2⟩))⟩,⟨bm BK184.out⟩,⟨h1 HB.out GE184.out⟩⟩
   clear H'
   try clear c1
   try clear p1
   try clear q1
   try clear hx1
   try clear c2
   try clear p2
   try clear c3
   try clear c4
   try clear p6
   try clear c10
   try clear c15
   try clear c19
   try clear c19b0
   try clear p19
   try clear q19
   try clear hx19
   try clear c20
   try clear c20b0
   try clear c21
   try clear c21b0
   try clear c22
   try clear c29
   try clear c31
   try clear hcz11_0
   try clear hcz11_1
   try clear hcz11_2
   try clear hcz13_0
   try clear hcz13_1
   try clear hcz13_2
   try clear hcz17_0
   try clear hcz17_1
   try clear hcz17_2
   try clear hcz31_0
   try clear hcz31_1
   try clear hcz31_2
   try clear hfz11_0
   try clear hfz11_1
   try clear hfz11_2
   try clear hfz13_0
   try clear hfz13_1
   try clear hfz13_2
   try clear hfz17_0
   try clear hfz17_1
   try clear hfz17_2
   try clear hfz31_0
   try clear hfz31_1
   try clear hfz31_2
   try clear hx199_0
   try clear p199
   try clear p2
   try clear q199
   obtain ⟨x8_3,x14_3,rfl,HA,HK3,HO_7,HO_8,HO_13,BK184,HB⟩:=hrel
   cases gk with
   | zero=>exact absurd HA.out (by simp [spec_BeadsAt.l1])
   | succ k3 =>
    have H:=HA.out
    clear HA
    simp only [spec_BeadsAt.l1] at H
    by_cases c33 : x14_3 < (t206.length : Int)
    rotate_left
    ·rw [if_neg c33] at H
     have c33b0 : decide (x14_3 < (t206.length : Int)) = false:=decide_eq_false c33
     clear c33
     simp only [Option.some.injEq,Prod.mk.injEq] at H
     obtain ⟨rfl,rfl,rfl⟩:=H
     obtain ⟨Ao81,co81,eo81⟩:=R_slice HO_13.out
     subst eo81
     go_wp2
     go_ret3
     exact ⟨_,_,by first|rfl|(simp [errW_none,errW_some] <;> rfl)|(simp [*,errW_none,errW_some] <;> rfl),rm (R_mono HO_7.out (fun _ hk=>hk.1)),rm (R_mono HO_8.out (fun _ hk=>hk.1)),h1 HB.out GE184.out⟩
    rw [if_pos c33] at H
    have c33b0 : decide (x14_3 < (t206.length : Int)) = true:=decide_eq_true c33
    clear c33
    by_cases c34 : 0 ≤ x14_3
    rotate_left
    ·rw [if_neg c34] at H
     exact absurd H (by simp)
    rw [if_pos c34] at H
    have c34b0 : decide (0 ≤ x14_3) = true:=decide_eq_true c34
    clear c34
    by_cases c35 : (rd t206 x14_3) < a1
    ·rw [if_pos c35] at H
     have c35b0 : decide ((rd t206 x14_3) < a1) = true:=decide_eq_true c35
     clear c35
     have H':=Aside0.mk H
     clear H
     obtain ⟨Ao36,co36,eo36⟩:=R_slice HO_13.out
     subst eo36
     have p209 : 0 ≤ (x14_3 : Int):=od
     have q209 : x14_3 < (t206.length : Int):=od
     obtain ⟨ad209,e209,hx209_0⟩:=Kd.at_int (R_reads' HO_13.out).2.2 x14_3 p209 q209
     cases e209
     replace p209:=eq_true p209
     replace q209:=eq_true q209
     go_wp2
     go_roundg k3
     case measure=>have:=HJ2.out;have:=HK2.out;have:=HK3.out;omega
     case rel=>exact ⟨(x8_3),(wrap64 (x14_3 + 1)),(by first|rfl|(simp;done)|(simp [*];done)),H',⟨by have:=HJ2.out;have:=HK2.out;have:=HK3.out;omega⟩,⟨rm HO_7.out⟩,⟨rm HO_8.out⟩,⟨rm HO_13.out⟩,⟨bm BK184.out⟩,⟨h1 HB.out GE184.out⟩⟩
    rw [if_neg c35] at H
    have c35b0 : decide ((rd t206 x14_3) < a1) = false:=decide_eq_false c35
    clear c35
    by_cases c37 : x14_3 < (l0_1.length : Int)
    rotate_left
    ·rw [if_neg c37] at H
     exact absurd H (by simp)
    rw [if_pos c37] at H
    have c37b0 : decide (x14_3 < (l0_1.length : Int)) = true:=decide_eq_true c37
    clear c37
    by_cases c38 : x14_3 < (l0_2.length : Int)
    rotate_left
    ·rw [if_neg c38] at H
     exact absurd H (by simp)
    rw [if_pos c38] at H
    have c38b0 : decide (x14_3 < (l0_2.length : Int)) = true:=decide_eq_true c38
    clear c38
    have H':=Aside0.mk H
    clear H
    obtain ⟨Ao39,co39,eo39⟩:=R_slice HO_13.out
    subst eo39
    have p209 : 0 ≤ (x14_3 : Int):=od
    have q209 : x14_3 < (t206.length : Int):=od
    obtain ⟨ad209,e209,hx209_0⟩:=Kd.at_int (R_reads' HO_13.out).2.2 x14_3 p209 q209
    cases e209
    replace p209:=eq_true p209
    replace q209:=eq_true q209
    try go_wp2
    have n0_:=Aside0.mk (R_drew HO_7.out)
    have n1_:=Aside0.mk (R_drew HO_8.out)
    have n2_:=Aside0.mk (R_drew HO_13.out)
    have n3_:=Aside0.mk (blk_drew BK184.out)
    have n4_:=Aside0.mk (below_drew1 HB.out)
    clear HO_7
    clear HO_8
    clear HO_13
    clear BK184
    clear HB
    have HO_7:=n0_
    have HO_8:=n1_
    have HO_13:=n2_
    have BK184:=n3_
    have HB:=n4_
    clear n0_ n1_ n2_ n3_ n4_
    have p210 : 0 ≤ (x14_3 : Int):=od
    have q210 : x14_3 < (l0_1.length : Int):=od
    obtain ⟨ad210,e210,hx210_0⟩:=Kd.at_int HR0_1.out x14_3 p210 q210
    have hw210_0:=hx210_0
    cases e210
    replace hx210_0:=(HB.out.cell (World.block_lt_of_cell? w _ hx210_0)).trans hx210_0
    replace p210:=eq_true p210
    replace q210:=eq_true q210
    have p211 : 0 ≤ (x14_3 : Int):=od
    have q211 : x14_3 < (l0_2.length : Int):=od
    obtain ⟨ad211,e211,hx211_0⟩:=Kd.at_int HR0_2.out x14_3 p211 q211
    have hw211_0:=hx211_0
    cases e211
    replace hx211_0:=(HB.out.cell (World.block_lt_of_cell? w _ hx211_0)).trans hx211_0
    replace p211:=eq_true p211
    replace q211:=eq_true q211
    refine start_ (n:=15) (S:=fun w'=>w'.cell? ⟨gb184,0,none⟩ = some (.int .i64 a0_0) ∧ w'.cell? ⟨gb184,1,none⟩ = some (.slice (some ad210) l0_1.length c0_1) ∧ w'.cell? ⟨gb184,2,none⟩ = some (.slice (some ad211) l0_2.length c0_2) ∧ w'.cell? (ad210.add (x14_3).toNat) = some (.int .i64 (rd l0_1 x14_3)) ∧ w'.cell? (ad211.add (x14_3).toNat) = some (.int .i64 (rd l0_2 x14_3))) (ds:=[]) (lb 15 0) (by kernel_rfl) rfl rfl ⟨(blk_cell BK184.out 0).trans rfl,(blk_cell BK184.out 1).trans rfl,(blk_cell BK184.out 2).trans rfl,((HB.out.cell (World.block_lt_of_cell? w _ hw210_0)).trans hw210_0),((HB.out.cell (World.block_lt_of_cell? w _ hw211_0)).trans hw211_0)⟩ (fun hHeld=>?_);refine with_tabW spec_BeadsAt.tab15 spec_BeadsAt.bits15 (fun HT_ HW_=>?_)
    generalize wr.drew = w40 at HO_7 HO_8 HO_13 BK184 HB hx210_0 hx211_0 hHeld ⊢
    refine pu 0 (N:=some 64) (v:=?_) (a':=?_) (lb 15 1) HT_ (by kernel_rfl) rfl rfl rfl (fun _ _ _ h=>h) ?_ ?_ ?_
    rotate_left
    ·intro w'
     go_simp
     with_reducible rfl
    rotate_left
    ·simp only [ap]
     rfl
    refine pu 2 (N:=some 66) (v:=?_) (a':=?_) (lb 15 5) HT_ (by kernel_rfl) rfl rfl rfl (fun _ _ _ h=>h) ?_ ?_ ?_
    rotate_left
    ·intro w'
     go_simp
     with_reducible rfl
    rotate_left
    ·simp only [ap]
     rfl
    refine pu 5 (N:=some 69) (v:=?_) (a':=?_) (lb 15 37) HT_ (by kernel_rfl) rfl rfl rfl (fun _ _ _ h=>h) ?_ ?_ ?_
    rotate_left
    ·intro w'
     go_simp
     with_reducible rfl
    rotate_left
    ·simp only [ap]
     rfl
    refine pu 7 (N:=some 71) (v:=?_) (a':=?_) (lb 15 165) HT_ (by kernel_rfl) rfl rfl rfl (fun _ _ _ h=>h) ?_ ?_ ?_
    rotate_left
    ·intro w'
     go_simp
     with_reducible rfl
    rotate_left
    ·simp only [ap]
     rfl
    refine pu 10 (N:=some 74) (v:=?_) (a':=?_) (lb 15 1189) HT_ (by kernel_rfl) rfl rfl rfl (fun _ _ _ h=>h) ?_ ?_ ?_
    rotate_left
    ·intro w'
     go_simp
     with_reducible rfl
    rotate_left
    ·simp only [ap]
     rfl
    refine take_ (i:=1) (N:=some 65) (v:=?_) (a':=?_) (lb 15 1191) rfl rfl (take_ofW HT_.out HW_.out (by kernel_rfl)) (fun _ _ _ h=>h) (Or.inl ⟨by rfl,?_⟩) hHeld ?_ ?_
    rotate_left
    ·rintro w' ⟨s0,s1,s2,s3,s4⟩
     go_simp
     with_reducible rfl
    rotate_left
    ·simp only [ap]
     rfl
    refine pu 3 (N:=some 67) (v:=?_) (a':=?_) (lb 15 1199) HT_ (by kernel_rfl) rfl rfl rfl (fun _ _ _ h=>h) ?_ ?_ ?_
    rotate_left
    ·intro w'
     go_simp
     with_reducible rfl
    rotate_left
    ·simp only [ap]
     rfl
    refine take_ (i:=4) (N:=some 68) (v:=?_) (a':=?_) (lb 15 1215) rfl rfl (take_ofW HT_.out HW_.out (by kernel_rfl)) (fun _ _ _ h=>h) (Or.inl ⟨by rfl,?_⟩) hHeld ?_ ?_
    rotate_left
    ·rintro w' ⟨s0,s1,s2,s3,s4⟩
     go_simp
     with_reducible rfl
    rotate_left
    ·simp only [ap]
     rfl
    refine take_ (i:=6) (N:=some 70) (v:=?_) (a':=?_) (lb 15 1279) rfl rfl (take_ofW HT_.out HW_.out (by kernel_rfl)) (fun _ _ _ h=>h) (Or.inl ⟨by rfl,?_⟩) hHeld ?_ ?_
    rotate_left
    ·rintro w' ⟨s0,s1,s2,s3,s4⟩
     go_simp
     with_reducible rfl
    rotate_left
    ·simp only [ap]
     rfl
    refine pu 8 (N:=some 72) (v:=?_) (a':=?_) (lb 15 1535) HT_ (by kernel_rfl) rfl rfl rfl (fun _ _ _ h=>h) ?_ ?_ ?_
    rotate_left
    ·intro w'
     go_simp
     with_reducible rfl
    rotate_left
    ·simp only [ap]
     rfl
    refine take_ (i:=9) (N:=some 73) (v:=?_) (a':=?_) (lb 15 2047) rfl rfl (take_ofW HT_.out HW_.out (by kernel_rfl)) (fun _ _ _ h=>h) (Or.inl ⟨by rfl,?_⟩) hHeld ?_ ?_
    rotate_left
    ·rintro w' ⟨s0,s1,s2,s3,s4⟩
     go_simp
     with_reducible rfl
    rotate_left
    ·simp only [ap]
     rfl
    refine pu 11 (N:=some 75) (v:=?_) (a':=?_) (lb 15 4095) HT_ (by kernel_rfl) rfl rfl rfl (fun _ _ _ h=>h) ?_ ?_ ?_
    rotate_left
    ·intro w'
     go_simp
     with_reducible rfl
    rotate_left
    ·simp only [ap]
     rfl
    refine pu 12 (N:=some 76) (v:=?_) (a':=?_) (lb 15 8191) HT_ (by kernel_rfl) rfl rfl rfl (fun _ _ _ h=>h) ?_ ?_ ?_
    rotate_left
    ·intro w'
     go_simp
     with_reducible rfl
    rotate_left
    ·simp only [ap]
     rfl
    refine pu 13 (N:=some 15) (v:=?_) (a':=?_) (lb 15 16383) HT_ (by kernel_rfl) rfl rfl rfl (fun _ _ _ h=>h) ?_ ?_ ?_
    rotate_left
    ·intro w'
     go_simp
     with_reducible rfl
    rotate_left
    ·simp only [ap]
     rfl
    refine pu 14 (N:=some 16) (v:=?_) (a':=?_) (lb 15 32767) HT_ (by kernel_rfl) rfl rfl rfl (fun _ _ _ h=>h) ?_ ?_ ?_
    rotate_left
    ·intro w'
     go_simp
     with_reducible rfl
    rotate_left
    ·simp only [ap]
     rfl
    refine done_ (done_of HT_.out (by kernel_rfl)) ?_
    try go_wp2
    go_loopg [16] k3 (fun kq v16 w'=>∃ (x16_4 : Int),v16 = .int .i64 x16_4 ∧ Aside0 (spec_BeadsAt.l2 kq a1 x7_2 x8_3 t206 x14_3 (wrap64 ((rd l0_1 x14_3) + (wrap64 ((rd l0_2 x14_3) * a1)))) x16_4 a0_0 l0_1 l0_2 = some (r1,r2,r3)) ∧ Aside0 (kq ≤ k3) ∧ Aside0 (Kd.R (Kd.int .i64) 3 w' w.heap.size (fun k_=>some k_ ≠ (u8 : Value).ownBlock ∧ some k_ ≠ ((.slice (some ad209) t206.length co39) : Value).ownBlock) u7 x7_2) ∧ Aside0 (Kd.R (Kd.int .i64) 3 w' w.heap.size (fun k_=>some k_ ≠ (u7 : Value).ownBlock ∧ some k_ ≠ ((.slice (some ad209) t206.length co39) : Value).ownBlock) u8 x8_3) ∧ Aside0 (Kd.R (Kd.int .i64) 3 w' w.heap.size (fun k_=>some k_ ≠ (u7 : Value).ownBlock ∧ some k_ ≠ (u8 : Value).ownBlock) (.slice (some ad209) t206.length co39) t206) ∧ Aside0 (w'.heap[gb184]? = some (.cells #[.int .i64 a0_0,(.slice (some ad210) l0_1.length c0_1),(.slice (some ad211) l0_2.length c0_2)] 27 (0,0))) ∧ Aside0 (Below w.heap.size w w'))
    case atStart=>exact ⟨(0),(by first|rfl|(simp;done)|(simp [*];done)),H',⟨Nat.le_refl _⟩,⟨rm HO_7.out⟩,⟨rm HO_8.out⟩,⟨rm HO_13.out⟩,⟨bm BK184.out⟩,⟨h1 HB.out GE184.out⟩⟩
    clear H'
    try clear c1
    try clear p1
    try clear q1
    try clear hx1
    try clear c2
    try clear p2
    try clear q2
    try clear hx2
    try clear c3
    try clear c4
    try clear p6
    try clear c10
    try clear c15
    try clear c19
    try clear c19b0
    try clear p19
    try clear q19
    try clear hx19
    try clear c20
    try clear c20b0
    try clear p20
    try clear q20
    try clear hx20
    try clear c21
    try clear c21b0
    try clear p21
    try clear q21
    try clear hx21
    try clear c22
    try clear c29
    try clear c31
    try clear c33
    try clear c33b0
    try clear c34
    try clear c34b0
    try clear c35
    try clear c35b0
    try clear c37
    try clear c37b0
    try clear c38
    try clear c38b0
    try clear c40
    try clear hcz11_0
    try clear hcz11_1
    try clear hcz11_2
    try clear hcz13_0
    try clear hcz13_1
    try clear hcz13_2
    try clear hcz17_0
    try clear hcz17_1
    try clear hcz17_2
    try clear hcz31_0
    try clear hcz31_1
    try clear hcz31_2
    try clear hfz11_0
    try clear hfz11_1
    try clear hfz11_2
    try clear hfz13_0
    try clear hfz13_1
    try clear hfz13_2
    try clear hfz17_0
    try clear hfz17_1
    try clear hfz17_2
    try clear hfz31_0
    try clear hfz31_1
    try clear hfz31_2
    try clear hx199_0
    try clear hx209_0
    try clear hx210_0
    try clear hx211_0
    try clear p1
    try clear p19
    try clear p199
    try clear p2
    try clear p209
    try clear p210
    try clear p211
    try clear p6
    try clear q1
    try clear q19
    try clear q199
    try clear q209
    try clear q210
    try clear q211
    obtain ⟨x16_4,rfl,HA,HK4,HO_7,HO_8,HO_13,BK184,HB⟩:=hrel
    cases gk with
    | zero=>exact absurd HA.out (by simp [spec_BeadsAt.l2])
    | succ k4 =>
     have H:=HA.out
     clear HA
     simp only [spec_BeadsAt.l2] at H
     by_cases c41 : x16_4 < (x8_3.length : Int)
     rotate_left
     ·rw [if_neg c41] at H
      have c41b0 : decide (x16_4 < (x8_3.length : Int)) = false:=decide_eq_false c41
      clear c41
      by_cases c63 : 0 ≤ x16_4
      rotate_left
      ·rw [if_neg c63] at H
       exact absurd H (by simp)
      rw [if_pos c63] at H
      have c63b0:=eq_true c63
      have c63b1 : decide (0 ≤ x16_4) = true:=decide_eq_true c63
      clear c63
      by_cases c64 : x16_4 ≤ (x8_3.length : Int)
      rotate_left
      ·rw [if_neg c64] at H
       exact absurd H (by simp)
      rw [if_pos c64] at H
      have c64b0:=eq_true c64
      have c64b1 : decide (x16_4 ≤ (x8_3.length : Int)) = true:=decide_eq_true c64
      clear c64
      obtain ⟨y233,hy233⟩ : ∃ y_ : List Int,y_ = (x8_3.take (x16_4 : Int).toNat):=⟨_,rfl⟩
      replace H : ((spec_l1Own.f y233).bind fun t237=>((some (([(wrap64 ((rd l0_1 x14_3) + (wrap64 ((rd l0_2 x14_3) * a1))))] : List Int) : List Int)).bind fun y240=>(if t237.length + y240.length < 17592186044416 then ((some (t237 ++ y240 : List Int)).bind fun y243=>((some (x8_3.drop (x16_4 : Int).toNat : List Int)).bind fun y246=>(if y243.length + y246.length < 17592186044416 then (spec_BeadsAt.l1 k4 a1 x7_2 (y243 ++ y246) t206 (wrap64 (x14_3 + 1)) a0_0 l0_1 l0_2) else (none)))) else (none)))) = some (r1,r2,r3):=by first|(rw [hy233];with_reducible exact H)|(have H2_:=(Option.bind_some _ _).symm.trans H;rw [hy233];with_reducible exact H2_)|(have H2_:=(Option.bind_some _ _).symm.trans H;with_reducible exact H2_)|with_reducible exact H|(rw [hy233];exact H)|exact H
      have Ny233:=Aside0.mk hy233
      clear hy233
      replace H:=Option.bind_eq_some_iff.mp H
      obtain ⟨t237,A650,H⟩:=H
      replace H : ((some (([(wrap64 ((rd l0_1 x14_3) + (wrap64 ((rd l0_2 x14_3) * a1))))] : List Int) : List Int)).bind fun y240=>(if t237.length + y240.length < 17592186044416 then ((some (t237 ++ y240 : List Int)).bind fun y243=>((some (x8_3.drop (x16_4 : Int).toNat : List Int)).bind fun y246=>(if y243.length + y246.length < 17592186044416 then (spec_BeadsAt.l1 k4 a1 x7_2 (y243 ++ y246) t206 (wrap64 (x14_3 + 1)) a0_0 l0_1 l0_2) else (none)))) else (none))) = some (r1,r2,r3):=H
      have A65:=Aside0.mk A650
      clear A650
      obtain ⟨y240,hy240⟩ : ∃ y_ : List Int,y_ = (([(wrap64 ((rd l0_1 x14_3) + (wrap64 ((rd l0_2 x14_3) * a1))))] : List Int)):=⟨_,rfl⟩
      replace H : (if t237.length + y240.length < 17592186044416 then ((some (t237 ++ y240 : List Int)).bind fun y243=>((some (x8_3.drop (x16_4 : Int).toNat : List Int)).bind fun y246=>(if y243.length + y246.length < 17592186044416 then (spec_BeadsAt.l1 k4 a1 x7_2 (y243 ++ y246) t206 (wrap64 (x14_3 + 1)) a0_0 l0_1 l0_2) else (none)))) else (none)) = some (r1,r2,r3):=by first|(rw [hy240];with_reducible exact H)|(have H2_:=(Option.bind_some _ _).symm.trans H;rw [hy240];with_reducible exact H2_)|(have H2_:=(Option.bind_some _ _).symm.trans H;with_reducible exact H2_)|with_reducible exact H|(rw [hy240];exact H)|exact H
      have Ny240:=Aside0.mk hy240
      clear hy240
      by_cases c66 : t237.length + y240.length < 17592186044416
      rotate_left
      ·rw [if_neg c66] at H
       exact absurd H (by simp)
      rw [if_pos c66] at H
      have LMc66:=Aside0.mk c66
      clear c66
      obtain ⟨y243,hy243⟩ : ∃ y_ : List Int,y_ = (t237 ++ y240):=⟨_,rfl⟩
      replace H : ((some (x8_3.drop (x16_4 : Int).toNat : List Int)).bind fun y246=>(if y243.length + y246.length < 17592186044416 then (spec_BeadsAt.l1 k4 a1 x7_2 (y243 ++ y246) t206 (wrap64 (x14_3 + 1)) a0_0 l0_1 l0_2) else (none))) = some (r1,r2,r3):=by first|(rw [hy243];with_reducible exact H)|(have H2_:=(Option.bind_some _ _).symm.trans H;rw [hy243];with_reducible exact H2_)|(have H2_:=(Option.bind_some _ _).symm.trans H;with_reducible exact H2_)|with_reducible exact H|(rw [hy243];exact H)|exact H
      have Ny243:=Aside0.mk hy243
      clear hy243
      have c67b0:=eq_true (od : 0 ≤ x16_4)
      have c68b0:=eq_true (od : x16_4 ≤ (x8_3.length : Int))
      obtain ⟨y246,hy246⟩ : ∃ y_ : List Int,y_ = (x8_3.drop (x16_4 : Int).toNat):=⟨_,rfl⟩
      replace H : (if y243.length + y246.length < 17592186044416 then (spec_BeadsAt.l1 k4 a1 x7_2 (y243 ++ y246) t206 (wrap64 (x14_3 + 1)) a0_0 l0_1 l0_2) else (none)) = some (r1,r2,r3):=by first|(rw [hy246];with_reducible exact H)|(have H2_:=(Option.bind_some _ _).symm.trans H;rw [hy246];with_reducible exact H2_)|(have H2_:=(Option.bind_some _ _).symm.trans H;with_reducible exact H2_)|with_reducible exact H|(rw [hy246];exact H)|exact H
      have Ny246:=Aside0.mk hy246
      clear hy246
      by_cases c69 : y243.length + y246.length < 17592186044416
      rotate_left
      ·rw [if_neg c69] at H
       exact absurd H (by simp)
      rw [if_pos c69] at H
      have LMc69:=Aside0.mk c69
      clear c69
      obtain ⟨y250,hy250⟩ : ∃ y_ : List Int,y_ = (y243 ++ y246):=⟨_,rfl⟩
      replace H : (spec_BeadsAt.l1 k4 a1 x7_2 y250 t206 (wrap64 (x14_3 + 1)) a0_0 l0_1 l0_2) = some (r1,r2,r3):=by first|(rw [hy250];with_reducible exact H)|(have H2_:=(Option.bind_some _ _).symm.trans H;rw [hy250];with_reducible exact H2_)|(have H2_:=(Option.bind_some _ _).symm.trans H;with_reducible exact H2_)|with_reducible exact H|(rw [hy250];exact H)|exact H
      have Ny250:=Aside0.mk hy250
      clear hy250
      have H':=Aside0.mk H
      clear H
      obtain ⟨Ao70,co70,eo70⟩:=R_slice HO_8.out
      subst eo70
      try go_wp2
      have n0_:=Aside0.mk (R_drew HO_7.out)
      have n1_:=Aside0.mk (R_drew HO_8.out)
      have n2_:=Aside0.mk (R_drew HO_13.out)
      have n3_:=Aside0.mk (blk_drew BK184.out)
      have n4_:=Aside0.mk (below_drew1 HB.out)
      clear HO_7
      clear HO_8
      clear HO_13
      clear BK184
      clear HB
      have HO_7:=n0_
      have HO_8:=n1_
      have HO_13:=n2_
      have BK184:=n3_
      have HB:=n4_
      clear n0_ n1_ n2_ n3_ n4_
      have q72 : (x16_4 : Int) ≤ ((x8_3.length : Int) : Int):=od
      obtain ⟨i072,hi072,_,hsz72,_⟩:=info_parts info3
      have hroom72 : x8_3.length ≤ co70:=(R_reads' HO_8.out).2.1
      have hC72 : Kd.C (Kd.int .i64) _ Ao70 x8_3.length x8_3:=(R_reads' HO_8.out).2.2
      have hcut72:=cut_to (P:=Try.prog) 22 3 .i64 Try.underlying22 hi072 Ao70 x8_3.length co70 x16_4 (od) q72 hroom72
      have hr72:=C_take (m:=(x16_4 : Int).toNat) hC72 (by omega)
      have hy72 : y233.length = (x16_4 : Int).toNat:=(by rw [Ny233.out,List.length_take];omega)
      rw [← Ny233.out] at hr72
      rw [← hy72] at hcut72
      have HR236:=Aside0.mk hr72
      have HC236:=Aside0.mk (show y233.length ≤ co70 from by omega)
      clear hr72 hC72 hroom72 hi072 hsz72
      have KY72:=Aside0.mk hy72
      clear hy72
      have KL72:=Aside0.mk (show (x16_4 : Int).toNat ≤ x8_3.length from by omega)
      replace q72:=eq_true q72
      have q73 : (x16_4 : Int) ≤ ((x8_3.length : Int) : Int):=od
      obtain ⟨i073,hi073,_,hsz73,_⟩:=info_parts info3
      have hroom73 : x8_3.length ≤ co70:=(R_reads' HO_8.out).2.1
      have hC73 : Kd.C (Kd.int .i64) _ Ao70 x8_3.length x8_3:=(R_reads' HO_8.out).2.2
      have q073 : (0 : Int) ≤ (x16_4 : Int):=od
      have hcut73:=cut_from (P:=Try.prog) 22 3 .i64 Try.underlying22 hi073 1 hsz73 Ao70 x8_3.length co70 x16_4 q073 q73
      have hr73:=C_drop (m:=(x16_4 : Int).toNat) (c:=co70) hC73 (by omega) hroom73
      obtain ⟨A73,hA73⟩ : ∃ A_,A_ = (if co70 = (x16_4 : Int).toNat then Ao70 else (Ao70 : Option Addr).map (·.add ((x16_4 : Int).toNat * 1))):=⟨_,rfl⟩
      obtain ⟨c73,hc73⟩ : ∃ c1,c1 = co70 - (x16_4 : Int).toNat:=⟨_,rfl⟩
      have hy73 : y246.length = x8_3.length - (x16_4 : Int).toNat:=(by rw [Ny246.out,List.length_drop] <;> omega)
      rw [show (x8_3).drop (x16_4 : Int).toNat = y246 from Ny246.out.symm] at hr73
      replace hr73 : Kd.C (Kd.int .i64) _ A73 y246.length y246:=(by rw [hA73];exact hr73)
      rw [← hy73,← hA73,← hc73] at hcut73
      have HR249:=Aside0.mk hr73
      have HC249:=Aside0.mk (show y246.length ≤ c73 from by rw [hy73,hc73];exact Nat.sub_le_sub_right hroom73 _)
      clear hr73 hC73 hroom73 hi073 hsz73 hc73
      have KY73:=Aside0.mk hy73
      have KA73:=Aside0.mk hA73
      clear hy73 hA73
      have KL73:=Aside0.mk (show (x16_4 : Int).toNat ≤ x8_3.length from by omega)
      replace q73:=eq_true q73
      refine start_ (n:=12) (S:=fun w'=>True) (ds:=[]) (lb 12 0) (by kernel_rfl) rfl rfl trivial (fun hHeld=>?_);refine with_tabW spec_BeadsAt.tab18 spec_BeadsAt.bits18 (fun HT_ HW_=>?_)
      generalize wr.drew = w71 at HO_7 HO_8 HO_13 BK184 HB HR236 HR249 hHeld ⊢
      refine pu 0 (N:=some 91) (v:=?_) (a':=?_) (lb 12 1) HT_ (by kernel_rfl) rfl rfl rfl (fun _ _ _ h=>h) ?_ ?_ ?_
      rotate_left
      ·intro w'
       go_simp
       with_reducible rfl
      rotate_left
      ·simp only [ap]
       rfl
      refine pu 1 (N:=some 92) (v:=?_) (a':=?_) (lb 12 3) HT_ (by kernel_rfl) rfl rfl rfl (fun _ _ _ h=>h) ?_ ?_ ?_
      rotate_left
      ·intro w'
       go_simp
       with_reducible rfl
      rotate_left
      ·simp only [ap]
       rfl
      refine pu 2 (N:=some 93) (v:=?_) (a':=?_) (lb 12 7) HT_ (by kernel_rfl) rfl rfl rfl (fun _ _ _ h=>h) ?_ ?_ ?_
      rotate_left
      ·intro w'
       go_simp
       with_reducible rfl
      rotate_left
      ·simp only [ap]
       rfl
      refine pu 4 (N:=some 95) (v:=?_) (a':=?_) (lb 12 23) HT_ (by kernel_rfl) rfl rfl rfl (fun _ _ _ h=>h) ?_ ?_ ?_
      rotate_left
      ·intro w'
       go_simp
       with_reducible rfl
      rotate_left
      ·simp only [ap]
       rfl
      refine pu 7 (N:=some 98) (v:=?_) (a':=?_) (lb 12 151) HT_ (by kernel_rfl) rfl rfl rfl (fun _ _ _ h=>h) ?_ ?_ ?_
      rotate_left
      ·intro w'
       go_simp
       with_reducible rfl
      rotate_left
      ·simp only [ap]
       rfl
      refine pu 8 (N:=some 99) (v:=?_) (a':=?_) (lb 12 407) HT_ (by kernel_rfl) rfl rfl rfl (fun _ _ _ h=>h) ?_ ?_ ?_
      rotate_left
      ·intro w'
       go_simp
       with_reducible rfl
      rotate_left
      ·simp only [ap]
       rfl
      refine pu 9 (N:=some 100) (v:=?_) (a':=?_) (lb 12 919) HT_ (by kernel_rfl) rfl rfl rfl (fun _ _ _ h=>h) ?_ ?_ ?_
      rotate_left
      ·intro w'
       go_simp
       with_reducible rfl
      rotate_left
      ·simp only [ap]
       rfl
      refine join_ (σ:=Value × Value) 3 (lb 12 959) (fun s_=>[(94,s_.1),(96,s_.2)]) (fun s_ w'=>(Kd.R (Kd.int .i64) 3 w' w.heap.size (fun k_=>some k_ ≠ (s_.2 : Value).ownBlock ∧ some k_ ≠ (.slice (some ad209) t206.length co39 : Value).ownBlock ∧ some k_ ≠ (u7 : Value).ownBlock ∧ some k_ ≠ (.slice Ao70 x8_3.length co70 : Value).ownBlock) s_.1 t237) ∧ (Kd.R (Kd.int .i64) 3 w' w.heap.size (fun k_=>some k_ ≠ (s_.1 : Value).ownBlock ∧ some k_ ≠ (.slice (some ad209) t206.length co39 : Value).ownBlock ∧ some k_ ≠ (u7 : Value).ownBlock ∧ some k_ ≠ (.slice Ao70 x8_3.length co70 : Value).ownBlock) s_.2 y240) ∧ (Kd.R (Kd.int .i64) 3 w' w.heap.size (fun k_=>some k_ ≠ (s_.1 : Value).ownBlock ∧ some k_ ≠ (s_.2 : Value).ownBlock ∧ some k_ ≠ (u7 : Value).ownBlock ∧ some k_ ≠ (.slice Ao70 x8_3.length co70 : Value).ownBlock) (.slice (some ad209) t206.length co39) t206) ∧ (Kd.R (Kd.int .i64) 3 w' w.heap.size (fun k_=>some k_ ≠ (s_.1 : Value).ownBlock ∧ some k_ ≠ (s_.2 : Value).ownBlock ∧ some k_ ≠ (.slice (some ad209) t206.length co39 : Value).ownBlock ∧ some k_ ≠ (.slice Ao70 x8_3.length co70 : Value).ownBlock) u7 x7_2) ∧ (Kd.R (Kd.int .i64) 3 w' w.heap.size (fun k_=>some k_ ≠ (s_.1 : Value).ownBlock ∧ some k_ ≠ (s_.2 : Value).ownBlock ∧ some k_ ≠ (.slice (some ad209) t206.length co39 : Value).ownBlock ∧ some k_ ≠ (u7 : Value).ownBlock) (.slice Ao70 x8_3.length co70) x8_3) ∧ (w'.heap[gb184]? = some (.cells #[.int .i64 a0_0,.slice (some ad210) l0_1.length c0_1,.slice (some ad211) l0_2.length c0_2] 27 (0,0))) ∧ (Below w.heap.size w w')) ?_ ?_
      rotate_left
      ·intro hCont
       refine two_ (i:=3) (j:=5) (Ni:=some 94) (Nj:=some 96) (lb 12 927) (lb 12 951) rfl rfl rfl rfl (two_of HT_.out (by kernel_rfl)) (by decide) (by decide) (fun K hK=>?_) (fun K hK=>?_)
       rotate_left
       ·skip
        refine R_lit_step (Kd.int .i64) _ 3 ?hg (N:=96) ?hd (xs:=([(wrap64 ((rd l0_1 x14_3) + (wrap64 ((rd l0_2 x14_3) * a1))))] : List Int)) (inner:=[.int .i64 (wrap64 ((rd l0_1 x14_3) + (wrap64 ((rd l0_2 x14_3) * a1))))]) (ok:=fun _=>True) (okp:=fun _=>True) ?hr ?hp (fun _ hk=>hk) trivial (Below.refl _ _) (Nat.le_refl _) (by simp) ?_;(case hd=>rfl);(case hg=>rfl);(case hr=>first|(go_simp;done)|(go_simp;rfl));(case hp=>exact (Reps.one (show Kd.M (Kd.int .i64) _ _ _ (wrap64 ((rd l0_1 x14_3) + (wrap64 ((rd l0_2 x14_3) * a1)))) [.int .i64 (wrap64 ((rd l0_1 x14_3) + (wrap64 ((rd l0_2 x14_3) * a1))))] from rfl) (Reps.none _ _)))
        intro v241 w74 ho75 hb hg_ hnew_
        clear hg_ hnew_
        (first|rw [← Ny240.out] at ho75|(simp only [Int.reduceToNat] at ho75;rw [← Ny240.out] at ho75))
        have n0_:=Aside0.mk (R_elder' (rm HO_7.out) (R_base ho75) hb)
        have n1_:=Aside0.mk (R_elder' (rm HO_8.out) (R_base ho75) hb)
        have n2_:=Aside0.mk (R_elder' (rm HO_13.out) (R_base ho75) hb)
        have n3_:=Aside0.mk (R_lower (R_new' (R_new' (R_new' ho75 (R_lt (rm HO_7.out))) (R_lt (rm HO_8.out))) (R_lt (rm HO_13.out))) (below_size (h1 HB.out GE184.out)))
        have n4_:=Aside0.mk (blk_below (g:=gb184) (o:=.cells #[.int .i64 a0_0,.slice (some ad210) l0_1.length c0_1,.slice (some ad211) l0_2.length c0_2] 27 (0,0)) (bm BK184.out) hb)
        have n5_:=Aside0.mk (C_below (by repeat (first|(with_reducible exact HR236.out)|(with_reducible refine C_alloc ?_ _)|(with_reducible refine C_drewN ?_ _)|(with_reducible refine C_drew ?_)|exact HR236.out)) hb)
        have n6_:=Aside0.mk (C_below (by repeat (first|(with_reducible exact HR249.out)|(with_reducible refine C_alloc ?_ _)|(with_reducible refine C_drewN ?_ _)|(with_reducible refine C_drew ?_)|exact HR249.out)) hb)
        have n7_:=Aside0.mk (below_step (h1 HB.out GE184.out) hb)
        clear HO_7
        clear HO_8
        clear HO_13
        clear BK184
        clear HR236
        clear HR249
        clear HB
        have HO_7:=n0_
        have HO_8:=n1_
        have HO_13:=n2_
        have HO242:=n3_
        have BK184:=n4_
        have HR236:=n5_
        have HR249:=n6_
        have HB:=n7_
        clear n0_ n1_ n2_ n3_ n4_ n5_ n6_ n7_
        clear hb ho75
        refine hK.out _ _ trivial (fun hHeld=>?_)
        clear hK K
        refine norm_ (a':=?_) ?_ ?_
        rotate_left
        ·show Act.put _ (some 96) _ = _
         simp only [ap]
         rfl
        refine one_ (i:=3) (N:=some 94) (lb 12 959) rfl rfl (one_of HT_.out (by kernel_rfl)) (by decide) (fun K hK=>?_)
        refine goes_ Try.func53 (by kernel_rfl) rfl #[.slice Ao70 y233.length co70] (by rfl) rfl rfl (by (try simp only [List.map_toArray,List.map_cons,List.map_nil]);first|done|rfl|(simp only [List.length_drop,List.length_take];rfl)) ?_
        with_reducible refine (spec_l1Own.calls _ _ y233 t237 _ ?side1 ?side2 A65.out).mono ?_
        (case side1=>repeat (first|exact (by repeat (first|(with_reducible exact HR236.out)|(with_reducible refine C_alloc ?_ _)|(with_reducible refine C_drewN ?_ _)|(with_reducible refine C_drew ?_)|exact HR236.out))|(with_reducible refine C_alloc ?_ _)|(with_reducible refine C_drewN ?_ _)|(with_reducible refine C_drew ?_)))
        (case side2=>exact HC236.out)
        rintro e w76 ⟨v238,rfl,ho0,hb⟩
        refine ⟨_,rfl,?_⟩
        have n0_:=Aside0.mk (R_elder' (rm HO_7.out) (R_base ho0) hb)
        have n1_:=Aside0.mk (R_elder' (rm HO_8.out) (R_base ho0) hb)
        have n2_:=Aside0.mk (R_elder' (rm HO_13.out) (R_base ho0) hb)
        have n3_:=Aside0.mk (R_elder' (rm HO242.out) (R_base ho0) hb)
        have n4_:=Aside0.mk (R_lower (R_new' (R_new' (R_new' (R_new' ho0 (R_lt (rm HO_7.out))) (R_lt (rm HO_8.out))) (R_lt (rm HO_13.out))) (R_lt (rm HO242.out))) (below_size (h1 HB.out GE184.out)))
        have n5_:=Aside0.mk (blk_below (g:=gb184) (o:=.cells #[.int .i64 a0_0,.slice (some ad210) l0_1.length c0_1,.slice (some ad211) l0_2.length c0_2] 27 (0,0)) (bm BK184.out) hb)
        have n6_:=Aside0.mk (C_below (by repeat (first|(with_reducible exact HR236.out)|(with_reducible refine C_alloc ?_ _)|(with_reducible refine C_drewN ?_ _)|(with_reducible refine C_drew ?_)|exact HR236.out)) hb)
        have n7_:=Aside0.mk (C_below (by repeat (first|(with_reducible exact HR249.out)|(with_reducible refine C_alloc ?_ _)|(with_reducible refine C_drewN ?_ _)|(with_reducible refine C_drew ?_)|exact HR249.out)) hb)
        have n8_:=Aside0.mk (below_step (h1 HB.out GE184.out) hb)
        clear HO_7
        clear HO_8
        clear HO_13
        clear HO242
        clear BK184
        clear HR236
        clear HR249
        clear HB
        have HO_7:=n0_
        have HO_8:=n1_
        have HO_13:=n2_
        have HO242:=n3_
        have HO239:=n4_
        have BK184:=n5_
        have HR236:=n6_
        have HR249:=n7_
        have HB:=n8_
        clear n0_ n1_ n2_ n3_ n4_ n5_ n6_ n7_ n8_
        (try clear hb)
        (try clear hb2)
        (try clear hk)
        (try clear hi)
        (try clear ho0)
        refine hK.out _ _ trivial (fun hHeld=>?_)
        clear hK K
        refine norm_ (a':=?_) ?_ ?_
        rotate_left
        ·show Act.put _ (some 94) _ = _
         simp only [ap]
         rfl
        exact norm_ (by simp only [putAll,Act.put,List.setIfInBounds_toArray,List.set_cons_zero,List.set_cons_succ]) (hCont (v238,v241) _ ⟨(rm (R_mono HO239.out (fun _ hk=>⟨hk.2,⟨hk.1.2,⟨hk.1.1.1.2,hk.1.1.2⟩⟩⟩))),(rm (R_mono HO242.out (fun _ hk=>⟨hk.2,⟨hk.1.2,⟨hk.1.1.1.2,hk.1.1.2⟩⟩⟩))),(rm (R_mono HO_13.out (fun _ hk=>⟨hk.2,⟨hk.1.2,⟨hk.1.1.1,hk.1.1.2⟩⟩⟩))),(rm (R_mono HO_7.out (fun _ hk=>⟨hk.2,⟨hk.1.2,⟨hk.1.1.2,hk.1.1.1⟩⟩⟩))),(rm (R_mono HO_8.out (fun _ hk=>⟨hk.2,⟨hk.1.2,⟨hk.1.1.2,hk.1.1.1⟩⟩⟩))),(bm BK184.out),(h1 HB.out GE184.out)⟩)
       skip
       refine goes_ Try.func53 (by kernel_rfl) rfl #[.slice Ao70 y233.length co70] (by rfl) rfl rfl (by (try simp only [List.map_toArray,List.map_cons,List.map_nil]);first|done|rfl|(simp only [List.length_drop,List.length_take];rfl)) ?_
       with_reducible refine (spec_l1Own.calls _ _ y233 t237 _ ?side1 ?side2 A65.out).mono ?_
       (case side1=>repeat (first|exact (by repeat (first|(with_reducible exact HR236.out)|(with_reducible refine C_alloc ?_ _)|(with_reducible refine C_drewN ?_ _)|(with_reducible refine C_drew ?_)|exact HR236.out))|(with_reducible refine C_alloc ?_ _)|(with_reducible refine C_drewN ?_ _)|(with_reducible refine C_drew ?_)))
       (case side2=>exact HC236.out)
       rintro e w74 ⟨v238,rfl,ho0,hb⟩
       refine ⟨_,rfl,?_⟩
       have n0_:=Aside0.mk (R_elder' (rm HO_7.out) (R_base ho0) hb)
       have n1_:=Aside0.mk (R_elder' (rm HO_8.out) (R_base ho0) hb)
       have n2_:=Aside0.mk (R_elder' (rm HO_13.out) (R_base ho0) hb)
       have n3_:=Aside0.mk (R_lower (R_new' (R_new' (R_new' ho0 (R_lt (rm HO_7.out))) (R_lt (rm HO_8.out))) (R_lt (rm HO_13.out))) (below_size (h1 HB.out GE184.out)))
       have n4_:=Aside0.mk (blk_below (g:=gb184) (o:=.cells #[.int .i64 a0_0,.slice (some ad210) l0_1.length c0_1,.slice (some ad211) l0_2.length c0_2] 27 (0,0)) (bm BK184.out) hb)
       have n5_:=Aside0.mk (C_below (by repeat (first|(with_reducible exact HR236.out)|(with_reducible refine C_alloc ?_ _)|(with_reducible refine C_drewN ?_ _)|(with_reducible refine C_drew ?_)|exact HR236.out)) hb)
       have n6_:=Aside0.mk (C_below (by repeat (first|(with_reducible exact HR249.out)|(with_reducible refine C_alloc ?_ _)|(with_reducible refine C_drewN ?_ _)|(with_reducible refine C_drew ?_)|exact HR249.out)) hb)
       have n7_:=Aside0.mk (below_step (h1 HB.out GE184.out) hb)
       clear HO_7
       clear HO_8
       clear HO_13
       clear BK184
       clear HR236
       clear HR249
       clear HB
       have HO_7:=n0_
       have HO_8:=n1_
       have HO_13:=n2_
       have HO239:=n3_
       have BK184:=n4_
       have HR236:=n5_
       have HR249:=n6_
       have HB:=n7_
       clear n0_ n1_ n2_ n3_ n4_ n5_ n6_ n7_
       (try clear hb)
       (try clear hb2)
       (try clear hk)
       (try clear hi)
       (try clear ho0)
       refine hK.out _ _ trivial (fun hHeld=>?_)
       clear hK K
       refine norm_ (a':=?_) ?_ ?_
       rotate_left
       ·show Act.put _ (some 94) _ = _
        simp only [ap]
        rfl
       refine one_ (i:=5) (N:=some 96) (lb 12 959) rfl rfl (one_of HT_.out (by kernel_rfl)) (by decide) (fun K hK=>?_)
       refine R_lit_step (Kd.int .i64) _ 3 ?hg (N:=96) ?hd (xs:=([(wrap64 ((rd l0_1 x14_3) + (wrap64 ((rd l0_2 x14_3) * a1))))] : List Int)) (inner:=[.int .i64 (wrap64 ((rd l0_1 x14_3) + (wrap64 ((rd l0_2 x14_3) * a1))))]) (ok:=fun _=>True) (okp:=fun _=>True) ?hr ?hp (fun _ hk=>hk) trivial (Below.refl _ _) (Nat.le_refl _) (by simp) ?_;(case hd=>rfl);(case hg=>rfl);(case hr=>first|(go_simp;done)|(go_simp;rfl));(case hp=>exact (Reps.one (show Kd.M (Kd.int .i64) _ _ _ (wrap64 ((rd l0_1 x14_3) + (wrap64 ((rd l0_2 x14_3) * a1)))) [.int .i64 (wrap64 ((rd l0_1 x14_3) + (wrap64 ((rd l0_2 x14_3) * a1))))] from rfl) (Reps.none _ _)))
       intro v241 w75 ho76 hb hg_ hnew_
       clear hg_ hnew_
       (first|rw [← Ny240.out] at ho76|(simp only [Int.reduceToNat] at ho76;rw [← Ny240.out] at ho76))
       have n0_:=Aside0.mk (R_elder' (rm HO_7.out) (R_base ho76) hb)
       have n1_:=Aside0.mk (R_elder' (rm HO_8.out) (R_base ho76) hb)
       have n2_:=Aside0.mk (R_elder' (rm HO_13.out) (R_base ho76) hb)
       have n3_:=Aside0.mk (R_elder' (rm HO239.out) (R_base ho76) hb)
       have n4_:=Aside0.mk (R_lower (R_new' (R_new' (R_new' (R_new' ho76 (R_lt (rm HO_7.out))) (R_lt (rm HO_8.out))) (R_lt (rm HO_13.out))) (R_lt (rm HO239.out))) (below_size (h1 HB.out GE184.out)))
       have n5_:=Aside0.mk (blk_below (g:=gb184) (o:=.cells #[.int .i64 a0_0,.slice (some ad210) l0_1.length c0_1,.slice (some ad211) l0_2.length c0_2] 27 (0,0)) (bm BK184.out) hb)
       have n6_:=Aside0.mk (C_below (by repeat (first|(with_reducible exact HR236.out)|(with_reducible refine C_alloc ?_ _)|(with_reducible refine C_drewN ?_ _)|(with_reducible refine C_drew ?_)|exact HR236.out)) hb)
       have n7_:=Aside0.mk (C_below (by repeat (first|(with_reducible exact HR249.out)|(with_reducible refine C_alloc ?_ _)|(with_reducible refine C_drewN ?_ _)|(with_reducible refine C_drew ?_)|exact HR249.out)) hb)
       have n8_:=Aside0.mk (below_step (h1 HB.out GE184.out) hb)
       clear HO_7
       clear HO_8
       clear HO_13
       clear HO239
       clear BK184
       clear HR236
       clear HR249
       clear HB
       have HO_7:=n0_
       have HO_8:=n1_
       have HO_13:=n2_
       have HO239:=n3_
       have HO242:=n4_
       have BK184:=n5_
       have HR236:=n6_
       have HR249:=n7_
       have HB:=n8_
       clear n0_ n1_ n2_ n3_ n4_ n5_ n6_ n7_ n8_
       clear hb ho76
       refine hK.out _ _ trivial (fun hHeld=>?_)
       clear hK K
       refine norm_ (a':=?_) ?_ ?_
       rotate_left
       ·show Act.put _ (some 96) _ = _
        simp only [ap]
        rfl
       exact norm_ (by simp only [putAll,Act.put,List.setIfInBounds_toArray,List.set_cons_zero,List.set_cons_succ]) (hCont (v238,v241) _ ⟨(rm (R_mono HO239.out (fun _ hk=>⟨hk.2,⟨hk.1.2,⟨hk.1.1.1.2,hk.1.1.2⟩⟩⟩))),(rm (R_mono HO242.out (fun _ hk=>⟨hk.2,⟨hk.1.2,⟨hk.1.1.1.2,hk.1.1.2⟩⟩⟩))),(rm (R_mono HO_13.out (fun _ hk=>⟨hk.1.2,⟨hk.2,⟨hk.1.1.1,hk.1.1.2⟩⟩⟩))),(rm (R_mono HO_7.out (fun _ hk=>⟨hk.1.2,⟨hk.2,⟨hk.1.1.2,hk.1.1.1⟩⟩⟩))),(rm (R_mono HO_8.out (fun _ hk=>⟨hk.1.2,⟨hk.2,⟨hk.1.1.2,hk.1.1.1⟩⟩⟩))),(bm BK184.out),(h1 HB.out GE184.out)⟩)
      rintro ⟨v238,v241⟩ w77 ⟨h0_,h1_,h2_,h3_,h4_,h5_,h6_⟩
      have n0_ : Aside0 (Kd.R (Kd.int .i64) 3 w77 w.heap.size (fun k_=>some k_ ≠ (v241 : Value).ownBlock ∧ some k_ ≠ (.slice (some ad209) t206.length co39 : Value).ownBlock ∧ some k_ ≠ (u7 : Value).ownBlock ∧ some k_ ≠ (.slice Ao70 x8_3.length co70 : Value).ownBlock) v238 t237):=⟨h0_⟩
      have n1_ : Aside0 (Kd.R (Kd.int .i64) 3 w77 w.heap.size (fun k_=>some k_ ≠ (v238 : Value).ownBlock ∧ some k_ ≠ (.slice (some ad209) t206.length co39 : Value).ownBlock ∧ some k_ ≠ (u7 : Value).ownBlock ∧ some k_ ≠ (.slice Ao70 x8_3.length co70 : Value).ownBlock) v241 y240):=⟨h1_⟩
      have n2_ : Aside0 (Kd.R (Kd.int .i64) 3 w77 w.heap.size (fun k_=>some k_ ≠ (v238 : Value).ownBlock ∧ some k_ ≠ (v241 : Value).ownBlock ∧ some k_ ≠ (u7 : Value).ownBlock ∧ some k_ ≠ (.slice Ao70 x8_3.length co70 : Value).ownBlock) (.slice (some ad209) t206.length co39) t206):=⟨h2_⟩
      have n3_ : Aside0 (Kd.R (Kd.int .i64) 3 w77 w.heap.size (fun k_=>some k_ ≠ (v238 : Value).ownBlock ∧ some k_ ≠ (v241 : Value).ownBlock ∧ some k_ ≠ (.slice (some ad209) t206.length co39 : Value).ownBlock ∧ some k_ ≠ (.slice Ao70 x8_3.length co70 : Value).ownBlock) u7 x7_2):=⟨h3_⟩
      have n4_ : Aside0 (Kd.R (Kd.int .i64) 3 w77 w.heap.size (fun k_=>some k_ ≠ (v238 : Value).ownBlock ∧ some k_ ≠ (v241 : Value).ownBlock ∧ some k_ ≠ (.slice (some ad209) t206.length co39 : Value).ownBlock ∧ some k_ ≠ (u7 : Value).ownBlock) (.slice Ao70 x8_3.length co70) x8_3):=⟨h4_⟩
      have n5_ : Aside0 (w77.heap[gb184]? = some (.cells #[.int .i64 a0_0,.slice (some ad210) l0_1.length c0_1,.slice (some ad211) l0_2.length c0_2] 27 (0,0))):=⟨h5_⟩
      have n6_ : Aside0 (Below w.heap.size w w77):=⟨h6_⟩
      clear HO_7
      clear HO_8
      clear HO_13
      clear BK184
      clear HB
      clear h0_ h1_ h2_ h3_ h4_ h5_ h6_
      have HO239:=n0_
      have HO242:=n1_
      have HO_13:=n2_
      have HO_7:=n3_
      have HO_8:=n4_
      have BK184:=n5_
      have HB:=n6_
      clear n0_ n1_ n2_ n3_ n4_ n5_ n6_
      have hHeld:=trivial
      obtain ⟨Ao79,co79,eo79⟩:=R_slice HO242.out
      (first|subst eo79|(injection eo79 with f1_ f2_ f3_;have f4_:=f1_.symm;have f5_:=f3_.symm;clear f1_ f2_ f3_;subst f4_;subst f5_))
      refine norm_ (a':=?_) ?_ ?_
      rotate_left
      ·simp only [putAll,Act.put,List.setIfInBounds_toArray,List.set_cons_zero,List.set_cons_succ]
       rfl
      refine one_ (i:=6) (N:=some 97) (lb 12 1023) rfl rfl (one_of HT_.out (by kernel_rfl)) (by decide) (fun K hK=>?_)
      refine R_append_rows_step (Kd.int .i64) (w0:=w) w.heap.size (by rfl) (.tmp 94) (.tmp 96) 22 3 (.int .i64 0) 8 rfl Try.underlying22 info3 rfl (by decide) (by omega) v238 t237 y240 _ _ _ (fun k_=>some k_ ≠ (u7 : Value).ownBlock ∧ some k_ ≠ (.slice Ao70 x8_3.length co70 : Value).ownBlock ∧ some k_ ≠ (.slice (some ad209) t206.length co39 : Value).ownBlock ∧ some k_ ≠ (.slice Ao79 y240.length co79 : Value).ownBlock) (fun _=>False) rfl rfl ?aO ?aR (fun _ _ h=>h) (fun _ h=>h.elim) ?aF ?aB ?aS ?aL ?_
      (case aR=>exact cm (R_reads' HO242.out).2.2)
      (case aB=>exact (h1 HB.out GE184.out))
      (case aF=>exact (fun k_ hk=>⟨Kd.fresh' (R_lt (rm HO_7.out)) k_ hk,Kd.fresh' (R_lt (rm HO_8.out)) k_ hk,Kd.fresh' (R_lt (rm HO_13.out)) k_ hk,Kd.fresh' (R_lt (rm HO242.out)) k_ hk⟩))
      (case aO=>exact (rm (R_mono HO239.out (fun _ hk=>⟨hk.2.2.1,⟨hk.2.2.2,⟨hk.2.1,hk.1⟩⟩⟩))))
      (case aS=>exact (below_size (h1 HB.out GE184.out)))
      (case aL=>have:=LMc66.out;omega)
      intro v244 w78 ho hb hg hat
      rw [← Ny243.out] at ho
      have n0_:=Aside0.mk (R_after (ok:=(fun k_=>some k_ ≠ (.slice Ao70 x8_3.length co70 : Value).ownBlock ∧ some k_ ≠ (.slice (some ad209) t206.length co39 : Value).ownBlock ∧ some k_ ≠ (.slice Ao79 y240.length co79 : Value).ownBlock)) (rm (R_mono HO_7.out (fun _ hk=>⟨⟨hk.2.2.2,⟨hk.2.2.1,hk.2.1⟩⟩,hk.1⟩))) hg hat)
      have n1_:=Aside0.mk (R_after (ok:=(fun k_=>some k_ ≠ (u7 : Value).ownBlock ∧ some k_ ≠ (.slice (some ad209) t206.length co39 : Value).ownBlock ∧ some k_ ≠ (.slice Ao79 y240.length co79 : Value).ownBlock)) (rm (R_mono HO_8.out (fun _ hk=>⟨⟨hk.2.2.2,⟨hk.2.2.1,hk.2.1⟩⟩,hk.1⟩))) hg hat)
      have n2_:=Aside0.mk (R_after (ok:=(fun k_=>some k_ ≠ (u7 : Value).ownBlock ∧ some k_ ≠ (.slice Ao70 x8_3.length co70 : Value).ownBlock ∧ some k_ ≠ (.slice Ao79 y240.length co79 : Value).ownBlock)) (rm (R_mono HO_13.out (fun _ hk=>⟨⟨hk.2.2.1,⟨hk.2.2.2,hk.2.1⟩⟩,hk.1⟩))) hg hat)
      have n3_:=Aside0.mk (blk_grown (g:=gb184) (o:=.cells #[.int .i64 a0_0,.slice (some ad210) l0_1.length c0_1,.slice (some ad211) l0_2.length c0_2] 27 (0,0)) (bm BK184.out) hg (R_ne HO239.out BK184.out (by decide)))
      have n4_:=Aside0.mk (R_after (ok:=(fun k_=>some k_ ≠ (u7 : Value).ownBlock ∧ some k_ ≠ (.slice Ao70 x8_3.length co70 : Value).ownBlock ∧ some k_ ≠ (.slice (some ad209) t206.length co39 : Value).ownBlock)) (rm (R_mono HO242.out (fun _ hk=>⟨⟨hk.2.2.1,⟨hk.2.2.2,hk.2.1⟩⟩,hk.1⟩))) hg hat)
      have n5_:=Aside0.mk (hb)
      have n6_:=Aside0.mk (ho)
      clear HO_7
      clear HO_8
      clear HO_13
      clear BK184
      clear HO242
      clear HB
      clear HO239
      have HO_7:=n0_
      have HO_8:=n1_
      have HO_13:=n2_
      have BK184:=n3_
      have HO242:=n4_
      have HB:=n5_
      have HO245:=n6_
      clear n0_ n1_ n2_ n3_ n4_ n5_ n6_
      clear ho hb hg hat
      refine hK.out _ _ trivial (fun hHeld=>?_)
      clear hK K
      refine norm_ (a':=?_) ?_ ?_
      rotate_left
      ·show Act.put _ (some 97) _ = _
       simp only [ap]
       rfl
      refine one_ (i:=10) (N:=some 101) (lb 12 2047) rfl rfl (one_of HT_.out (by kernel_rfl)) (by decide) (fun K hK=>?_)
      refine R_append_rows_step (Kd.int .i64) (w0:=w) w.heap.size (by rfl) (.tmp 97) (.tmp 100) 22 3 (.int .i64 0) 8 rfl Try.underlying22 info3 rfl (by decide) (by omega) v244 y243 y246 _ _ _ (fun k_=>some k_ ≠ (u7 : Value).ownBlock ∧ some k_ ≠ (.slice Ao70 x8_3.length co70 : Value).ownBlock ∧ some k_ ≠ (.slice (some ad209) t206.length co39 : Value).ownBlock ∧ some k_ ≠ (.slice Ao79 y240.length co79 : Value).ownBlock) (fun _=>False) rfl rfl ?aO ?aR (fun _ _ h=>h) (fun _ h=>h.elim) ?aF ?aB ?aS ?aL ?_
      (case aR=>repeat (first|exact ((show Kd.C (Kd.int .i64) _ A73 y246.length y246 from by rw [Ny246.out,KA73.out];refine C_drop (m:=(x16_4 : Int).toNat) (c:=co70) ?cA KL73.out ((R_reads' HO_8.out).2.1);(case cA=>exact ((R_reads' (rm HO_8.out)).2.2))))|(with_reducible refine C_alloc ?_ _)|(with_reducible refine C_drewN ?_ _)|(with_reducible refine C_drew ?_)))
      (case aB=>exact (h1 HB.out GE184.out))
      (case aF=>exact (fun k_ hk=>⟨Kd.fresh' (R_lt (rm HO_7.out)) k_ hk,Kd.fresh' (R_lt (rm HO_8.out)) k_ hk,Kd.fresh' (R_lt (rm HO_13.out)) k_ hk,Kd.fresh' (R_lt (rm HO242.out)) k_ hk⟩))
      (case aO=>exact (rm HO245.out))
      (case aS=>exact (below_size (h1 HB.out GE184.out)))
      (case aL=>have:=LMc69.out;omega)
      intro v251 w80 ho hb hg hat
      rw [← Ny250.out] at ho
      have n0_:=Aside0.mk (R_after (ok:=(fun k_=>some k_ ≠ (.slice Ao70 x8_3.length co70 : Value).ownBlock ∧ some k_ ≠ (.slice (some ad209) t206.length co39 : Value).ownBlock ∧ some k_ ≠ (.slice Ao79 y240.length co79 : Value).ownBlock)) (rm HO_7.out) hg hat)
      have n1_:=Aside0.mk (R_after (ok:=(fun k_=>some k_ ≠ (u7 : Value).ownBlock ∧ some k_ ≠ (.slice (some ad209) t206.length co39 : Value).ownBlock ∧ some k_ ≠ (.slice Ao79 y240.length co79 : Value).ownBlock)) (rm HO_8.out) hg hat)
      have n2_:=Aside0.mk (R_after (ok:=(fun k_=>some k_ ≠ (u7 : Value).ownBlock ∧ some k_ ≠ (.slice Ao70 x8_3.length co70 : Value).ownBlock ∧ some k_ ≠ (.slice Ao79 y240.length co79 : Value).ownBlock)) (rm HO_13.out) hg hat)
      have n3_:=Aside0.mk (blk_grown (g:=gb184) (o:=.cells #[.int .i64 a0_0,.slice (some ad210) l0_1.length c0_1,.slice (some ad211) l0_2.length c0_2] 27 (0,0)) (bm BK184.out) hg (R_ne HO245.out BK184.out (by decide)))
      have n4_:=Aside0.mk (R_after (ok:=(fun k_=>some k_ ≠ (u7 : Value).ownBlock ∧ some k_ ≠ (.slice Ao70 x8_3.length co70 : Value).ownBlock ∧ some k_ ≠ (.slice (some ad209) t206.length co39 : Value).ownBlock)) (rm HO242.out) hg hat)
      have n5_:=Aside0.mk (hb)
      have n6_:=Aside0.mk (ho)
      clear HO_7
      clear HO_8
      clear HO_13
      clear BK184
      clear HO242
      clear HB
      clear HO245
      have HO_7:=n0_
      have HO_8:=n1_
      have HO_13:=n2_
      have BK184:=n3_
      have HO242:=n4_
      have HB:=n5_
      have HO252:=n6_
      clear n0_ n1_ n2_ n3_ n4_ n5_ n6_
      clear ho hb hg hat
      refine hK.out _ _ trivial (fun hHeld=>?_)
      clear hK K
      refine norm_ (a':=?_) ?_ ?_
      rotate_left
      ·show Act.put _ (some 101) _ = _
       simp only [ap]
       rfl
      refine pu 11 (N:=some 8) (v:=?_) (a':=?_) (lb 12 4095) HT_ (by kernel_rfl) rfl rfl rfl (fun _ _ _ h=>h) ?_ ?_ ?_
      rotate_left
      ·intro w'
       go_simp
       with_reducible rfl
      rotate_left
      ·simp only [ap]
       rfl
      refine done_ (done_of HT_.out (by kernel_rfl)) ?_
      try go_wp2
      go_roundg k4
      case measure=>have:=HJ2.out;have:=HK2.out;have:=HK3.out;have:=HK4.out;omega
      case rel=>exact ⟨(y250),(wrap64 (x14_3 + 1)),(by first|rfl|(simp;done)|(simp [*];done)),H',⟨by have:=HJ2.out;have:=HK2.out;have:=HK3.out;have:=HK4.out;omega⟩,⟨rm (R_mono HO_7.out (fun _ hk=>⟨hk.2,hk.1.2.1⟩))⟩,⟨rm (R_mono HO252.out (fun _ hk=>⟨hk.1,hk.2.2.1⟩))⟩,⟨rm (R_mono HO_13.out (fun _ hk=>⟨hk.1.1,hk.2⟩))⟩,⟨bm BK184.out⟩,⟨h1 HB.out GE184.out⟩⟩
     rw [if_pos c41] at H
     have c41b0 : decide (x16_4 < (x8_3.length : Int)) = true:=decide_eq_true c41
     clear c41
     by_cases c42 : 0 ≤ x16_4
     rotate_left
     ·rw [if_neg c42] at H
      exact absurd H (by simp)
     rw [if_pos c42] at H
     have c42b0 : decide (0 ≤ x16_4) = true:=decide_eq_true c42
     clear c42
     by_cases c43 : (rd x8_3 x16_4) ≤ (wrap64 ((rd l0_1 x14_3) + (wrap64 ((rd l0_2 x14_3) * a1))))
     ·rw [if_pos c43] at H
      have c43b0 : decide ((rd x8_3 x16_4) ≤ (wrap64 ((rd l0_1 x14_3) + (wrap64 ((rd l0_2 x14_3) * a1))))) = true:=decide_eq_true c43
      clear c43
      have H':=Aside0.mk H
      clear H
      obtain ⟨Ao44,co44,eo44⟩:=R_slice HO_8.out
      subst eo44
      have p212 : 0 ≤ (x16_4 : Int):=od
      have q212 : x16_4 < (x8_3.length : Int):=od
      obtain ⟨ad212,e212,hx212_0⟩:=Kd.at_int (R_reads' HO_8.out).2.2 x16_4 p212 q212
      cases e212
      replace p212:=eq_true p212
      replace q212:=eq_true q212
      go_wp2
      go_roundg k4
      case measure=>have:=HJ2.out;have:=HK2.out;have:=HK3.out;have:=HK4.out;omega
      case rel=>exact ⟨(wrap64 (x16_4 + 1)),(by first|rfl|(simp;done)|(simp [*];done)),H',⟨by have:=HJ2.out;have:=HK2.out;have:=HK3.out;have:=HK4.out;omega⟩,⟨rm HO_7.out⟩,⟨rm HO_8.out⟩,⟨rm HO_13.out⟩,⟨bm BK184.out⟩,⟨h1 HB.out GE184.out⟩⟩
     rw [if_neg c43] at H
     have c43b0 : decide ((rd x8_3 x16_4) ≤ (wrap64 ((rd l0_1 x14_3) + (wrap64 ((rd l0_2 x14_3) * a1))))) = false:=decide_eq_false c43
     clear c43
     have c45b0:=eq_true (od : 0 ≤ x16_4)
     by_cases c46 : x16_4 ≤ (x8_3.length : Int)
     rotate_left
     ·rw [if_neg c46] at H
      exact absurd H (by simp)
     rw [if_pos c46] at H
     have c46b0:=eq_true c46
     have c46b1 : decide (x16_4 ≤ (x8_3.length : Int)) = true:=decide_eq_true c46
     clear c46
     obtain ⟨y213,hy213⟩ : ∃ y_ : List Int,y_ = (x8_3.take (x16_4 : Int).toNat):=⟨_,rfl⟩
     replace H : ((spec_l1Own.f y213).bind fun t217=>((some (([(wrap64 ((rd l0_1 x14_3) + (wrap64 ((rd l0_2 x14_3) * a1))))] : List Int) : List Int)).bind fun y220=>(if t217.length + y220.length < 17592186044416 then ((some (t217 ++ y220 : List Int)).bind fun y223=>((some (x8_3.drop (x16_4 : Int).toNat : List Int)).bind fun y226=>(if y223.length + y226.length < 17592186044416 then (spec_BeadsAt.l1 k4 a1 x7_2 (y223 ++ y226) t206 (wrap64 (x14_3 + 1)) a0_0 l0_1 l0_2) else (none)))) else (none)))) = some (r1,r2,r3):=by first|(rw [hy213];with_reducible exact H)|(have H2_:=(Option.bind_some _ _).symm.trans H;rw [hy213];with_reducible exact H2_)|(have H2_:=(Option.bind_some _ _).symm.trans H;with_reducible exact H2_)|with_reducible exact H|(rw [hy213];exact H)|exact H
     have Ny213:=Aside0.mk hy213
     clear hy213
     replace H:=Option.bind_eq_some_iff.mp H
     obtain ⟨t217,A470,H⟩:=H
     replace H : ((some (([(wrap64 ((rd l0_1 x14_3) + (wrap64 ((rd l0_2 x14_3) * a1))))] : List Int) : List Int)).bind fun y220=>(if t217.length + y220.length < 17592186044416 then ((some (t217 ++ y220 : List Int)).bind fun y223=>((some (x8_3.drop (x16_4 : Int).toNat : List Int)).bind fun y226=>(if y223.length + y226.length < 17592186044416 then (spec_BeadsAt.l1 k4 a1 x7_2 (y223 ++ y226) t206 (wrap64 (x14_3 + 1)) a0_0 l0_1 l0_2) else (none)))) else (none))) = some (r1,r2,r3):=H
     have A47:=Aside0.mk A470
     clear A470
     obtain ⟨y220,hy220⟩ : ∃ y_ : List Int,y_ = (([(wrap64 ((rd l0_1 x14_3) + (wrap64 ((rd l0_2 x14_3) * a1))))] : List Int)):=⟨_,rfl⟩
     replace H : (if t217.length + y220.length < 17592186044416 then ((some (t217 ++ y220 : List Int)).bind fun y223=>((some (x8_3.drop (x16_4 : Int).toNat : List Int)).bind fun y226=>(if y223.length + y226.length < 17592186044416 then (spec_BeadsAt.l1 k4 a1 x7_2 (y223 ++ y226) t206 (wrap64 (x14_3 + 1)) a0_0 l0_1 l0_2) else (none)))) else (none)) = some (r1,r2,r3):=by first|(rw [hy220];with_reducible exact H)|(have H2_:=(Option.bind_some _ _).symm.trans H;rw [hy220];with_reducible exact H2_)|(have H2_:=(Option.bind_some _ _).symm.trans H;with_reducible exact H2_)|with_reducible exact H|(rw [hy220];exact H)|exact H
     have Ny220:=Aside0.mk hy220
     clear hy220
     by_cases c48 : t217.length + y220.length < 17592186044416
     rotate_left
     ·rw [if_neg c48] at H
      exact absurd H (by simp)
     rw [if_pos c48] at H
     have LMc48:=Aside0.mk c48
     clear c48
     obtain ⟨y223,hy223⟩ : ∃ y_ : List Int,y_ = (t217 ++ y220):=⟨_,rfl⟩
     replace H : ((some (x8_3.drop (x16_4 : Int).toNat : List Int)).bind fun y226=>(if y223.length + y226.length < 17592186044416 then (spec_BeadsAt.l1 k4 a1 x7_2 (y223 ++ y226) t206 (wrap64 (x14_3 + 1)) a0_0 l0_1 l0_2) else (none))) = some (r1,r2,r3):=by first|(rw [hy223];with_reducible exact H)|(have H2_:=(Option.bind_some _ _).symm.trans H;rw [hy223];with_reducible exact H2_)|(have H2_:=(Option.bind_some _ _).symm.trans H;with_reducible exact H2_)|with_reducible exact H|(rw [hy223];exact H)|exact H
     have Ny223:=Aside0.mk hy223
     clear hy223
     have c49b0:=eq_true (od : 0 ≤ x16_4)
     have c50b0:=eq_true (od : x16_4 ≤ (x8_3.length : Int))
     obtain ⟨y226,hy226⟩ : ∃ y_ : List Int,y_ = (x8_3.drop (x16_4 : Int).toNat):=⟨_,rfl⟩
     replace H : (if y223.length + y226.length < 17592186044416 then (spec_BeadsAt.l1 k4 a1 x7_2 (y223 ++ y226) t206 (wrap64 (x14_3 + 1)) a0_0 l0_1 l0_2) else (none)) = some (r1,r2,r3):=by first|(rw [hy226];with_reducible exact H)|(have H2_:=(Option.bind_some _ _).symm.trans H;rw [hy226];with_reducible exact H2_)|(have H2_:=(Option.bind_some _ _).symm.trans H;with_reducible exact H2_)|with_reducible exact H|(rw [hy226];exact H)|exact H
     have Ny226:=Aside0.mk hy226
     clear hy226
     by_cases c51 : y223.length + y226.length < 17592186044416
     rotate_left
     ·rw [if_neg c51] at H
      exact absurd H (by simp)
     rw [if_pos c51] at H
     have LMc51:=Aside0.mk c51
     clear c51
     obtain ⟨y230,hy230⟩ : ∃ y_ : List Int,y_ = (y223 ++ y226):=⟨_,rfl⟩
     replace H : (spec_BeadsAt.l1 k4 a1 x7_2 y230 t206 (wrap64 (x14_3 + 1)) a0_0 l0_1 l0_2) = some (r1,r2,r3):=by first|(rw [hy230];with_reducible exact H)|(have H2_:=(Option.bind_some _ _).symm.trans H;rw [hy230];with_reducible exact H2_)|(have H2_:=(Option.bind_some _ _).symm.trans H;with_reducible exact H2_)|with_reducible exact H|(rw [hy230];exact H)|exact H
     have Ny230:=Aside0.mk hy230
     clear hy230
     have H':=Aside0.mk H
     clear H
     obtain ⟨Ao52,co52,eo52⟩:=R_slice HO_8.out
     subst eo52
     have p212 : 0 ≤ (x16_4 : Int):=od
     have q212 : x16_4 < (x8_3.length : Int):=od
     obtain ⟨ad212,e212,hx212_0⟩:=Kd.at_int (R_reads' HO_8.out).2.2 x16_4 p212 q212
     cases e212
     replace p212:=eq_true p212
     replace q212:=eq_true q212
     try go_wp2
     have n0_:=Aside0.mk (R_drew HO_7.out)
     have n1_:=Aside0.mk (R_drew HO_8.out)
     have n2_:=Aside0.mk (R_drew HO_13.out)
     have n3_:=Aside0.mk (blk_drew BK184.out)
     have n4_:=Aside0.mk (below_drew1 HB.out)
     clear HO_7
     clear HO_8
     clear HO_13
     clear BK184
     clear HB
     have HO_7:=n0_
     have HO_8:=n1_
     have HO_13:=n2_
     have BK184:=n3_
     have HB:=n4_
     clear n0_ n1_ n2_ n3_ n4_
     have q54 : (x16_4 : Int) ≤ ((x8_3.length : Int) : Int):=od
     obtain ⟨i054,hi054,_,hsz54,_⟩:=info_parts info3
     have hroom54 : x8_3.length ≤ co52:=(R_reads' HO_8.out).2.1
     have hC54 : Kd.C (Kd.int .i64) _ (some ad212) x8_3.length x8_3:=(R_reads' HO_8.out).2.2
     have hcut54:=cut_to (P:=Try.prog) 22 3 .i64 Try.underlying22 hi054 (some ad212) x8_3.length co52 x16_4 (od) q54 hroom54
     have hr54:=C_take (m:=(x16_4 : Int).toNat) hC54 (by omega)
     have hy54 : y213.length = (x16_4 : Int).toNat:=(by rw [Ny213.out,List.length_take];omega)
     rw [← Ny213.out] at hr54
     rw [← hy54] at hcut54
     have HR216:=Aside0.mk hr54
     have HC216:=Aside0.mk (show y213.length ≤ co52 from by omega)
     clear hr54 hC54 hroom54 hi054 hsz54
     have KY54:=Aside0.mk hy54
     clear hy54
     have KL54:=Aside0.mk (show (x16_4 : Int).toNat ≤ x8_3.length from by omega)
     replace q54:=eq_true q54
     have q55 : (x16_4 : Int) ≤ ((x8_3.length : Int) : Int):=od
     obtain ⟨i055,hi055,_,hsz55,_⟩:=info_parts info3
     have hroom55 : x8_3.length ≤ co52:=(R_reads' HO_8.out).2.1
     have hC55 : Kd.C (Kd.int .i64) _ (some ad212) x8_3.length x8_3:=(R_reads' HO_8.out).2.2
     have q055 : (0 : Int) ≤ (x16_4 : Int):=od
     have hcut55:=cut_from (P:=Try.prog) 22 3 .i64 Try.underlying22 hi055 1 hsz55 (some ad212) x8_3.length co52 x16_4 q055 q55
     have hr55:=C_drop (m:=(x16_4 : Int).toNat) (c:=co52) hC55 (by omega) hroom55
     obtain ⟨A55,hA55⟩ : ∃ A_,A_ = (if co52 = (x16_4 : Int).toNat then (some ad212) else ((some ad212) : Option Addr).map (·.add ((x16_4 : Int).toNat * 1))):=⟨_,rfl⟩
     obtain ⟨c55,hc55⟩ : ∃ c1,c1 = co52 - (x16_4 : Int).toNat:=⟨_,rfl⟩
     have hy55 : y226.length = x8_3.length - (x16_4 : Int).toNat:=(by rw [Ny226.out,List.length_drop] <;> omega)
     rw [show (x8_3).drop (x16_4 : Int).toNat = y226 from Ny226.out.symm] at hr55
     replace hr55 : Kd.C (Kd.int .i64) _ A55 y226.length y226:=(by rw [hA55];exact hr55)
     rw [← hy55,← hA55,← hc55] at hcut55
     have HR229:=Aside0.mk hr55
     have HC229:=Aside0.mk (show y226.length ≤ c55 from by rw [hy55,hc55];exact Nat.sub_le_sub_right hroom55 _)
     clear hr55 hC55 hroom55 hi055 hsz55 hc55
     have KY55:=Aside0.mk hy55
     have KA55:=Aside0.mk hA55
     clear hy55 hA55
     have KL55:=Aside0.mk (show (x16_4 : Int).toNat ≤ x8_3.length from by omega)
     replace q55:=eq_true q55
     refine start_ (n:=12) (S:=fun w'=>True) (ds:=[]) (lb 12 0) (by kernel_rfl) rfl rfl trivial (fun hHeld=>?_);refine with_tabW spec_BeadsAt.tab18 spec_BeadsAt.bits18 (fun HT_ HW_=>?_)
     generalize wr.drew = w53 at HO_7 HO_8 HO_13 BK184 HB HR216 HR229 hHeld ⊢
     refine pu 0 (N:=some 91) (v:=?_) (a':=?_) (lb 12 1) HT_ (by kernel_rfl) rfl rfl rfl (fun _ _ _ h=>h) ?_ ?_ ?_
     rotate_left
     ·intro w'
      go_simp
      with_reducible rfl
     rotate_left
     ·simp only [ap]
      rfl
     refine pu 1 (N:=some 92) (v:=?_) (a':=?_) (lb 12 3) HT_ (by kernel_rfl) rfl rfl rfl (fun _ _ _ h=>h) ?_ ?_ ?_
     rotate_left
     ·intro w'
      go_simp
      with_reducible rfl
     rotate_left
     ·simp only [ap]
      rfl
     refine pu 2 (N:=some 93) (v:=?_) (a':=?_) (lb 12 7) HT_ (by kernel_rfl) rfl rfl rfl (fun _ _ _ h=>h) ?_ ?_ ?_
     rotate_left
     ·intro w'
      go_simp
      with_reducible rfl
     rotate_left
     ·simp only [ap]
      rfl
     refine pu 4 (N:=some 95) (v:=?_) (a':=?_) (lb 12 23) HT_ (by kernel_rfl) rfl rfl rfl (fun _ _ _ h=>h) ?_ ?_ ?_
     rotate_left
     ·intro w'
      go_simp
      with_reducible rfl
     rotate_left
     ·simp only [ap]
      rfl
     refine pu 7 (N:=some 98) (v:=?_) (a':=?_) (lb 12 151) HT_ (by kernel_rfl) rfl rfl rfl (fun _ _ _ h=>h) ?_ ?_ ?_
     rotate_left
     ·intro w'
      go_simp
      with_reducible rfl
     rotate_left
     ·simp only [ap]
      rfl
     refine pu 8 (N:=some 99) (v:=?_) (a':=?_) (lb 12 407) HT_ (by kernel_rfl) rfl rfl rfl (fun _ _ _ h=>h) ?_ ?_ ?_
     rotate_left
     ·intro w'
      go_simp
      with_reducible rfl
     rotate_left
     ·simp only [ap]
      rfl
     refine pu 9 (N:=some 100) (v:=?_) (a':=?_) (lb 12 919) HT_ (by kernel_rfl) rfl rfl rfl (fun _ _ _ h=>h) ?_ ?_ ?_
     rotate_left
     ·intro w'
      go_simp
      with_reducible rfl
     rotate_left
     ·simp only [ap]
      rfl
     refine join_ (σ:=Value × Value) 3 (lb 12 959) (fun s_=>[(94,s_.1),(96,s_.2)]) (fun s_ w'=>(Kd.R (Kd.int .i64) 3 w' w.heap.size (fun k_=>some k_ ≠ (s_.2 : Value).ownBlock ∧ some k_ ≠ (.slice (some ad209) t206.length co39 : Value).ownBlock ∧ some k_ ≠ (u7 : Value).ownBlock ∧ some k_ ≠ (.slice (some ad212) x8_3.length co52 : Value).ownBlock) s_.1 t217) ∧ (Kd.R (Kd.int .i64) 3 w' w.heap.size (fun k_=>some k_ ≠ (s_.1 : Value).ownBlock ∧ some k_ ≠ (.slice (some ad209) t206.length co39 : Value).ownBlock ∧ some k_ ≠ (u7 : Value).ownBlock ∧ some k_ ≠ (.slice (some ad212) x8_3.length co52 : Value).ownBlock) s_.2 y220) ∧ (Kd.R (Kd.int .i64) 3 w' w.heap.size (fun k_=>some k_ ≠ (s_.1 : Value).ownBlock ∧ some k_ ≠ (s_.2 : Value).ownBlock ∧ some k_ ≠ (u7 : Value).ownBlock ∧ some k_ ≠ (.slice (some ad212) x8_3.length co52 : Value).ownBlock) (.slice (some ad209) t206.length co39) t206) ∧ (Kd.R (Kd.int .i64) 3 w' w.heap.size (fun k_=>some k_ ≠ (s_.1 : Value).ownBlock ∧ some k_ ≠ (s_.2 : Value).ownBlock ∧ some k_ ≠ (.slice (some ad209) t206.length co39 : Value).ownBlock ∧ some k_ ≠ (.slice (some ad212) x8_3.length co52 : Value).ownBlock) u7 x7_2) ∧ (Kd.R (Kd.int .i64) 3 w' w.heap.size (fun k_=>some k_ ≠ (s_.1 : Value).ownBlock ∧ some k_ ≠ (s_.2 : Value).ownBlock ∧ some k_ ≠ (.slice (some ad209) t206.length co39 : Value).ownBlock ∧ some k_ ≠ (u7 : Value).ownBlock) (.slice (some ad212) x8_3.length co52) x8_3) ∧ (w'.heap[gb184]? = some (.cells #[.int .i64 a0_0,.slice (some ad210) l0_1.length c0_1,.slice (some ad211) l0_2.length c0_2] 27 (0,0))) ∧ (Below w.heap.size w w')) ?_ ?_
     rotate_left
     ·intro hCont
      refine two_ (i:=3) (j:=5) (Ni:=some 94) (Nj:=some 96) (lb 12 927) (lb 12 951) rfl rfl rfl rfl (two_of HT_.out (by kernel_rfl)) (by decide) (by decide) (fun K hK=>?_) (fun K hK=>?_)
      rotate_left
      ·skip
       refine R_lit_step (Kd.int .i64) _ 3 ?hg (N:=96) ?hd (xs:=([(wrap64 ((rd l0_1 x14_3) + (wrap64 ((rd l0_2 x14_3) * a1))))] : List Int)) (inner:=[.int .i64 (wrap64 ((rd l0_1 x14_3) + (wrap64 ((rd l0_2 x14_3) * a1))))]) (ok:=fun _=>True) (okp:=fun _=>True) ?hr ?hp (fun _ hk=>hk) trivial (Below.refl _ _) (Nat.le_refl _) (by simp) ?_;(case hd=>rfl);(case hg=>rfl);(case hr=>first|(go_simp;done)|(go_simp;rfl));(case hp=>exact (Reps.one (show Kd.M (Kd.int .i64) _ _ _ (wrap64 ((rd l0_1 x14_3) + (wrap64 ((rd l0_2 x14_3) * a1)))) [.int .i64 (wrap64 ((rd l0_1 x14_3) + (wrap64 ((rd l0_2 x14_3) * a1))))] from rfl) (Reps.none _ _)))
       intro v221 w56 ho57 hb hg_ hnew_
       clear hg_ hnew_
       (first|rw [← Ny220.out] at ho57|(simp only [Int.reduceToNat] at ho57;rw [← Ny220.out] at ho57))
       have n0_:=Aside0.mk (R_elder' (rm HO_7.out) (R_base ho57) hb)
       have n1_:=Aside0.mk (R_elder' (rm HO_8.out) (R_base ho57) hb)
       have n2_:=Aside0.mk (R_elder' (rm HO_13.out) (R_base ho57) hb)
       have n3_:=Aside0.mk (R_lower (R_new' (R_new' (R_new' ho57 (R_lt (rm HO_7.out))) (R_lt (rm HO_8.out))) (R_lt (rm HO_13.out))) (below_size (h1 HB.out GE184.out)))
       have n4_:=Aside0.mk (blk_below (g:=gb184) (o:=.cells #[.int .i64 a0_0,.slice (some ad210) l0_1.length c0_1,.slice (some ad211) l0_2.length c0_2] 27 (0,0)) (bm BK184.out) hb)
       have n5_:=Aside0.mk (C_below (by repeat (first|(with_reducible exact HR216.out)|(with_reducible refine C_alloc ?_ _)|(with_reducible refine C_drewN ?_ _)|(with_reducible refine C_drew ?_)|exact HR216.out)) hb)
       have n6_:=Aside0.mk (C_below (by repeat (first|(with_reducible exact HR229.out)|(with_reducible refine C_alloc ?_ _)|(with_reducible refine C_drewN ?_ _)|(with_reducible refine C_drew ?_)|exact HR229.out)) hb)
       have n7_:=Aside0.mk (below_step (h1 HB.out GE184.out) hb)
       clear HO_7
       clear HO_8
       clear HO_13
       clear BK184
       clear HR216
       clear HR229
       clear HB
       have HO_7:=n0_
       have HO_8:=n1_
       have HO_13:=n2_
       have HO222:=n3_
       have BK184:=n4_
       have HR216:=n5_
       have HR229:=n6_
       have HB:=n7_
       clear n0_ n1_ n2_ n3_ n4_ n5_ n6_ n7_
       clear hb ho57
       refine hK.out _ _ trivial (fun hHeld=>?_)
       clear hK K
       refine norm_ (a':=?_) ?_ ?_
       rotate_left
       ·show Act.put _ (some 96) _ = _
        simp only [ap]
        rfl
       refine one_ (i:=3) (N:=some 94) (lb 12 959) rfl rfl (one_of HT_.out (by kernel_rfl)) (by decide) (fun K hK=>?_)
       refine goes_ Try.func53 (by kernel_rfl) rfl #[.slice (some ad212) y213.length co52] (by rfl) rfl rfl (by (try simp only [List.map_toArray,List.map_cons,List.map_nil]);first|done|rfl|(simp only [List.length_drop,List.length_take];rfl)) ?_
       with_reducible refine (spec_l1Own.calls _ _ y213 t217 _ ?side1 ?side2 A47.out).mono ?_
       (case side1=>repeat (first|exact (by repeat (first|(with_reducible exact HR216.out)|(with_reducible refine C_alloc ?_ _)|(with_reducible refine C_drewN ?_ _)|(with_reducible refine C_drew ?_)|exact HR216.out))|(with_reducible refine C_alloc ?_ _)|(with_reducible refine C_drewN ?_ _)|(with_reducible refine C_drew ?_)))
       (case side2=>exact HC216.out)
       rintro e w58 ⟨v218,rfl,ho0,hb⟩
       refine ⟨_,rfl,?_⟩
       have n0_:=Aside0.mk (R_elder' (rm HO_7.out) (R_base ho0) hb)
       have n1_:=Aside0.mk (R_elder' (rm HO_8.out) (R_base ho0) hb)
       have n2_:=Aside0.mk (R_elder' (rm HO_13.out) (R_base ho0) hb)
       have n3_:=Aside0.mk (R_elder' (rm HO222.out) (R_base ho0) hb)
       have n4_:=Aside0.mk (R_lower (R_new' (R_new' (R_new' (R_new' ho0 (R_lt (rm HO_7.out))) (R_lt (rm HO_8.out))) (R_lt (rm HO_13.out))) (R_lt (rm HO222.out))) (below_size (h1 HB.out GE184.out)))
       have n5_:=Aside0.mk (blk_below (g:=gb184) (o:=.cells #[.int .i64 a0_0,.slice (some ad210) l0_1.length c0_1,.slice (some ad211) l0_2.length c0_2] 27 (0,0)) (bm BK184.out) hb)
       have n6_:=Aside0.mk (C_below (by repeat (first|(with_reducible exact HR216.out)|(with_reducible refine C_alloc ?_ _)|(with_reducible refine C_drewN ?_ _)|(with_reducible refine C_drew ?_)|exact HR216.out)) hb)
       have n7_:=Aside0.mk (C_below (by repeat (first|(with_reducible exact HR229.out)|(with_reducible refine C_alloc ?_ _)|(with_reducible refine C_drewN ?_ _)|(with_reducible refine C_drew ?_)|exact HR229.out)) hb)
       have n8_:=Aside0.mk (below_step (h1 HB.out GE184.out) hb)
       clear HO_7
       clear HO_8
       clear HO_13
       clear HO222
       clear BK184
       clear HR216
       clear HR229
       clear HB
       have HO_7:=n0_
       have HO_8:=n1_
       have HO_13:=n2_
       have HO222:=n3_
       have HO219:=n4_
       have BK184:=n5_
       have HR216:=n6_
       have HR229:=n7_
       have HB:=n8_
       clear n0_ n1_ n2_ n3_ n4_ n5_ n6_ n7_ n8_
       (try clear hb)
       (try clear hb2)
       (try clear hk)
       (try clear hi)
       (try clear ho0)
       refine hK.out _ _ trivial (fun hHeld=>?_)
       clear hK K
       refine norm_ (a':=?_) ?_ ?_
       rotate_left
       ·show Act.put _ (some 94) _ = _
        simp only [ap]
        rfl
       exact norm_ (by simp only [putAll,Act.put,List.setIfInBounds_toArray,List.set_cons_zero,List.set_cons_succ]) (hCont (v218,v221) _ ⟨(rm (R_mono HO219.out (fun _ hk=>⟨hk.2,⟨hk.1.2,⟨hk.1.1.1.2,hk.1.1.2⟩⟩⟩))),(rm (R_mono HO222.out (fun _ hk=>⟨hk.2,⟨hk.1.2,⟨hk.1.1.1.2,hk.1.1.2⟩⟩⟩))),(rm (R_mono HO_13.out (fun _ hk=>⟨hk.2,⟨hk.1.2,⟨hk.1.1.1,hk.1.1.2⟩⟩⟩))),(rm (R_mono HO_7.out (fun _ hk=>⟨hk.2,⟨hk.1.2,⟨hk.1.1.2,hk.1.1.1⟩⟩⟩))),(rm (R_mono HO_8.out (fun _ hk=>⟨hk.2,⟨hk.1.2,⟨hk.1.1.2,hk.1.1.1⟩⟩⟩))),(bm BK184.out),(h1 HB.out GE184.out)⟩)
      skip
      refine goes_ Try.func53 (by kernel_rfl) rfl #[.slice (some ad212) y213.length co52] (by rfl) rfl rfl (by (try simp only [List.map_toArray,List.map_cons,List.map_nil]);first|done|rfl|(simp only [List.length_drop,List.length_take];rfl)) ?_
      with_reducible refine (spec_l1Own.calls _ _ y213 t217 _ ?side1 ?side2 A47.out).mono ?_
      (case side1=>repeat (first|exact (by repeat (first|(with_reducible exact HR216.out)|(with_reducible refine C_alloc ?_ _)|(with_reducible refine C_drewN ?_ _)|(with_reducible refine C_drew ?_)|exact HR216.out))|(with_reducible refine C_alloc ?_ _)|(with_reducible refine C_drewN ?_ _)|(with_reducible refine C_drew ?_)))
      (case side2=>exact HC216.out)
      rintro e w56 ⟨v218,rfl,ho0,hb⟩
      refine ⟨_,rfl,?_⟩
      have n0_:=Aside0.mk (R_elder' (rm HO_7.out) (R_base ho0) hb)
      have n1_:=Aside0.mk (R_elder' (rm HO_8.out) (R_base ho0) hb)
      have n2_:=Aside0.mk (R_elder' (rm HO_13.out) (R_base ho0) hb)
      have n3_:=Aside0.mk (R_lower (R_new' (R_new' (R_new' ho0 (R_lt (rm HO_7.out))) (R_lt (rm HO_8.out))) (R_lt (rm HO_13.out))) (below_size (h1 HB.out GE184.out)))
      have n4_:=Aside0.mk (blk_below (g:=gb184) (o:=.cells #[.int .i64 a0_0,.slice (some ad210) l0_1.length c0_1,.slice (some ad211) l0_2.length c0_2] 27 (0,0)) (bm BK184.out) hb)
      have n5_:=Aside0.mk (C_below (by repeat (first|(with_reducible exact HR216.out)|(with_reducible refine C_alloc ?_ _)|(with_reducible refine C_drewN ?_ _)|(with_reducible refine C_drew ?_)|exact HR216.out)) hb)
      have n6_:=Aside0.mk (C_below (by repeat (first|(with_reducible exact HR229.out)|(with_reducible refine C_alloc ?_ _)|(with_reducible refine C_drewN ?_ _)|(with_reducible refine C_drew ?_)|exact HR229.out)) hb)
      have n7_:=Aside0.mk (below_step (h1 HB.out GE184.out) hb)
      clear HO_7
      clear HO_8
      clear HO_13
      clear BK184
      clear HR216
      clear HR229
      clear HB
      have HO_7:=n0_
      have HO_8:=n1_
      have HO_13:=n2_
      have HO219:=n3_
      have BK184:=n4_
      have HR216:=n5_
      have HR229:=n6_
      have HB:=n7_
      clear n0_ n1_ n2_ n3_ n4_ n5_ n6_ n7_
      (try clear hb)
      (try clear hb2)
      (try clear hk)
      (try clear hi)
      (try clear ho0)
      refine hK.out _ _ trivial (fun hHeld=>?_)
      clear hK K
      refine norm_ (a':=?_) ?_ ?_
      rotate_left
      ·show Act.put _ (some 94) _ = _
       simp only [ap]
       rfl
      refine one_ (i:=5) (N:=some 96) (lb 12 959) rfl rfl (one_of HT_.out (by kernel_rfl)) (by decide) (fun K hK=>?_)
      refine R_lit_step (Kd.int .i64) _ 3 ?hg (N:=96) ?hd (xs:=([(wrap64 ((rd l0_1 x14_3) + (wrap64 ((rd l0_2 x14_3) * a1))))] : List Int)) (inner:=[.int .i64 (wrap64 ((rd l0_1 x14_3) + (wrap64 ((rd l0_2 x14_3) * a1))))]) (ok:=fun _=>True) (okp:=fun _=>True) ?hr ?hp (fun _ hk=>hk) trivial (Below.refl _ _) (Nat.le_refl _) (by simp) ?_;(case hd=>rfl);(case hg=>rfl);(case hr=>first|(go_simp;done)|(go_simp;rfl));(case hp=>exact (Reps.one (show Kd.M (Kd.int .i64) _ _ _ (wrap64 ((rd l0_1 x14_3) + (wrap64 ((rd l0_2 x14_3) * a1)))) [.int .i64 (wrap64 ((rd l0_1 x14_3) + (wrap64 ((rd l0_2 x14_3) * a1))))] from rfl) (Reps.none _ _)))
      intro v221 w57 ho58 hb hg_ hnew_
      clear hg_ hnew_
      (first|rw [← Ny220.out] at ho58|(simp only [Int.reduceToNat] at ho58;rw [← Ny220.out] at ho58))
      have n0_:=Aside0.mk (R_elder' (rm HO_7.out) (R_base ho58) hb)
      have n1_:=Aside0.mk (R_elder' (rm HO_8.out) (R_base ho58) hb)
      have n2_:=Aside0.mk (R_elder' (rm HO_13.out) (R_base ho58) hb)
      have n3_:=Aside0.mk (R_elder' (rm HO219.out) (R_base ho58) hb)
      have n4_:=Aside0.mk (R_lower (R_new' (R_new' (R_new' (R_new' ho58 (R_lt (rm HO_7.out))) (R_lt (rm HO_8.out))) (R_lt (rm HO_13.out))) (R_lt (rm HO219.out))) (below_size (h1 HB.out GE184.out)))
      have n5_:=Aside0.mk (blk_below (g:=gb184) (o:=.cells #[.int .i64 a0_0,.slice (some ad210) l0_1.length c0_1,.slice (some ad211) l0_2.length c0_2] 27 (0,0)) (bm BK184.out) hb)
      have n6_:=Aside0.mk (C_below (by repeat (first|(with_reducible exact HR216.out)|(with_reducible refine C_alloc ?_ _)|(with_reducible refine C_drewN ?_ _)|(with_reducible refine C_drew ?_)|exact HR216.out)) hb)
      have n7_:=Aside0.mk (C_below (by repeat (first|(with_reducible exact HR229.out)|(with_reducible refine C_alloc ?_ _)|(with_reducible refine C_drewN ?_ _)|(with_reducible refine C_drew ?_)|exact HR229.out)) hb)
      have n8_:=Aside0.mk (below_step (h1 HB.out GE184.out) hb)
      clear HO_7
      clear HO_8
      clear HO_13
      clear HO219
      clear BK184
      clear HR216
      clear HR229
      clear HB
      have HO_7:=n0_
      have HO_8:=n1_
      have HO_13:=n2_
      have HO219:=n3_
      have HO222:=n4_
      have BK184:=n5_
      have HR216:=n6_
      have HR229:=n7_
      have HB:=n8_
      clear n0_ n1_ n2_ n3_ n4_ n5_ n6_ n7_ n8_
      clear hb ho58
      refine hK.out _ _ trivial (fun hHeld=>?_)
      clear hK K
      refine norm_ (a':=?_) ?_ ?_
      rotate_left
      ·show Act.put _ (some 96) _ = _
       simp only [ap]
       rfl
      exact norm_ (by simp only [putAll,Act.put,List.setIfInBounds_toArray,List.set_cons_zero,List.set_cons_succ]) (hCont (v218,v221) _ ⟨(rm (R_mono HO219.out (fun _ hk=>⟨hk.2,⟨hk.1.2,⟨hk.1.1.1.2,hk.1.1.2⟩⟩⟩))),(rm (R_mono HO222.out (fun _ hk=>⟨hk.2,⟨hk.1.2,⟨hk.1.1.1.2,hk.1.1.2⟩⟩⟩))),(rm (R_mono HO_13.out (fun _ hk=>⟨hk.1.2,⟨hk.2,⟨hk.1.1.1,hk.1.1.2⟩⟩⟩))),(rm (R_mono HO_7.out (fun _ hk=>⟨hk.1.2,⟨hk.2,⟨hk.1.1.2,hk.1.1.1⟩⟩⟩))),(rm (R_mono HO_8.out (fun _ hk=>⟨hk.1.2,⟨hk.2,⟨hk.1.1.2,hk.1.1.1⟩⟩⟩))),(bm BK184.out),(h1 HB.out GE184.out)⟩)
     rintro ⟨v218,v221⟩ w59 ⟨h0_,h1_,h2_,h3_,h4_,h5_,h6_⟩
     have n0_ : Aside0 (Kd.R (Kd.int .i64) 3 w59 w.heap.size (fun k_=>some k_ ≠ (v221 : Value).ownBlock ∧ some k_ ≠ (.slice (some ad209) t206.length co39 : Value).ownBlock ∧ some k_ ≠ (u7 : Value).ownBlock ∧ some k_ ≠ (.slice (some ad212) x8_3.length co52 : Value).ownBlock) v218 t217):=⟨h0_⟩
     have n1_ : Aside0 (Kd.R (Kd.int .i64) 3 w59 w.heap.size (fun k_=>some k_ ≠ (v218 : Value).ownBlock ∧ some k_ ≠ (.slice (some ad209) t206.length co39 : Value).ownBlock ∧ some k_ ≠ (u7 : Value).ownBlock ∧ some k_ ≠ (.slice (some ad212) x8_3.length co52 : Value).ownBlock) v221 y220):=⟨h1_⟩
     have n2_ : Aside0 (Kd.R (Kd.int .i64) 3 w59 w.heap.size (fun k_=>some k_ ≠ (v218 : Value).ownBlock ∧ some k_ ≠ (v221 : Value).ownBlock ∧ some k_ ≠ (u7 : Value).ownBlock ∧ some k_ ≠ (.slice (some ad212) x8_3.length co52 : Value).ownBlock) (.slice (some ad209) t206.length co39) t206):=⟨h2_⟩
     have n3_ : Aside0 (Kd.R (Kd.int .i64) 3 w59 w.heap.size (fun k_=>some k_ ≠ (v218 : Value).ownBlock ∧ some k_ ≠ (v221 : Value).ownBlock ∧ some k_ ≠ (.slice (some ad209) t206.length co39 : Value).ownBlock ∧ some k_ ≠ (.slice (some ad212) x8_3.length co52 : Value).ownBlock) u7 x7_2):=⟨h3_⟩
     have n4_ : Aside0 (Kd.R (Kd.int .i64) 3 w59 w.heap.size (fun k_=>some k_ ≠ (v218 : Value).ownBlock ∧ some k_ ≠ (v221 : Value).ownBlock ∧ some k_ ≠ (.slice (some ad209) t206.length co39 : Value).ownBlock ∧ some k_ ≠ (u7 : Value).ownBlock) (.slice (some ad212) x8_3.length co52) x8_3):=⟨h4_⟩
     have n5_ : Aside0 (w59.heap[gb184]? = some (.cells #[.int .i64 a0_0,.slice (some ad210) l0_1.length c0_1,.slice (some ad211) l0_2.length c0_2] 27 (0,0))):=⟨h5_⟩
     have n6_ : Aside0 (Below w.heap.size w w59):=⟨h6_⟩
     clear HO_7
     clear HO_8
     clear HO_13
     clear BK184
     clear HB
     clear h0_ h1_ h2_ h3_ h4_ h5_ h6_
     have HO219:=n0_
     have HO222:=n1_
     have HO_13:=n2_
     have HO_7:=n3_
     have HO_8:=n4_
     have BK184:=n5_
     have HB:=n6_
     clear n0_ n1_ n2_ n3_ n4_ n5_ n6_
     have hHeld:=trivial
     obtain ⟨Ao61,co61,eo61⟩:=R_slice HO222.out
     (first|subst eo61|(injection eo61 with f1_ f2_ f3_;have f4_:=f1_.symm;have f5_:=f3_.symm;clear f1_ f2_ f3_;subst f4_;subst f5_))
     refine norm_ (a':=?_) ?_ ?_
     rotate_left
     ·simp only [putAll,Act.put,List.setIfInBounds_toArray,List.set_cons_zero,List.set_cons_succ]
      rfl
     refine one_ (i:=6) (N:=some 97) (lb 12 1023) rfl rfl (one_of HT_.out (by kernel_rfl)) (by decide) (fun K hK=>?_)
     refine R_append_rows_step (Kd.int .i64) (w0:=w) w.heap.size (by rfl) (.tmp 94) (.tmp 96) 22 3 (.int .i64 0) 8 rfl Try.underlying22 info3 rfl (by decide) (by omega) v218 t217 y220 _ _ _ (fun k_=>some k_ ≠ (u7 : Value).ownBlock ∧ some k_ ≠ (.slice (some ad212) x8_3.length co52 : Value).ownBlock ∧ some k_ ≠ (.slice (some ad209) t206.length co39 : Value).ownBlock ∧ some k_ ≠ (.slice Ao61 y220.length co61 : Value).ownBlock) (fun _=>False) rfl rfl ?aO ?aR (fun _ _ h=>h) (fun _ h=>h.elim) ?aF ?aB ?aS ?aL ?_
     (case aR=>exact cm (R_reads' HO222.out).2.2)
     (case aB=>exact (h1 HB.out GE184.out))
     (case aF=>exact (fun k_ hk=>⟨Kd.fresh' (R_lt (rm HO_7.out)) k_ hk,Kd.fresh' (R_lt (rm HO_8.out)) k_ hk,Kd.fresh' (R_lt (rm HO_13.out)) k_ hk,Kd.fresh' (R_lt (rm HO222.out)) k_ hk⟩))
     (case aO=>exact (rm (R_mono HO219.out (fun _ hk=>⟨hk.2.2.1,⟨hk.2.2.2,⟨hk.2.1,hk.1⟩⟩⟩))))
     (case aS=>exact (below_size (h1 HB.out GE184.out)))
     (case aL=>have:=LMc48.out;omega)
     intro v224 w60 ho hb hg hat
     rw [← Ny223.out] at ho
     have n0_:=Aside0.mk (R_after (ok:=(fun k_=>some k_ ≠ (.slice (some ad212) x8_3.length co52 : Value).ownBlock ∧ some k_ ≠ (.slice (some ad209) t206.length co39 : Value).ownBlock ∧ some k_ ≠ (.slice Ao61 y220.length co61 : Value).ownBlock)) (rm (R_mono HO_7.out (fun _ hk=>⟨⟨hk.2.2.2,⟨hk.2.2.1,hk.2.1⟩⟩,hk.1⟩))) hg hat)
     have n1_:=Aside0.mk (R_after (ok:=(fun k_=>some k_ ≠ (u7 : Value).ownBlock ∧ some k_ ≠ (.slice (some ad209) t206.length co39 : Value).ownBlock ∧ some k_ ≠ (.slice Ao61 y220.length co61 : Value).ownBlock)) (rm (R_mono HO_8.out (fun _ hk=>⟨⟨hk.2.2.2,⟨hk.2.2.1,hk.2.1⟩⟩,hk.1⟩))) hg hat)
     have n2_:=Aside0.mk (R_after (ok:=(fun k_=>some k_ ≠ (u7 : Value).ownBlock ∧ some k_ ≠ (.slice (some ad212) x8_3.length co52 : Value).ownBlock ∧ some k_ ≠ (.slice Ao61 y220.length co61 : Value).ownBlock)) (rm (R_mono HO_13.out (fun _ hk=>⟨⟨hk.2.2.1,⟨hk.2.2.2,hk.2.1⟩⟩,hk.1⟩))) hg hat)
     have n3_:=Aside0.mk (blk_grown (g:=gb184) (o:=.cells #[.int .i64 a0_0,.slice (some ad210) l0_1.length c0_1,.slice (some ad211) l0_2.length c0_2] 27 (0,0)) (bm BK184.out) hg (R_ne HO219.out BK184.out (by decide)))
     have n4_:=Aside0.mk (R_after (ok:=(fun k_=>some k_ ≠ (u7 : Value).ownBlock ∧ some k_ ≠ (.slice (some ad212) x8_3.length co52 : Value).ownBlock ∧ some k_ ≠ (.slice (some ad209) t206.length co39 : Value).ownBlock)) (rm (R_mono HO222.out (fun _ hk=>⟨⟨hk.2.2.1,⟨hk.2.2.2,hk.2.1⟩⟩,hk.1⟩))) hg hat)
     have n5_:=Aside0.mk (hb)
     have n6_:=Aside0.mk (ho)
     clear HO_7
     clear HO_8
     clear HO_13
     clear BK184
     clear HO222
     clear HB
     clear HO219
     have HO_7:=n0_
     have HO_8:=n1_
     have HO_13:=n2_
     have BK184:=n3_
     have HO222:=n4_
     have HB:=n5_
     have HO225:=n6_
     clear n0_ n1_ n2_ n3_ n4_ n5_ n6_
     clear ho hb hg hat
     refine hK.out _ _ trivial (fun hHeld=>?_)
     clear hK K
     refine norm_ (a':=?_) ?_ ?_
     rotate_left
     ·show Act.put _ (some 97) _ = _
      simp only [ap]
      rfl
     refine one_ (i:=10) (N:=some 101) (lb 12 2047) rfl rfl (one_of HT_.out (by kernel_rfl)) (by decide) (fun K hK=>?_)
     refine R_append_rows_step (Kd.int .i64) (w0:=w) w.heap.size (by rfl) (.tmp 97) (.tmp 100) 22 3 (.int .i64 0) 8 rfl Try.underlying22 info3 rfl (by decide) (by omega) v224 y223 y226 _ _ _ (fun k_=>some k_ ≠ (u7 : Value).ownBlock ∧ some k_ ≠ (.slice (some ad212) x8_3.length co52 : Value).ownBlock ∧ some k_ ≠ (.slice (some ad209) t206.length co39 : Value).ownBlock ∧ some k_ ≠ (.slice Ao61 y220.length co61 : Value).ownBlock) (fun _=>False) rfl rfl ?aO ?aR (fun _ _ h=>h) (fun _ h=>h.elim) ?aF ?aB ?aS ?aL ?_
     (case aR=>repeat (first|exact ((show Kd.C (Kd.int .i64) _ A55 y226.length y226 from by rw [Ny226.out,KA55.out];refine C_drop (m:=(x16_4 : Int).toNat) (c:=co52) ?cA KL55.out ((R_reads' HO_8.out).2.1);(case cA=>exact ((R_reads' (rm HO_8.out)).2.2))))|(with_reducible refine C_alloc ?_ _)|(with_reducible refine C_drewN ?_ _)|(with_reducible refine C_drew ?_)))
     (case aB=>exact (h1 HB.out GE184.out))
     (case aF=>exact (fun k_ hk=>⟨Kd.fresh' (R_lt (rm HO_7.out)) k_ hk,Kd.fresh' (R_lt (rm HO_8.out)) k_ hk,Kd.fresh' (R_lt (rm HO_13.out)) k_ hk,Kd.fresh' (R_lt (rm HO222.out)) k_ hk⟩))
     (case aO=>exact (rm HO225.out))
     (case aS=>exact (below_size (h1 HB.out GE184.out)))
     (case aL=>have:=LMc51.out;omega)
     intro v231 w62 ho hb hg hat
     rw [← Ny230.out] at ho
     have n0_:=Aside0.mk (R_after (ok:=(fun k_=>some k_ ≠ (.slice (some ad212) x8_3.length co52 : Value).ownBlock ∧ some k_ ≠ (.slice (some ad209) t206.length co39 : Value).ownBlock ∧ some k_ ≠ (.slice Ao61 y220.length co61 : Value).ownBlock)) (rm HO_7.out) hg hat)
     have n1_:=Aside0.mk (R_after (ok:=(fun k_=>some k_ ≠ (u7 : Value).ownBlock ∧ some k_ ≠ (.slice (some ad209) t206.length co39 : Value).ownBlock ∧ some k_ ≠ (.slice Ao61 y220.length co61 : Value).ownBlock)) (rm HO_8.out) hg hat)
     have n2_:=Aside0.mk (R_after (ok:=(fun k_=>some k_ ≠ (u7 : Value).ownBlock ∧ some k_ ≠ (.slice (some ad212) x8_3.length co52 : Value).ownBlock ∧ some k_ ≠ (.slice Ao61 y220.length co61 : Value).ownBlock)) (rm HO_13.out) hg hat)
     have n3_:=Aside0.mk (blk_grown (g:=gb184) (o:=.cells #[.int .i64 a0_0,.slice (some ad210) l0_1.length c0_1,.slice (some ad211) l0_2.length c0_2] 27 (0,0)) (bm BK184.out) hg (R_ne HO225.out BK184.out (by decide)))
     have n4_:=Aside0.mk (R_after (ok:=(fun k_=>some k_ ≠ (u7 : Value).ownBlock ∧ some k_ ≠ (.slice (some ad212) x8_3.length co52 : Value).ownBlock ∧ some k_ ≠ (.slice (some ad209) t206.length co39 : Value).ownBlock)) (rm HO222.out) hg hat)
     have n5_:=Aside0.mk (hb)
     have n6_:=Aside0.mk (ho)
     clear HO_7
     clear HO_8
     clear HO_13
     clear BK184
     clear HO222
     clear HB
     clear HO225
     have HO_7:=n0_
     have HO_8:=n1_
     have HO_13:=n2_
     have BK184:=n3_
     have HO222:=n4_
     have HB:=n5_
     have HO232:=n6_
     clear n0_ n1_ n2_ n3_ n4_ n5_ n6_
     clear ho hb hg hat
     refine hK.out _ _ trivial (fun hHeld=>?_)
     clear hK K
     refine norm_ (a':=?_) ?_ ?_
     rotate_left
     ·show Act.put _ (some 101) _ = _
      simp only [ap]
      rfl
     refine pu 11 (N:=some 8) (v:=?_) (a':=?_) (lb 12 4095) HT_ (by kernel_rfl) rfl rfl rfl (fun _ _ _ h=>h) ?_ ?_ ?_
     rotate_left
     ·intro w'
      go_simp
      with_reducible rfl
     rotate_left
     ·simp only [ap]
      rfl
     refine done_ (done_of HT_.out (by kernel_rfl)) ?_
     try go_wp2
     go_roundg k4
     case measure=>have:=HJ2.out;have:=HK2.out;have:=HK3.out;have:=HK4.out;omega
     case rel=>exact ⟨(y230),(wrap64 (x14_3 + 1)),(by first|rfl|(simp;done)|(simp [*];done)),H',⟨by have:=HJ2.out;have:=HK2.out;have:=HK3.out;have:=HK4.out;omega⟩,⟨rm (R_mono HO_7.out (fun _ hk=>⟨hk.2,hk.1.2.1⟩))⟩,⟨rm (R_mono HO232.out (fun _ hk=>⟨hk.1,hk.2.2.1⟩))⟩,⟨rm (R_mono HO_13.out (fun _ hk=>⟨hk.1.1,hk.2⟩))⟩,⟨bm BK184.out⟩,⟨h1 HB.out GE184.out⟩⟩


end
end Go.Proofs.Ytciihopkgblpkaa.QFnExactBeadsAt
