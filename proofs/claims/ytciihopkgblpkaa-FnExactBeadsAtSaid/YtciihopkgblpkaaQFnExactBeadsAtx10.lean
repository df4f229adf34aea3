/- Functions that the law FnExactBeadsAt comes to, as Lean functions, with the proof that the Go code does what they say: written by a program of this session over the kit's print. No condition but those named. -/
import Derived.Test.YtciihopkgblpkaaQFnExactBeadsAtx0
import Derived.Test.YtciihopkgblpkaaQFnExactBeadsAtx6
import Derived.Test.YtciihopkgblpkaaQFnExactBeadsAtx7
import Derived.Test.YtciihopkgblpkaaQFnExactBeadsAtx9
namespace Go.Proofs.Ytciihopkgblpkaa.QFnExactBeadsAt
open Go.RowKit Go.Proofs.YtciihopkgblpkaaW.PrintWords Go.Proofs.YtciihopkgblpkaaW.PrintLast Go.Proofs.YtciihopkgblpkaaW.PrintMore Go.Proofs.Ytciihopkgblpkaa.Short
attribute [local go_sem] max2_int min2_int max_two min_two max_three min_three max_four min_four   -- for this text's walks alone
set_option linter.unusedVariables false
set_option linter.unusedSimpArgs false

/-! ### impl_BeadsAt: function 32 -/
section
open Kd
mutual
def impl_BeadsAt.j0 : Nat → Int → Bool → Int → List Int → List Int → Option (List Int × List Int × Bool)
 | 0,_,_,_,_,_=>none
 | k + 1,x1,x21,x331000,x331001,x331002=>if x21 = true then (some (([] : List Int),([] : List Int),false)) else ((impl_Wire_falls.f k x331000 x331001 x331002).bind fun bt338=>(impl_BeadsAt.l0 k x1 (([] : List Int)) (([] : List Int)) bt338.1 (bt338.1.length : Int) 0 x331000 x331001 x331002))
def impl_BeadsAt.l0 : Nat → Int → List Int → List Int → List Int → Int → Int → Int → List Int → List Int → Option (List Int × List Int × Bool)
 | 0,_,_,_,_,_,_,_,_,_=>none
 | k + 1,x1,x7,x8,x29,x30,x31,x331000,x331001,x331002=>if x31 < x30 then (if 0 ≤ x31 then (if x31 < (x29.length : Int) then (if (rd x29 x31) ≥ x1 then (if x7.length < 17592186044416 then (impl_BeadsAt.l0 k x1 (x7 ++ [x31]) x8 x29 x30 (wrap64 (x31 + 1)) x331000 x331001 x331002) else (none)) else (impl_BeadsAt.l0 k x1 x7 x8 x29 x30 (wrap64 (x31 + 1)) x331000 x331001 x331002)) else (none)) else (none)) else ((impl_Wire_shades.f k x331000 x331001 x331002).bind fun t348=>(impl_BeadsAt.l1 k x1 x7 x8 t348 (t348.length : Int) 0 x331000 x331001 x331002))
def impl_BeadsAt.l1 : Nat → Int → List Int → List Int → List Int → Int → Int → Int → List Int → List Int → Option (List Int × List Int × Bool)
 | 0,_,_,_,_,_,_,_,_,_=>none
 | k + 1,x1,x7,x8,x45,x46,x47,x331000,x331001,x331002=>if x47 < x46 then (if 0 ≤ x47 then (if x47 < (x45.length : Int) then (if (rd x45 x47) ≥ x1 then (if x47 < (x331001.length : Int) then (if x47 < (x331002.length : Int) then (if x8.length < 17592186044416 then (impl_BeadsAt.l1 k x1 x7 (x8 ++ [wrap64 ((rd x331001 x47) + (wrap64 ((rd x331002 x47) * x1)))]) x45 x46 (wrap64 (x47 + 1)) x331000 x331001 x331002) else (none)) else (none)) else (none)) else (impl_BeadsAt.l1 k x1 x7 x8 x45 x46 (wrap64 (x47 + 1)) x331000 x331001 x331002)) else (none)) else (none)) else ((slices_Sort_int_int.f k x8).bind fun t357=>(some (x7,t357,true)))
end
def impl_BeadsAt.f (k : Nat) (a0_0 : Int) (l0_1 : List Int) (l0_2 : List Int) (a1 : Int) : Option (List Int × List Int × Bool):=(impl_IsWire.f k a0_0 l0_1 l0_2).bind fun t331=>(if t331 = true then (impl_BeadsAt.j0 k a1 (decide (a1 < 0)) a0_0 l0_1 l0_2) else (impl_BeadsAt.j0 k a1 true a0_0 l0_1 l0_2))
theorem impl_BeadsAt.mono_l : ∀ k,(∀ y0 y1 y2 y3 y4,LeO (impl_BeadsAt.j0 k y0 y1 y2 y3 y4) (impl_BeadsAt.j0 (k + 1) y0 y1 y2 y3 y4)) ∧ (∀ y0 y1 y2 y3 y4 y5 y6 y7 y8,LeO (impl_BeadsAt.l0 k y0 y1 y2 y3 y4 y5 y6 y7 y8) (impl_BeadsAt.l0 (k + 1) y0 y1 y2 y3 y4 y5 y6 y7 y8)) ∧ (∀ y0 y1 y2 y3 y4 y5 y6 y7 y8,LeO (impl_BeadsAt.l1 k y0 y1 y2 y3 y4 y5 y6 y7 y8) (impl_BeadsAt.l1 (k + 1) y0 y1 y2 y3 y4 y5 y6 y7 y8))
 | 0=>⟨fun _ _ _ _ _ r h=>by simp [impl_BeadsAt.j0] at h,fun _ _ _ _ _ _ _ _ _ r h=>by simp [impl_BeadsAt.l0] at h,fun _ _ _ _ _ _ _ _ _ r h=>by simp [impl_BeadsAt.l1] at h⟩
 | k + 1=>by
  obtain ⟨ih0,ih1,ih2⟩:=impl_BeadsAt.mono_l k
  refine ⟨?_,?_,?_⟩
  ·intro y0 y1 y2 y3 y4
   unfold impl_BeadsAt.j0
   repeat' first
   | (with_reducible exact ih0 _ _ _ _ _)
   | (with_reducible exact ih1 _ _ _ _ _ _ _ _ _)
   | (with_reducible exact ih2 _ _ _ _ _ _ _ _ _)
   | (with_reducible exact impl_IsWire.mono _ _ _ _)
   | (with_reducible exact impl_Wire_falls.mono _ _ _ _)
   | (with_reducible exact impl_Wire_shades.mono _ _ _ _)
   | (with_reducible exact slices_Sort_int_int.mono _ _)
   | (with_reducible exact LeO.refl _)
   | (with_reducible exact LeO.none _)
   | (with_reducible refine LeO.ite ?_ ?_)
   | (with_reducible refine LeO.bind ?_ (fun _=>?_))
   | exact ih0 _ _ _ _ _
   | exact ih1 _ _ _ _ _ _ _ _ _
   | exact ih2 _ _ _ _ _ _ _ _ _
   | exact impl_IsWire.mono _ _ _ _
   | exact impl_Wire_falls.mono _ _ _ _
   | exact impl_Wire_shades.mono _ _ _ _
   | exact slices_Sort_int_int.mono _ _
   | exact LeO.none _
   | refine LeO.ite ?_ ?_
   | refine LeO.bind ?_ (fun _=>?_)
  ·intro y0 y1 y2 y3 y4 y5 y6 y7 y8
   unfold impl_BeadsAt.l0
   repeat' first
   | (with_reducible exact ih0 _ _ _ _ _)
   | (with_reducible exact ih1 _ _ _ _ _ _ _ _ _)
   | (with_reducible exact ih2 _ _ _ _ _ _ _ _ _)
   | (with_reducible exact impl_IsWire.mono _ _ _ _)
   | (with_reducible exact impl_Wire_falls.mono _ _ _ _)
   | (with_reducible exact impl_Wire_shades.mono _ _ _ _)
   | (with_reducible exact slices_Sort_int_int.mono _ _)
   | (with_reducible exact LeO.refl _)
   | (with_reducible exact LeO.none _)
   | (with_reducible refine LeO.ite ?_ ?_)
   | (with_reducible refine LeO.bind ?_ (fun _=>?_))
   | exact ih0 _ _ _ _ _
   | exact ih1 _ _ _ _ _ _ _ _ _
   | exact ih2 _ _ _ _ _ _ _ _ _
   | exact impl_IsWire.mono _ _ _ _
   | exact impl_Wire_falls.mono _ _ _ _
   | exact impl_Wire_shades.mono _ _ _ _
   | exact slices_Sort_int_int.mono _ _
   | exact LeO.none _
   | refine LeO.ite ?_ ?_
   | refine LeO.bind ?_ (fun _=>?_)
  ·intro y0 y1 y2 y3 y4 y5 y6 y7 y8
   unfold impl_BeadsAt.l1
   repeat' first
   | (with_reducible exact ih0 _ _ _ _ _)
   | (with_reducible exact ih1 _ _ _ _ _ _ _ _ _)
   | (with_reducible exact ih2 _ _ _ _ _ _ _ _ _)
   | (with_reducible exact impl_IsWire.mono _ _ _ _)
   | (with_reducible exact impl_Wire_falls.mono _ _ _ _)
   | (with_reducible exact impl_Wire_shades.mono _ _ _ _)
   | (with_reducible exact slices_Sort_int_int.mono _ _)
   | (with_reducible exact LeO.refl _)
   | (with_reducible exact LeO.none _)
   | (with_reducible refine LeO.ite ?_ ?_)
   | (with_reducible refine LeO.bind ?_ (fun _=>?_))
   | exact ih0 _ _ _ _ _
   | exact ih1 _ _ _ _ _ _ _ _ _
   | exact ih2 _ _ _ _ _ _ _ _ _
   | exact impl_IsWire.mono _ _ _ _
   | exact impl_Wire_falls.mono _ _ _ _
   | exact impl_Wire_shades.mono _ _ _ _
   | exact slices_Sort_int_int.mono _ _
   | exact LeO.none _
   | refine LeO.ite ?_ ?_
   | refine LeO.bind ?_ (fun _=>?_)
theorem impl_BeadsAt.mono : ∀ a0 a1 a2 a3 k,LeO (impl_BeadsAt.f k a0 a1 a2 a3) (impl_BeadsAt.f (k + 1) a0 a1 a2 a3):=by
 intro a0 a1 a2 a3 k
 obtain ⟨ih0,ih1,ih2⟩:=impl_BeadsAt.mono_l k
 unfold impl_BeadsAt.f
 repeat' first
   | (with_reducible exact ih0 _ _ _ _ _)
   | (with_reducible exact ih1 _ _ _ _ _ _ _ _ _)
   | (with_reducible exact ih2 _ _ _ _ _ _ _ _ _)
   | (with_reducible exact impl_IsWire.mono _ _ _ _)
   | (with_reducible exact impl_Wire_falls.mono _ _ _ _)
   | (with_reducible exact impl_Wire_shades.mono _ _ _ _)
   | (with_reducible exact slices_Sort_int_int.mono _ _)
   | (with_reducible exact LeO.refl _)
   | (with_reducible exact LeO.none _)
   | (with_reducible refine LeO.ite ?_ ?_)
   | (with_reducible refine LeO.bind ?_ (fun _=>?_))
   | exact ih0 _ _ _ _ _
   | exact ih1 _ _ _ _ _ _ _ _ _
   | exact ih2 _ _ _ _ _ _ _ _ _
   | exact impl_IsWire.mono _ _ _ _
   | exact impl_Wire_falls.mono _ _ _ _
   | exact impl_Wire_shades.mono _ _ _ _
   | exact slices_Sort_int_int.mono _ _
   | exact LeO.none _
   | refine LeO.ite ?_ ?_
   | refine LeO.bind ?_ (fun _=>?_)
def impl_BeadsAt.T15 : Bool × List (List Nat × List Nat):=(true,[([],[]),([],[]),([1],[1]),([],[]),([2,3],[2,3]),([4],[4]),([],[]),([6],[6]),([],[]),([7,8],[7,8]),([9],[9]),([],[]),([10,11],[10,11]),([5,12],[5,12]),([13],[13]),([0,14],[0,14]),([15,15,0,1,2,3,4,5,6,7,8,9,10,11,12,13,14,15],[0,15])])
def impl_BeadsAt.B15 : List Nat:=[0,0,2,0,14,30,0,64,0,448,960,0,4032,8190,16382,32767,65535]
theorem impl_BeadsAt.tab15 : rtab .any (opsOf Try.f32 15) = impl_BeadsAt.T15:=by kernel_rfl
theorem impl_BeadsAt.bits15 : waitsOk impl_BeadsAt.T15.2 impl_BeadsAt.B15 = true:=by kernel_rfl
set_option maxHeartbeats 8000000 in
set_option maxRecDepth 100000 in
theorem impl_BeadsAt.calls (k : Nat) (a0_0 : Int) (A0_1 : Option Addr) (c0_1 : Nat) (l0_1 : List Int) (A0_2 : Option Addr) (c0_2 : Nat) (l0_2 : List Int) (a1 : Int) (r1 : List Int) (r2 : List Int) (r3 : Bool) (w : World) (hr0_1 : Kd.C (Kd.int .i64) w A0_1 l0_1.length l0_1) (hc0_1 : l0_1.length ≤ c0_1) (hr0_2 : Kd.C (Kd.int .i64) w A0_2 l0_2.length l0_2) (hc0_2 : l0_2.length ≤ c0_2) (h : impl_BeadsAt.f k a0_0 l0_1 l0_2 a1 = some (r1,r2,r3)) :
  Calls Try.prog 32 #[.agg #[.int .i64 a0_0,.slice A0_1 l0_1.length c0_1,.slice A0_2 l0_2.length c0_2],.int .i64 a1] w fun e w'=>∃ v0_ v1_ : Value,e = .returned (.tuple #[v0_,v1_,.bool r3]) ∧ Kd.R (Kd.int .i64) 3 w' w.heap.size (fun k_=>some k_ ≠ (v1_ : Value).ownBlock) v0_ r1 ∧ Kd.R (Kd.int .i64) 3 w' w.heap.size (fun k_=>some k_ ≠ (v0_ : Value).ownBlock) v1_ r2 ∧ Below w.heap.size w w':=by
 have hu27:=Try.underlying27
 have HR0_1:=Aside0.mk hr0_1
 have HC0_1:=Aside0.mk hc0_1
 clear hr0_1 hc0_1
 have HR0_2:=Aside0.mk hr0_2
 have HC0_2:=Aside0.mk hc0_2
 clear hr0_2 hc0_2
 have HB:=Aside0.mk (Below.refl w.heap.size w)
 have H : ((impl_IsWire.f k a0_0 l0_1 l0_2).bind fun t331=>(if t331 = true then (impl_BeadsAt.j0 k a1 (decide (a1 < 0)) a0_0 l0_1 l0_2) else (impl_BeadsAt.j0 k a1 true a0_0 l0_1 l0_2))) = some (r1,r2,r3):=h
 clear h
 have HC3:=Aside0.mk H
 clear H
 go_enter Try.func32,Try.ntmps32
 go_upto_region 1 with (first|((with_reducible refine gate_dst (N:=2) rfl ?_);refine box_event ?hg (N:=2) ?hd (cs:=#[.int .i64 a0_0,.slice A0_1 l0_1.length c0_1,.slice A0_2 l0_2.length c0_2]) (t:=27) ?hr ?_;(case hd=>rfl);(case hg=>rfl);(case hr=>first|(go_simp;done)|(go_simp;rfl));intro gb330 hg w4 hbox hb;have n0_:=Aside0.mk (below_step (hm HB.out) hb);have n1_:=Aside0.mk (hbox);have n2_:=Aside0.mk ((by rw [hg];exact (below_size (hm HB.out)) : w.heap.size ≤ gb330));have n3_:=Aside0.mk ((by rw [hg];exact (below_size (hm HB.out)) : w.heap.size ≤ gb330));clear HB;have HB:=n0_;have BK330:=n1_;have GW330:=n2_;have GE330:=n3_;clear n0_ n1_ n2_ n3_;clear hb hbox hg))
 (try simp only [ap])
 go_cut [21] (fun v21 wc=>∃ (kq : Nat) (x21_2 : Bool),v21 = .bool x21_2 ∧ Aside0 (impl_BeadsAt.j0 kq a1 x21_2 a0_0 l0_1 l0_2 = some (r1,r2,r3)) ∧ Aside0 (kq ≤ k) ∧ Aside0 (wc.heap[gb330]? = some (.cells #[.int .i64 a0_0,(.slice A0_1 l0_1.length c0_1),(.slice A0_2 l0_2.length c0_2)] 27 (0,0))) ∧ Aside0 (Below w.heap.size w wc))
 case first =>
  have H:=HC3.out
  clear HC3
  replace H:=Option.bind_eq_some_iff.mp H
  obtain ⟨t331,A50,H⟩:=H
  replace H : (if t331 = true then (impl_BeadsAt.j0 k a1 (decide (a1 < 0)) a0_0 l0_1 l0_2) else (impl_BeadsAt.j0 k a1 true a0_0 l0_1 l0_2)) = some (r1,r2,r3):=H
  have A5:=Aside0.mk A50
  clear A50
  by_cases c6 : t331 = true
  ·subst c6
   have H1 : (impl_BeadsAt.j0 k a1 (decide (a1 < 0)) a0_0 l0_1 l0_2) = some (r1,r2,r3):=by rw [if_pos rfl] at H;exact H
   clear H
   have H:=H1
   clear H1
   have H':=Aside0.mk H
   clear H
   have hcz7_0 : w4.cell? ⟨gb330,0,none⟩ = some (.int .i64 a0_0):=(blk_cell BK330.out 0).trans rfl
   have hcz7_1 : w4.cell? ⟨gb330,1,none⟩ = some (.slice A0_1 l0_1.length c0_1):=(blk_cell BK330.out 1).trans rfl
   have hcz7_2 : w4.cell? ⟨gb330,2,none⟩ = some (.slice A0_2 l0_2.length c0_2):=(blk_cell BK330.out 2).trans rfl
   have hfz7_0:=blk_frozen BK330.out 0
   have hfz7_1:=blk_frozen BK330.out 1
   have hfz7_2:=blk_frozen BK330.out 2
   go_wp2_with (first|((with_reducible refine gate_callee (f:=14) rfl ?_);refine goesL_ (some 16) rfl rfl Try.func14 (by kernel_rfl) rfl #[.agg #[.int .i64 a0_0,.slice A0_1 l0_1.length c0_1,.slice A0_2 l0_2.length c0_2]] rfl (by (try simp only [List.map_toArray,List.map_cons,List.map_nil]);first|done|rfl|(simp only [List.length_drop,List.length_take];rfl)) ?_;(with_reducible refine (impl_IsWire.calls k a0_0 _ _ l0_1 _ _ l0_2 true _ ?side1 ?side2 ?side3 ?side4 A5.out).mono ?_);(case side1=>exact cm (C_below HR0_1.out HB.out));(case side2=>exact HC0_1.out);(case side3=>exact cm (C_below HR0_2.out HB.out));(case side4=>exact HC0_2.out);rintro e w8 ⟨rfl,hb⟩;refine ⟨_,rfl,?_⟩;have n0_:=Aside0.mk (blk_below (g:=gb330) (o:=.cells #[.int .i64 a0_0,.slice A0_1 l0_1.length c0_1,.slice A0_2 l0_2.length c0_2] 27 (0,0)) (bm BK330.out) hb);have n1_:=Aside0.mk (below_step (h1 HB.out GE330.out) hb);clear BK330;clear HB;have BK330:=n0_;have HB:=n1_;clear n0_ n1_;(try clear hb);(try clear hb2);(try clear hk);(try clear hi)))
   go_meet
   case rel=>exact ⟨_,(decide (a1 < 0)),(by first|rfl|(simp;done)|(simp [*];done)),H',⟨by first|omega|exact Nat.le_refl _⟩,⟨bm BK330.out⟩,⟨h1 HB.out GE330.out⟩⟩
  replace c6:=Bool.eq_false_iff.mpr c6
  subst c6
  have H1 : (impl_BeadsAt.j0 k a1 true a0_0 l0_1 l0_2) = some (r1,r2,r3):=by rw [if_neg (show ¬ (false = true) by decide)] at H;exact H
  clear H
  have H:=H1
  clear H1
  have H':=Aside0.mk H
  clear H
  have hcz9_0 : w4.cell? ⟨gb330,0,none⟩ = some (.int .i64 a0_0):=(blk_cell BK330.out 0).trans rfl
  have hcz9_1 : w4.cell? ⟨gb330,1,none⟩ = some (.slice A0_1 l0_1.length c0_1):=(blk_cell BK330.out 1).trans rfl
  have hcz9_2 : w4.cell? ⟨gb330,2,none⟩ = some (.slice A0_2 l0_2.length c0_2):=(blk_cell BK330.out 2).trans rfl
  have hfz9_0:=blk_frozen BK330.out 0
  have hfz9_1:=blk_frozen BK330.out 1
  have hfz9_2:=blk_frozen BK330.out 2
  go_wp2_with (first|((with_reducible refine gate_callee (f:=14) rfl ?_);refine goesL_ (some 16) rfl rfl Try.func14 (by kernel_rfl) rfl #[.agg #[.int .i64 a0_0,.slice A0_1 l0_1.length c0_1,.slice A0_2 l0_2.length c0_2]] rfl (by (try simp only [List.map_toArray,List.map_cons,List.map_nil]);first|done|rfl|(simp only [List.length_drop,List.length_take];rfl)) ?_;(with_reducible refine (impl_IsWire.calls k a0_0 _ _ l0_1 _ _ l0_2 false _ ?side1 ?side2 ?side3 ?side4 A5.out).mono ?_);(case side1=>exact cm (C_below HR0_1.out HB.out));(case side2=>exact HC0_1.out);(case side3=>exact cm (C_below HR0_2.out HB.out));(case side4=>exact HC0_2.out);rintro e w10 ⟨rfl,hb⟩;refine ⟨_,rfl,?_⟩;have n0_:=Aside0.mk (blk_below (g:=gb330) (o:=.cells #[.int .i64 a0_0,.slice A0_1 l0_1.length c0_1,.slice A0_2 l0_2.length c0_2] 27 (0,0)) (bm BK330.out) hb);have n1_:=Aside0.mk (below_step (h1 HB.out GE330.out) hb);clear BK330;clear HB;have BK330:=n0_;have HB:=n1_;clear n0_ n1_;(try clear hb);(try clear hb2);(try clear hk);(try clear hi)))
  go_meet
  case rel=>exact ⟨_,(true),(by first|rfl|(simp;done)|(simp [*];done)),H',⟨by first|omega|exact Nat.le_refl _⟩,⟨bm BK330.out⟩,⟨h1 HB.out GE330.out⟩⟩
 clear HC3
 try clear c1
 try clear p2
 try clear c3
 try clear c6
 try clear hcz7_0
 try clear hcz7_1
 try clear hcz7_2
 try clear hcz9_0
 try clear hcz9_1
 try clear hcz9_2
 try clear hfz7_0
 try clear hfz7_1
 try clear hfz7_2
 try clear hfz9_0
 try clear hfz9_1
 try clear hfz9_2
 obtain ⟨kq,x21_2,rfl,HA,HJ2,BK330,HB⟩:=hcut
 cases kq with
 | zero=>exact absurd HA.out (by simp [impl_BeadsAt.j0])
 | succ kj2 =>
  have H:=HA.out
  clear HA
  simp only [impl_BeadsAt.j0] at H
  by_cases c11 : x21_2 = true
  ·subst c11
   have H1 : (some (([] : List Int),([] : List Int),false)) = some (r1,r2,r3):=by rw [if_pos rfl] at H;exact H
   clear H
   have H:=H1
   clear H1
   simp only [Option.some.injEq,Prod.mk.injEq] at H
   obtain ⟨rfl,rfl,rfl⟩:=H
   go_wp2
   go_ret3
   exact ⟨_,_,by first|rfl|(simp [errW_none,errW_some] <;> rfl)|(simp [*,errW_none,errW_some] <;> rfl),by first|exact R_nil _ _ _ _ _|exact Kd.N_nil _ _ _ _ _|exact Kd.V_nil _ _ _ _ _|exact Kd.Q_nil _ _ _ _ _|exact Kd.S_nil _ _ _ _ _,by first|exact R_nil _ _ _ _ _|exact Kd.N_nil _ _ _ _ _|exact Kd.V_nil _ _ _ _ _|exact Kd.Q_nil _ _ _ _ _|exact Kd.S_nil _ _ _ _ _,h1 HB.out GE330.out⟩
  replace c11:=Bool.eq_false_iff.mpr c11
  subst c11
  have H1 : ((impl_Wire_falls.f kj2 a0_0 l0_1 l0_2).bind fun bt338=>(impl_BeadsAt.l0 kj2 a1 (([] : List Int)) (([] : List Int)) bt338.1 (bt338.1.length : Int) 0 a0_0 l0_1 l0_2)) = some (r1,r2,r3):=by rw [if_neg (show ¬ (false = true) by decide)] at H;exact H
  clear H
  have H:=H1
  clear H1
  obtain ⟨y332,hy332⟩ : ∃ y_ : List Int,y_ = (([] : List Int)):=⟨_,rfl⟩
  replace H : ((impl_Wire_falls.f kj2 a0_0 l0_1 l0_2).bind fun bt338=>(impl_BeadsAt.l0 kj2 a1 y332 (([] : List Int)) bt338.1 (bt338.1.length : Int) 0 a0_0 l0_1 l0_2)) = some (r1,r2,r3):=by first|(rw [hy332];with_reducible exact H)|(have H2_:=(Option.bind_some _ _).symm.trans H;rw [hy332];with_reducible exact H2_)|(have H2_:=(Option.bind_some _ _).symm.trans H;with_reducible exact H2_)|with_reducible exact H|(rw [hy332];exact H)|exact H
  have Ny332:=Aside0.mk hy332
  clear hy332
  obtain ⟨y335,hy335⟩ : ∃ y_ : List Int,y_ = (([] : List Int)):=⟨_,rfl⟩
  replace H : ((impl_Wire_falls.f kj2 a0_0 l0_1 l0_2).bind fun bt338=>(impl_BeadsAt.l0 kj2 a1 y332 y335 bt338.1 (bt338.1.length : Int) 0 a0_0 l0_1 l0_2)) = some (r1,r2,r3):=by first|(rw [hy335];with_reducible exact H)|(have H2_:=(Option.bind_some _ _).symm.trans H;rw [hy335];with_reducible exact H2_)|(have H2_:=(Option.bind_some _ _).symm.trans H;with_reducible exact H2_)|with_reducible exact H|(rw [hy335];exact H)|exact H
  have Ny335:=Aside0.mk hy335
  clear hy335
  replace H:=Option.bind_eq_some_iff.mp H
  obtain ⟨⟨t338,t341⟩,A120,H⟩:=H
  replace H : (impl_BeadsAt.l0 kj2 a1 y332 y335 t338 (t338.length : Int) 0 a0_0 l0_1 l0_2) = some (r1,r2,r3):=H
  have A12:=Aside0.mk A120
  clear A120
  have H':=Aside0.mk H
  clear H
  go_wp2_with (first|((with_reducible refine gate_dst (N:=22) rfl ?_);refine R_lit (Kd.int .i64) _ 3 ?hg (N:=22) ?hd (xs:=([] : List Int)) (inner:=[]) (ok:=fun _=>True) (okp:=fun _=>True) ?hr ?hp (fun _ hk=>hk) trivial (Below.refl _ _) (Nat.le_refl _) (by simp) ?_;(case hd=>rfl);(case hg=>rfl);(case hr=>first|(go_simp;done)|(go_simp;rfl));(case hp=>exact (Reps.none _ _));intro v333 w13 ho14 hb hg_ hnew_;clear hg_ hnew_;(first|rw [← Ny332.out] at ho14|(simp only [Int.reduceToNat] at ho14;rw [← Ny332.out] at ho14));have n0_:=Aside0.mk (R_lower ho14 (below_size (h1 HB.out GE330.out)));have n1_:=Aside0.mk (blk_below (g:=gb330) (o:=.cells #[.int .i64 a0_0,.slice A0_1 l0_1.length c0_1,.slice A0_2 l0_2.length c0_2] 27 (0,0)) (bm BK330.out) hb);have n2_:=Aside0.mk (below_step (h1 HB.out GE330.out) hb);clear BK330;clear HB;have HO334:=n0_;have BK330:=n1_;have HB:=n2_;clear n0_ n1_ n2_;clear hb ho14)|((with_reducible refine gate_dst (N:=23) rfl ?_);refine R_lit (Kd.int .i64) _ 3 ?hg (N:=23) ?hd (xs:=([] : List Int)) (inner:=[]) (ok:=fun _=>True) (okp:=fun _=>True) ?hr ?hp (fun _ hk=>hk) trivial (Below.refl _ _) (Nat.le_refl _) (by simp) ?_;(case hd=>rfl);(case hg=>rfl);(case hr=>first|(go_simp;done)|(go_simp;rfl));(case hp=>exact (Reps.none _ _));intro v336 w15 ho16 hb hg_ hnew_;clear hg_ hnew_;(first|rw [← Ny335.out] at ho16|(simp only [Int.reduceToNat] at ho16;rw [← Ny335.out] at ho16));have n0_:=Aside0.mk (R_elder' (rm HO334.out) (R_base ho16) hb);have n1_:=Aside0.mk (R_lower (R_new' ho16 (R_lt (rm HO334.out))) (below_size (h1 HB.out GE330.out)));have n2_:=Aside0.mk (blk_below (g:=gb330) (o:=.cells #[.int .i64 a0_0,.slice A0_1 l0_1.length c0_1,.slice A0_2 l0_2.length c0_2] 27 (0,0)) (bm BK330.out) hb);have n3_:=Aside0.mk (below_step (h1 HB.out GE330.out) hb);clear HO334;clear BK330;clear HB;have HO334:=n0_;have HO337:=n1_;have BK330:=n2_;have HB:=n3_;clear n0_ n1_ n2_ n3_;clear hb ho16;have hcz17_0 : w15.cell? ⟨gb330,0,none⟩ = some (.int .i64 a0_0):=(blk_cell BK330.out 0).trans rfl;have hcz17_1 : w15.cell? ⟨gb330,1,none⟩ = some (.slice A0_1 l0_1.length c0_1):=(blk_cell BK330.out 1).trans rfl;have hcz17_2 : w15.cell? ⟨gb330,2,none⟩ = some (.slice A0_2 l0_2.length c0_2):=(blk_cell BK330.out 2).trans rfl;have hfz17_0:=blk_frozen BK330.out 0;have hfz17_1:=blk_frozen BK330.out 1;have hfz17_2:=blk_frozen BK330.out 2)|((with_reducible refine gate_callee (f:=52) rfl ?_);refine goesL_ (some 26) rfl rfl Try.func52 (by kernel_rfl) rfl #[.agg #[.int .i64 a0_0,.slice A0_1 l0_1.length c0_1,.slice A0_2 l0_2.length c0_2]] rfl (by (try simp only [List.map_toArray,List.map_cons,List.map_nil]);first|done|rfl|(simp only [List.length_drop,List.length_take];rfl)) ?_;(with_reducible refine (impl_Wire_falls.calls kj2 a0_0 _ _ l0_1 _ _ l0_2 t338 t341 _ ?side1 ?side2 ?side3 ?side4 A12.out).mono ?_);(case side1=>exact cm (C_below HR0_1.out HB.out));(case side2=>exact HC0_1.out);(case side3=>exact cm (C_below HR0_2.out HB.out));(case side4=>exact HC0_2.out);rintro e w18 ⟨v339,v342,rfl,ho0,ho1,hb⟩;refine ⟨_,rfl,?_⟩;have n0_:=Aside0.mk (R_mono (R_told (R_told (R_old (rm HO334.out) hb) (R_base ho0)) (R_base ho1)) (fun _ h_=>h_.1));have n1_:=Aside0.mk (R_mono (R_told (R_told (R_old (rm HO337.out) hb) (R_base ho0)) (R_base ho1)) (fun _ h_=>h_.1));have n2_:=Aside0.mk (R_lower (R_new' (R_new' ho0 (R_lt (rm HO334.out))) (R_lt (rm HO337.out))) (below_size (h1 HB.out GE330.out)));have n3_:=Aside0.mk (R_lower (R_new' (R_new' ho1 (R_lt (rm HO334.out))) (R_lt (rm HO337.out))) (below_size (h1 HB.out GE330.out)));have n4_:=Aside0.mk (blk_below (g:=gb330) (o:=.cells #[.int .i64 a0_0,.slice A0_1 l0_1.length c0_1,.slice A0_2 l0_2.length c0_2] 27 (0,0)) (bm BK330.out) hb);have n5_:=Aside0.mk (below_step (h1 HB.out GE330.out) hb);clear HO334;clear HO337;clear BK330;clear HB;have HO334:=n0_;have HO337:=n1_;have HO340:=n2_;have HO343:=n3_;have BK330:=n4_;have HB:=n5_;clear n0_ n1_ n2_ n3_ n4_ n5_;(try clear hb);(try clear hb2);(try clear hk);(try clear hi);(try clear ho0);(try clear ho1);obtain ⟨Ao19,co19,eo19⟩:=R_slice HO340.out;subst eo19))
  go_loopg [7,31] kj2 (fun kq v7 v31 w'=>∃ (x7_2 : List Int) (x31_2 : Int),v31 = .int .i64 x31_2 ∧ Aside0 (impl_BeadsAt.l0 kq a1 x7_2 y335 t338 (t338.length : Int) x31_2 a0_0 l0_1 l0_2 = some (r1,r2,r3)) ∧ Aside0 (kq ≤ kj2) ∧ Aside0 (Kd.R (Kd.int .i64) 3 w' w.heap.size (fun k_=>some k_ ≠ (v336 : Value).ownBlock ∧ some k_ ≠ ((.slice Ao19 t338.length co19) : Value).ownBlock) v7 x7_2) ∧ Aside0 (Kd.R (Kd.int .i64) 3 w' w.heap.size (fun k_=>some k_ ≠ (v7 : Value).ownBlock ∧ some k_ ≠ ((.slice Ao19 t338.length co19) : Value).ownBlock) v336 y335) ∧ Aside0 (Kd.R (Kd.int .i64) 3 w' w.heap.size (fun k_=>some k_ ≠ (v7 : Value).ownBlock ∧ some k_ ≠ (v336 : Value).ownBlock) (.slice Ao19 t338.length co19) t338) ∧ Aside0 (w'.heap[gb330]? = some (.cells #[.int .i64 a0_0,(.slice A0_1 l0_1.length c0_1),(.slice A0_2 l0_2.length c0_2)] 27 (0,0))) ∧ Aside0 (Below w.heap.size w w'))
  case atStart=>exact ⟨(y332),(0),(by first|rfl|(simp;done)|(simp [*];done)),H',⟨Nat.le_refl _⟩,⟨rm (R_mono HO334.out (fun _ hk=>⟨hk.1.1.2,hk.1.2⟩))⟩,⟨rm (R_mono HO337.out (fun _ hk=>⟨hk.1.1.2,hk.1.2⟩))⟩,⟨rm (R_mono HO340.out (fun _ hk=>⟨hk.1.2,hk.2⟩))⟩,⟨bm BK330.out⟩,⟨h1 HB.out GE330.out⟩⟩
  clear H'
  try clear c1
  try clear p2
  try clear c3
  try clear c5
  try clear c6
  try clear c11
  try clear c14
  try clear hcz17_0
  try clear hcz17_1
  try clear hcz17_2
  try clear hcz7_0
  try clear hcz7_1
  try clear hcz7_2
  try clear hcz9_0
  try clear hcz9_1
  try clear hcz9_2
  try clear hfz17_0
  try clear hfz17_1
  try clear hfz17_2
  try clear hfz7_0
  try clear hfz7_1
  try clear hfz7_2
  try clear hfz9_0
  try clear hfz9_1
  try clear hfz9_2
  try clear p2
  obtain ⟨x7_2,x31_2,rfl,HA,HK2,HO_7,HO_8,HO_29,BK330,HB⟩:=hrel
  cases gk with
  | zero=>exact absurd HA.out (by simp [impl_BeadsAt.l0])
  | succ k2 =>
   have H:=HA.out
   clear HA
   simp only [impl_BeadsAt.l0] at H
   by_cases c20 : x31_2 < (t338.length : Int)
   ·rw [if_pos c20] at H
    have c20b0 : decide (x31_2 < (t338.length : Int)) = true:=decide_eq_true c20
    clear c20
    by_cases c21 : 0 ≤ x31_2
    rotate_left
    ·rw [if_neg c21] at H
     exact absurd H (by simp)
    rw [if_pos c21] at H
    have c21b0 : decide (0 ≤ x31_2) = true:=decide_eq_true c21
    clear c21
    by_cases c22 : x31_2 < (t338.length : Int)
    rotate_left
    ·rw [if_neg c22] at H
     exact absurd H (by simp)
    rw [if_pos c22] at H
    have c22b0 : decide (x31_2 < (t338.length : Int)) = true:=decide_eq_true c22
    clear c22
    by_cases c23 : (rd t338 x31_2) ≥ a1
    rotate_left
    ·rw [if_neg c23] at H
     have c23b0 : decide (a1 ≤ (rd t338 x31_2)) = false:=decide_eq_false c23
     clear c23
     have H':=Aside0.mk H
     clear H
     have p344 : 0 ≤ (x31_2 : Int):=od
     have q344 : x31_2 < (t338.length : Int):=od
     obtain ⟨ad344,e344,hx344_0⟩:=Kd.at_int (R_reads' HO_29.out).2.2 x31_2 p344 q344
     cases e344
     replace p344:=eq_true p344
     replace q344:=eq_true q344
     go_wp2
     go_roundg k2
     case measure=>have:=HJ2.out;have:=HK2.out;omega
     case rel=>exact ⟨(x7_2),(wrap64 (x31_2 + 1)),(by first|rfl|(simp;done)|(simp [*];done)),H',⟨by have:=HJ2.out;have:=HK2.out;omega⟩,⟨rm HO_7.out⟩,⟨rm HO_8.out⟩,⟨rm HO_29.out⟩,⟨bm BK330.out⟩,⟨h1 HB.out GE330.out⟩⟩
    rw [if_pos c23] at H
    have c23b0 : decide (a1 ≤ (rd t338 x31_2)) = true:=decide_eq_true c23
    clear c23
    by_cases c24 : x7_2.length < 17592186044416
    rotate_left
    ·rw [if_neg c24] at H
     exact absurd H (by simp)
    rw [if_pos c24] at H
    have LMc24:=Aside0.mk c24
    clear c24
    obtain ⟨y345,hy345⟩ : ∃ y_ : List Int,y_ = (x7_2 ++ [x31_2]):=⟨_,rfl⟩
    replace H : (impl_BeadsAt.l0 k2 a1 y345 y335 t338 (t338.length : Int) (wrap64 (x31_2 + 1)) a0_0 l0_1 l0_2) = some (r1,r2,r3):=by first|(rw [hy345];with_reducible exact H)|(have H2_:=(Option.bind_some _ _).symm.trans H;rw [hy345];with_reducible exact H2_)|(have H2_:=(Option.bind_some _ _).symm.trans H;with_reducible exact H2_)|with_reducible exact H|(rw [hy345];exact H)|exact H
    have Ny345:=Aside0.mk hy345
    clear hy345
    have H':=Aside0.mk H
    clear H
    have p344 : 0 ≤ (x31_2 : Int):=od
    have q344 : x31_2 < (t338.length : Int):=od
    obtain ⟨ad344,e344,hx344_0⟩:=Kd.at_int (R_reads' HO_29.out).2.2 x31_2 p344 q344
    cases e344
    replace p344:=eq_true p344
    replace q344:=eq_true q344
    go_wp2_with (first|((with_reducible refine gate_builtin (b:=.append) (xs:=#[.tmp 39,.tmp 41]) rfl ?_);at_builtin;refine R_append (Kd.int .i64) (w0:=w) w.heap.size rfl (.tmp 39) (.tmp 41) 22 3 (.int .i64 0) 8 rfl Try.underlying22 info3 rfl (by decide) (by omega) u7 x7_2 x31_2 [.int .i64 x31_2] (fun k_=>some k_ ≠ (v336 : Value).ownBlock ∧ some k_ ≠ (.slice (some ad344) t338.length co19 : Value).ownBlock) (fun _=>False) rfl rfl ?aP (fun _ hk=>hk.elim) ?aF ?aO ?aB ?aS ?aL ?_;(case aP=>exact rfl);(case aB=>exact (h1 HB.out GE330.out));(case aF=>exact (fun k_ hk=>⟨Kd.fresh' (R_lt (rm HO_8.out)) k_ hk,Kd.fresh' (R_lt (rm HO_29.out)) k_ hk⟩));(case aO=>exact (rm HO_7.out));(case aS=>exact (below_size (h1 HB.out GE330.out)));(case aL=>have:=LMc24.out;omega);intro v346 w25 ho hb hg hat;rw [← Ny345.out] at ho;have n0_:=Aside0.mk (R_after (ok:=(fun k_=>some k_ ≠ (.slice (some ad344) t338.length co19 : Value).ownBlock)) (rm (R_mono HO_8.out (fun _ hk=>⟨hk.2,hk.1⟩))) hg hat);have n1_:=Aside0.mk (R_after (ok:=(fun k_=>some k_ ≠ (v336 : Value).ownBlock)) (rm (R_mono HO_29.out (fun _ hk=>⟨hk.2,hk.1⟩))) hg hat);have n2_:=Aside0.mk (blk_grown (g:=gb330) (o:=.cells #[.int .i64 a0_0,.slice A0_1 l0_1.length c0_1,.slice A0_2 l0_2.length c0_2] 27 (0,0)) (bm BK330.out) hg (R_ne HO_7.out BK330.out (by decide)));have n3_:=Aside0.mk (hb);have n4_:=Aside0.mk (ho);clear HO_8;clear HO_29;clear BK330;clear HB;clear HO_7;have HO_8:=n0_;have HO_29:=n1_;have BK330:=n2_;have HB:=n3_;have HO347:=n4_;clear n0_ n1_ n2_ n3_ n4_;clear ho hb hg hat))
    go_roundg k2
    case measure=>have:=HJ2.out;have:=HK2.out;omega
    case rel=>exact ⟨(y345),(wrap64 (x31_2 + 1)),(by first|rfl|(simp;done)|(simp [*];done)),H',⟨by have:=HJ2.out;have:=HK2.out;omega⟩,⟨rm HO347.out⟩,⟨rm (R_mono HO_8.out (fun _ hk=>⟨hk.2,hk.1⟩))⟩,⟨rm (R_mono HO_29.out (fun _ hk=>⟨hk.2,hk.1⟩))⟩,⟨bm BK330.out⟩,⟨h1 HB.out GE330.out⟩⟩
   rw [if_neg c20] at H
   have c20b0 : decide (x31_2 < (t338.length : Int)) = false:=decide_eq_false c20
   clear c20
   replace H:=Option.bind_eq_some_iff.mp H
   obtain ⟨t348,A260,H⟩:=H
   replace H : (impl_BeadsAt.l1 k2 a1 x7_2 y335 t348 (t348.length : Int) 0 a0_0 l0_1 l0_2) = some (r1,r2,r3):=H
   have A26:=Aside0.mk A260
   clear A260
   have H':=Aside0.mk H
   clear H
   have hcz27_0 : wr.cell? ⟨gb330,0,none⟩ = some (.int .i64 a0_0):=(blk_cell BK330.out 0).trans rfl
   have hcz27_1 : wr.cell? ⟨gb330,1,none⟩ = some (.slice A0_1 l0_1.length c0_1):=(blk_cell BK330.out 1).trans rfl
   have hcz27_2 : wr.cell? ⟨gb330,2,none⟩ = some (.slice A0_2 l0_2.length c0_2):=(blk_cell BK330.out 2).trans rfl
   have hfz27_0:=blk_frozen BK330.out 0
   have hfz27_1:=blk_frozen BK330.out 1
   have hfz27_2:=blk_frozen BK330.out 2
   go_wp2_with (first|((with_reducible refine gate_callee (f:=47) rfl ?_);refine goesL_ (some 45) rfl rfl Try.func47 (by kernel_rfl) rfl #[.agg #[.int .i64 a0_0,.slice A0_1 l0_1.length c0_1,.slice A0_2 l0_2.length c0_2]] rfl (by (try simp only [List.map_toArray,List.map_cons,List.map_nil]);first|done|rfl|(simp only [List.length_drop,List.length_take];rfl)) ?_;(with_reducible refine (impl_Wire_shades.calls k2 a0_0 _ _ l0_1 _ _ l0_2 t348 _ ?side1 ?side2 ?side3 ?side4 A26.out).mono ?_);(case side1=>exact cm (C_below HR0_1.out HB.out));(case side2=>exact HC0_1.out);(case side3=>exact cm (C_below HR0_2.out HB.out));(case side4=>exact HC0_2.out);rintro e w28 ⟨v349,rfl,ho0,hb⟩;refine ⟨_,rfl,?_⟩;have n0_:=Aside0.mk (R_elder' (rm HO_7.out) (R_base ho0) hb);have n1_:=Aside0.mk (R_elder' (rm HO_8.out) (R_base ho0) hb);have n2_:=Aside0.mk (R_elder' (rm HO_29.out) (R_base ho0) hb);have n3_:=Aside0.mk (R_lower (R_new' (R_new' (R_new' ho0 (R_lt (rm HO_7.out))) (R_lt (rm HO_8.out))) (R_lt (rm HO_29.out))) (below_size (h1 HB.out GE330.out)));have n4_:=Aside0.mk (blk_below (g:=gb330) (o:=.cells #[.int .i64 a0_0,.slice A0_1 l0_1.length c0_1,.slice A0_2 l0_2.length c0_2] 27 (0,0)) (bm BK330.out) hb);have n5_:=Aside0.mk (below_step (h1 HB.out GE330.out) hb);clear HO_7;clear HO_8;clear HO_29;clear BK330;clear HB;have HO_7:=n0_;have HO_8:=n1_;have HO_29:=n2_;have HO350:=n3_;have BK330:=n4_;have HB:=n5_;clear n0_ n1_ n2_ n3_ n4_ n5_;(try clear hb);(try clear hb2);(try clear hk);(try clear hi);(try clear ho0);obtain ⟨Ao29,co29,eo29⟩:=R_slice HO350.out;subst eo29))
   go_loopg [8,47] k2 (fun kq v8 v47 w'=>∃ (x8_3 : List Int) (x47_3 : Int),v47 = .int .i64 x47_3 ∧ Aside0 (impl_BeadsAt.l1 kq a1 x7_2 x8_3 t348 (t348.length : Int) x47_3 a0_0 l0_1 l0_2 = some (r1,r2,r3)) ∧ Aside0 (kq ≤ k2) ∧ Aside0 (Kd.R (Kd.int .i64) 3 w' w.heap.size (fun k_=>some k_ ≠ (v8 : Value).ownBlock ∧ some k_ ≠ ((.slice Ao29 t348.length co29) : Value).ownBlock) u7 x7_2) ∧ Aside0 (Kd.R (Kd.int .i64) 3 w' w.heap.size (fun k_=>some k_ ≠ (u7 : Value).ownBlock ∧ some k_ ≠ ((.slice Ao29 t348.length co29) : Value).ownBlock) v8 x8_3) ∧ Aside0 (Kd.R (Kd.int .i64) 3 w' w.heap.size (fun k_=>some k_ ≠ (u7 : Value).ownBlock ∧ some k_ ≠ (v8 : Value).ownBlock) (.slice Ao29 t348.length co29) t348) ∧ Aside0 (w'.heap[gb330]? = some (.cells #[.int .i64 a0_0,(.slice A0_1 l0_1.length c0_1),(.slice A0_2 l0_2.length c0_2)] 27 (0,0))) ∧ Aside0 (Below w.heap.size w w'))
   case atStart=>exact ⟨(y335),(0),(by first|rfl|(simp;done)|(simp [*];done)),H',⟨Nat.le_refl _⟩,⟨rm (R_mono HO_7.out (fun _ hk=>⟨hk.1.1,hk.2⟩))⟩,⟨rm (R_mono HO_8.out (fun _ hk=>⟨hk.1.1,hk.2⟩))⟩,⟨rm (R_mono HO350.out (fun _ hk=>⟨hk.1.1.2,hk.1.2⟩))⟩,⟨bm BK330.out⟩,⟨h1 HB.out GE330.out⟩⟩
   clear H'
   try clear c1
   try clear c2
   try clear p2
   try clear c3
   try clear p3
   try clear q3
   try clear hx3
   try clear c4
   try clear c5
   try clear c6
   try clear p6
   try clear c11
   try clear c14
   try clear c20
   try clear c20b0
   try clear c21
   try clear c21b0
   try clear c22
   try clear c22b0
   try clear c23
   try clear c23b0
   try clear c24
   try clear hcz17_0
   try clear hcz17_1
   try clear hcz17_2
   try clear hcz27_0
   try clear hcz27_1
   try clear hcz27_2
   try clear hcz7_0
   try clear hcz7_1
   try clear hcz7_2
   try clear hcz9_0
   try clear hcz9_1
   try clear hcz9_2
   try clear hfz17_0
   try clear hfz17_1
   try clear hfz17_2
   try clear hfz27_0
   try clear hfz27_1
   try clear hfz27_2
   try clear hfz7_0
   try clear hfz7_1
   try clear hfz7_2
   try clear hfz9_0
   try clear hfz9_1
   try clear hfz9_2
   try clear hx344_0
   try clear p2
   try clear p344
   try clear q344
   obtain ⟨x8_3,x47_3,rfl,HA,HK3,HO_7,HO_8,HO_45,BK330,HB⟩:=hrel
   cases gk with
   | zero=>exact absurd HA.out (by simp [impl_BeadsAt.l1])
   | succ k3 =>
    have H:=HA.out
    clear HA
    simp only [impl_BeadsAt.l1] at H
    by_cases c30 : x47_3 < (t348.length : Int)
    rotate_left
    ·rw [if_neg c30] at H
     have c30b0 : decide (x47_3 < (t348.length : Int)) = false:=decide_eq_false c30
     clear c30
     replace H:=Option.bind_eq_some_iff.mp H
     obtain ⟨t357,A390,H⟩:=H
     replace H : (some (x7_2,t357,true)) = some (r1,r2,r3):=H
     have A39:=Aside0.mk A390
     clear A390
     simp only [Option.some.injEq,Prod.mk.injEq] at H
     obtain ⟨rfl,rfl,rfl⟩:=H
     obtain ⟨Ao40,co40,eo40⟩:=R_slice HO_8.out
     subst eo40
     go_wp2_with (first|((with_reducible refine gate_callee (f:=54) rfl ?_);refine goesL_ (some 73) rfl rfl Try.func54 (by kernel_rfl) rfl #[.slice Ao40 x8_3.length co40] rfl (by (try simp only [List.map_toArray,List.map_cons,List.map_nil]);first|done|rfl|(simp only [List.length_drop,List.length_take];rfl)) ?_;(with_reducible refine (slices_Sort_int_int.calls k3 (fun k_=>some k_ = (.slice Ao40 x8_3.length co40 : Value).ownBlock) (.slice Ao40 x8_3.length co40) x8_3 t357 w _ ?side1 ?side2 A39.out).mono ?_);(case side1=>repeat (first|(with_reducible first|exact HB.out|apply below_alloc|apply pw_below_drewN|apply below_drew1|refine below_set ?_ GE330.out)|exact HB.out));(case side2=>exact R_tight rfl HO_8.out);rintro e w41 ⟨rfl,hy0,hb,hkp⟩;refine ⟨_,rfl,?_⟩;have n0_:=Aside0.mk (R_mono (ok':=fun k_=>some k_ ≠ (.slice Ao40 x8_3.length co40 : Value).ownBlock ∧ some k_ ≠ (.slice Ao29 t348.length co29 : Value).ownBlock) (R_keptB (HO_7.out) hkp (fun k_ hk_ hs_=>(hk_.1) hs_)) (fun k_ hk_=>⟨hk_.1.1,hk_.1.2⟩));have n1_:=Aside0.mk (R_reok rfl hy0 (fun k_ e_=>HO_8.out.1 k_ e_));have n2_:=Aside0.mk (R_mono (ok':=fun k_=>some k_ ≠ (u7 : Value).ownBlock ∧ some k_ ≠ (.slice Ao40 x8_3.length co40 : Value).ownBlock) (R_keptB (HO_45.out) hkp (fun k_ hk_ hs_=>(hk_.2) hs_)) (fun k_ hk_=>⟨hk_.1.1,hk_.1.2⟩));have n3_:=Aside0.mk (blk_kept (bm BK330.out) hkp (fun hs_=>(fun e_=>(R_ne HO_8.out BK330.out (by decide)) e_) hs_));have n4_:=Aside0.mk (hb);clear HO_7;clear HO_8;clear HO_45;clear BK330;clear HB;have HO_7:=n0_;have HO_8:=n1_;have HO_45:=n2_;have BK330:=n3_;have HB:=n4_;clear n0_ n1_ n2_ n3_ n4_;(try clear hb);(try clear hkp);(try clear hy0)))
     go_ret3
     exact ⟨_,_,by first|rfl|(simp [errW_none,errW_some] <;> rfl)|(simp [*,errW_none,errW_some] <;> rfl),rm (R_mono HO_7.out (fun _ hk=>hk.1)),rm (R_mono HO_8.out (fun _ hk=>hk.1)),h1 HB.out GE330.out⟩
    rw [if_pos c30] at H
    have c30b0 : decide (x47_3 < (t348.length : Int)) = true:=decide_eq_true c30
    clear c30
    by_cases c31 : 0 ≤ x47_3
    rotate_left
    ·rw [if_neg c31] at H
     exact absurd H (by simp)
    rw [if_pos c31] at H
    have c31b0 : decide (0 ≤ x47_3) = true:=decide_eq_true c31
    clear c31
    by_cases c32 : x47_3 < (t348.length : Int)
    rotate_left
    ·rw [if_neg c32] at H
     exact absurd H (by simp)
    rw [if_pos c32] at H
    have c32b0 : decide (x47_3 < (t348.length : Int)) = true:=decide_eq_true c32
    clear c32
    by_cases c33 : (rd t348 x47_3) ≥ a1
    rotate_left
    ·rw [if_neg c33] at H
     have c33b0 : decide (a1 ≤ (rd t348 x47_3)) = false:=decide_eq_false c33
     clear c33
     have H':=Aside0.mk H
     clear H
     have p351 : 0 ≤ (x47_3 : Int):=od
     have q351 : x47_3 < (t348.length : Int):=od
     obtain ⟨ad351,e351,hx351_0⟩:=Kd.at_int (R_reads' HO_45.out).2.2 x47_3 p351 q351
     cases e351
     replace p351:=eq_true p351
     replace q351:=eq_true q351
     go_wp2
     go_roundg k3
     case measure=>have:=HJ2.out;have:=HK2.out;have:=HK3.out;omega
     case rel=>exact ⟨(x8_3),(wrap64 (x47_3 + 1)),(by first|rfl|(simp;done)|(simp [*];done)),H',⟨by have:=HJ2.out;have:=HK2.out;have:=HK3.out;omega⟩,⟨rm HO_7.out⟩,⟨rm HO_8.out⟩,⟨rm HO_45.out⟩,⟨bm BK330.out⟩,⟨h1 HB.out GE330.out⟩⟩
    rw [if_pos c33] at H
    have c33b0 : decide (a1 ≤ (rd t348 x47_3)) = true:=decide_eq_true c33
    clear c33
    by_cases c34 : x47_3 < (l0_1.length : Int)
    rotate_left
    ·rw [if_neg c34] at H
     exact absurd H (by simp)
    rw [if_pos c34] at H
    have c34b0 : decide (x47_3 < (l0_1.length : Int)) = true:=decide_eq_true c34
    clear c34
    by_cases c35 : x47_3 < (l0_2.length : Int)
    rotate_left
    ·rw [if_neg c35] at H
     exact absurd H (by simp)
    rw [if_pos c35] at H
    have c35b0 : decide (x47_3 < (l0_2.length : Int)) = true:=decide_eq_true c35
    clear c35
    by_cases c36 : x8_3.length < 17592186044416
    rotate_left
    ·rw [if_neg c36] at H
     exact absurd H (by simp)
    rw [if_pos c36] at H
    have LMc36:=Aside0.mk c36
    clear c36
    obtain ⟨y354,hy354⟩ : ∃ y_ : List Int,y_ = (x8_3 ++ [wrap64 ((rd l0_1 x47_3) + (wrap64 ((rd l0_2 x47_3) * a1)))]):=⟨_,rfl⟩
    replace H : (impl_BeadsAt.l1 k3 a1 x7_2 y354 t348 (t348.length : Int) (wrap64 (x47_3 + 1)) a0_0 l0_1 l0_2) = some (r1,r2,r3):=by first|(rw [hy354];with_reducible exact H)|(have H2_:=(Option.bind_some _ _).symm.trans H;rw [hy354];with_reducible exact H2_)|(have H2_:=(Option.bind_some _ _).symm.trans H;with_reducible exact H2_)|with_reducible exact H|(rw [hy354];exact H)|exact H
    have Ny354:=Aside0.mk hy354
    clear hy354
    have H':=Aside0.mk H
    clear H
    have p351 : 0 ≤ (x47_3 : Int):=od
    have q351 : x47_3 < (t348.length : Int):=od
    obtain ⟨ad351,e351,hx351_0⟩:=Kd.at_int (R_reads' HO_45.out).2.2 x47_3 p351 q351
    cases e351
    replace p351:=eq_true p351
    replace q351:=eq_true q351
    try go_wp2
    have n0_:=Aside0.mk (R_drew HO_7.out)
    have n1_:=Aside0.mk (R_drew HO_8.out)
    have n2_:=Aside0.mk (R_drew HO_45.out)
    have n3_:=Aside0.mk (blk_drew BK330.out)
    have n4_:=Aside0.mk (below_drew1 HB.out)
    clear HO_7
    clear HO_8
    clear HO_45
    clear BK330
    clear HB
    have HO_7:=n0_
    have HO_8:=n1_
    have HO_45:=n2_
    have BK330:=n3_
    have HB:=n4_
    clear n0_ n1_ n2_ n3_ n4_
    have p352 : 0 ≤ (x47_3 : Int):=od
    have q352 : x47_3 < (l0_1.length : Int):=od
    obtain ⟨ad352,e352,hx352_0⟩:=Kd.at_int HR0_1.out x47_3 p352 q352
    have hw352_0:=hx352_0
    cases e352
    replace hx352_0:=(HB.out.cell (World.block_lt_of_cell? w _ hx352_0)).trans hx352_0
    replace p352:=eq_true p352
    replace q352:=eq_true q352
    have p353 : 0 ≤ (x47_3 : Int):=od
    have q353 : x47_3 < (l0_2.length : Int):=od
    obtain ⟨ad353,e353,hx353_0⟩:=Kd.at_int HR0_2.out x47_3 p353 q353
    have hw353_0:=hx353_0
    cases e353
    replace hx353_0:=(HB.out.cell (World.block_lt_of_cell? w _ hx353_0)).trans hx353_0
    replace p353:=eq_true p353
    replace q353:=eq_true q353
    refine start_ (n:=17) (S:=fun w'=>w'.cell? ⟨gb330,0,none⟩ = some (.int .i64 a0_0) ∧ w'.cell? ⟨gb330,1,none⟩ = some (.slice (some ad352) l0_1.length c0_1) ∧ w'.cell? ⟨gb330,2,none⟩ = some (.slice (some ad353) l0_2.length c0_2) ∧ w'.cell? (ad352.add (x47_3).toNat) = some (.int .i64 (rd l0_1 x47_3)) ∧ w'.cell? (ad353.add (x47_3).toNat) = some (.int .i64 (rd l0_2 x47_3))) (ds:=[]) (lb 17 0) (by kernel_rfl) rfl rfl ⟨(blk_cell BK330.out 0).trans rfl,(blk_cell BK330.out 1).trans rfl,(blk_cell BK330.out 2).trans rfl,((HB.out.cell (World.block_lt_of_cell? w _ hw352_0)).trans hw352_0),((HB.out.cell (World.block_lt_of_cell? w _ hw353_0)).trans hw353_0)⟩ (fun hHeld=>?_);refine with_tabW impl_BeadsAt.tab15 impl_BeadsAt.bits15 (fun HT_ HW_=>?_)
    generalize wr.drew = w37 at HO_7 HO_8 HO_45 BK330 HB hx352_0 hx353_0 hHeld ⊢
    refine pu 0 (N:=some 55) (v:=?_) (a':=?_) (lb 17 1) HT_ (by kernel_rfl) rfl rfl rfl (fun _ _ _ h=>h) ?_ ?_ ?_
    rotate_left
    ·intro w'
     go_simp
     with_reducible rfl
    rotate_left
    ·simp only [ap]
     rfl
    refine pu 1 (N:=some 56) (v:=?_) (a':=?_) (lb 17 3) HT_ (by kernel_rfl) rfl rfl rfl (fun _ _ _ h=>h) ?_ ?_ ?_
    rotate_left
    ·intro w'
     go_simp
     with_reducible rfl
    rotate_left
    ·simp only [ap]
     rfl
    refine pu 3 (N:=some 58) (v:=?_) (a':=?_) (lb 17 11) HT_ (by kernel_rfl) rfl rfl rfl (fun _ _ _ h=>h) ?_ ?_ ?_
    rotate_left
    ·intro w'
     go_simp
     with_reducible rfl
    rotate_left
    ·simp only [ap]
     rfl
    refine pu 6 (N:=some 61) (v:=?_) (a':=?_) (lb 17 75) HT_ (by kernel_rfl) rfl rfl rfl (fun _ _ _ h=>h) ?_ ?_ ?_
    rotate_left
    ·intro w'
     go_simp
     with_reducible rfl
    rotate_left
    ·simp only [ap]
     rfl
    refine pu 8 (N:=some 63) (v:=?_) (a':=?_) (lb 17 331) HT_ (by kernel_rfl) rfl rfl rfl (fun _ _ _ h=>h) ?_ ?_ ?_
    rotate_left
    ·intro w'
     go_simp
     with_reducible rfl
    rotate_left
    ·simp only [ap]
     rfl
    refine pu 11 (N:=some 66) (v:=?_) (a':=?_) (lb 17 2379) HT_ (by kernel_rfl) rfl rfl rfl (fun _ _ _ h=>h) ?_ ?_ ?_
    rotate_left
    ·intro w'
     go_simp
     with_reducible rfl
    rotate_left
    ·simp only [ap]
     rfl
    refine take_ (i:=2) (N:=some 57) (v:=?_) (a':=?_) (lb 17 2383) rfl rfl (take_ofW HT_.out HW_.out (by kernel_rfl)) (fun _ _ _ h=>h) (Or.inl ⟨by rfl,?_⟩) hHeld ?_ ?_
    rotate_left
    ·rintro w' ⟨s0,s1,s2,s3,s4⟩
     go_simp
     with_reducible rfl
    rotate_left
    ·simp only [ap]
     rfl
    refine pu 4 (N:=some 59) (v:=?_) (a':=?_) (lb 17 2399) HT_ (by kernel_rfl) rfl rfl rfl (fun _ _ _ h=>h) ?_ ?_ ?_
    rotate_left
    ·intro w'
     go_simp
     with_reducible rfl
    rotate_left
    ·simp only [ap]
     rfl
    refine take_ (i:=5) (N:=some 60) (v:=?_) (a':=?_) (lb 17 2431) rfl rfl (take_ofW HT_.out HW_.out (by kernel_rfl)) (fun _ _ _ h=>h) (Or.inl ⟨by rfl,?_⟩) hHeld ?_ ?_
    rotate_left
    ·rintro w' ⟨s0,s1,s2,s3,s4⟩
     go_simp
     with_reducible rfl
    rotate_left
    ·simp only [ap]
     rfl
    refine take_ (i:=7) (N:=some 62) (v:=?_) (a':=?_) (lb 17 2559) rfl rfl (take_ofW HT_.out HW_.out (by kernel_rfl)) (fun _ _ _ h=>h) (Or.inl ⟨by rfl,?_⟩) hHeld ?_ ?_
    rotate_left
    ·rintro w' ⟨s0,s1,s2,s3,s4⟩
     go_simp
     with_reducible rfl
    rotate_left
    ·simp only [ap]
     rfl
    refine pu 9 (N:=some 64) (v:=?_) (a':=?_) (lb 17 3071) HT_ (by kernel_rfl) rfl rfl rfl (fun _ _ _ h=>h) ?_ ?_ ?_
    rotate_left
    ·intro w'
     go_simp
     with_reducible rfl
    rotate_left
    ·simp only [ap]
     rfl
    refine take_ (i:=10) (N:=some 65) (v:=?_) (a':=?_) (lb 17 4095) rfl rfl (take_ofW HT_.out HW_.out (by kernel_rfl)) (fun _ _ _ h=>h) (Or.inl ⟨by rfl,?_⟩) hHeld ?_ ?_
    rotate_left
    ·rintro w' ⟨s0,s1,s2,s3,s4⟩
     go_simp
     with_reducible rfl
    rotate_left
    ·simp only [ap]
     rfl
    refine pu 12 (N:=some 67) (v:=?_) (a':=?_) (lb 17 8191) HT_ (by kernel_rfl) rfl rfl rfl (fun _ _ _ h=>h) ?_ ?_ ?_
    rotate_left
    ·intro w'
     go_simp
     with_reducible rfl
    rotate_left
    ·simp only [ap]
     rfl
    refine pu 13 (N:=some 68) (v:=?_) (a':=?_) (lb 17 16383) HT_ (by kernel_rfl) rfl rfl rfl (fun _ _ _ h=>h) ?_ ?_ ?_
    rotate_left
    ·intro w'
     go_simp
     with_reducible rfl
    rotate_left
    ·simp only [ap]
     rfl
    refine one_ (i:=14) (N:=some 69) (lb 17 32767) rfl rfl (one_of HT_.out (by kernel_rfl)) (by decide) (fun K hK=>?_)
    refine value_ (w1:=?_) (v:=?_) (by rfl) rfl ?_ ?_
    rotate_left 2
    ·go_simp
     constructor
     rotate_left
     ·rfl
     rfl
    refine hK.out _ _ ⟨(blk_cell (blk_alloc BK330.out _) 0).trans rfl,(blk_cell (blk_alloc BK330.out _) 1).trans rfl,(blk_cell (blk_alloc BK330.out _) 2).trans rfl,(World.cell?_alloc_lt _ _ _ (World.block_lt_of_cell? _ _ (((HB.out.cell (World.block_lt_of_cell? w _ hw352_0)).trans hw352_0)))).trans (((HB.out.cell (World.block_lt_of_cell? w _ hw352_0)).trans hw352_0)),(World.cell?_alloc_lt _ _ _ (World.block_lt_of_cell? _ _ (((HB.out.cell (World.block_lt_of_cell? w _ hw353_0)).trans hw353_0)))).trans (((HB.out.cell (World.block_lt_of_cell? w _ hw353_0)).trans hw353_0))⟩ (fun hHeld=>?_)
    clear hK K
    refine norm_ (a':=?_) ?_ ?_
    rotate_left
    ·show Act.put _ (some 69) _ = _
     simp only [ap]
     rfl
    refine one_ (i:=15) (N:=some 70) (lb 17 65535) rfl rfl (one_of HT_.out (by kernel_rfl)) (by decide) (fun K hK=>?_)
    refine R_append_step (Kd.int .i64) (w0:=w) w.heap.size (by rfl) (.tmp 55) (.tmp 69) 22 3 (.int .i64 0) 8 rfl Try.underlying22 info3 rfl (by decide) (by omega) u8 x8_3 (wrap64 ((rd l0_1 x47_3) + (wrap64 ((rd l0_2 x47_3) * a1)))) [.int .i64 (wrap64 ((rd l0_1 x47_3) + (wrap64 ((rd l0_2 x47_3) * a1))))] (fun k_=>some k_ ≠ (u7 : Value).ownBlock ∧ some k_ ≠ (.slice (some ad351) t348.length co29 : Value).ownBlock) (fun _=>False) rfl rfl ?aP (fun _ hk=>hk.elim) ?aF ?aO ?aB ?aS ?aL ?_
    (case aP=>exact rfl)
    (case aB=>exact (h1 HB.out GE330.out))
    (case aF=>exact (fun k_ hk=>⟨Kd.fresh' (R_lt (rm HO_7.out)) k_ hk,Kd.fresh' (R_lt (rm HO_45.out)) k_ hk⟩))
    (case aO=>exact (rm HO_8.out))
    (case aS=>exact (below_size (h1 HB.out GE330.out)))
    (case aL=>have:=LMc36.out;omega)
    intro v355 w38 ho hb hg hat
    rw [← Ny354.out] at ho
    have n0_:=Aside0.mk (R_after (ok:=(fun k_=>some k_ ≠ (.slice (some ad351) t348.length co29 : Value).ownBlock)) (rm (R_mono HO_7.out (fun _ hk=>⟨hk.2,hk.1⟩))) hg hat)
    have n1_:=Aside0.mk (R_after (ok:=(fun k_=>some k_ ≠ (u7 : Value).ownBlock)) (rm HO_45.out) hg hat)
    have n2_:=Aside0.mk (blk_grown (g:=gb330) (o:=.cells #[.int .i64 a0_0,.slice (some ad352) l0_1.length c0_1,.slice (some ad353) l0_2.length c0_2] 27 (0,0)) (bm BK330.out) hg (R_ne HO_8.out BK330.out (by decide)))
    have n3_:=Aside0.mk (hb)
    have n4_:=Aside0.mk (ho)
    clear HO_7
    clear HO_45
    clear BK330
    clear HB
    clear HO_8
    have HO_7:=n0_
    have HO_45:=n1_
    have BK330:=n2_
    have HB:=n3_
    have HO356:=n4_
    clear n0_ n1_ n2_ n3_ n4_
    clear ho hb hg hat
    refine hK.out _ _ ⟨(blk_cell BK330.out 0).trans rfl,(blk_cell BK330.out 1).trans rfl,(blk_cell BK330.out 2).trans rfl,((HB.out.cell (World.block_lt_of_cell? w _ hw352_0)).trans hw352_0),((HB.out.cell (World.block_lt_of_cell? w _ hw353_0)).trans hw353_0)⟩ (fun hHeld=>?_)
    clear hK K
    refine norm_ (a':=?_) ?_ ?_
    rotate_left
    ·show Act.put _ (some 70) _ = _
     simp only [ap]
     rfl
    refine pu 16 (N:=some 8) (v:=?_) (a':=?_) (lb 17 131071) HT_ (by kernel_rfl) rfl rfl rfl (fun _ _ _ h=>h) ?_ ?_ ?_
    rotate_left
    ·intro w'
     go_simp
     with_reducible rfl
    rotate_left
    ·simp only [ap]
     rfl
    refine done_ (done_of HT_.out (by kernel_rfl)) ?_
    try go_wp2
    go_roundg k3
    case measure=>have:=HJ2.out;have:=HK2.out;have:=HK3.out;omega
    case rel=>exact ⟨(y354),(wrap64 (x47_3 + 1)),(by first|rfl|(simp;done)|(simp [*];done)),H',⟨by have:=HJ2.out;have:=HK2.out;have:=HK3.out;omega⟩,⟨rm (R_mono HO_7.out (fun _ hk=>⟨hk.2,hk.1⟩))⟩,⟨rm HO356.out⟩,⟨rm HO_45.out⟩,⟨bm BK330.out⟩,⟨h1 HB.out GE330.out⟩⟩


end
end Go.Proofs.Ytciihopkgblpkaa.QFnExactBeadsAt
