/- Functions that the law FnExactBeadsAt comes to, as Lean functions, with the proof that the Go code does what they say: written by a program of this session over the kit's print. No condition but those named. -/
import Derived.Test.YtciihopkgblpkaaQFnExactBeadsAtx0
import Derived.Test.YtciihopkgblpkaaQFnExactBeadsAtx2
namespace Go.Proofs.Ytciihopkgblpkaa.QFnExactBeadsAt
open Go.RowKit Go.Proofs.YtciihopkgblpkaaW.PrintWords Go.Proofs.YtciihopkgblpkaaW.PrintLast Go.Proofs.YtciihopkgblpkaaW.PrintMore Go.Proofs.Ytciihopkgblpkaa.Short
attribute [local go_sem] max2_int min2_int max_two min_two max_three min_three max_four min_four   -- for this text's walks alone
set_option linter.unusedVariables false
set_option linter.unusedSimpArgs false

/-! ### spec_FallsOf: function 29 -/
section
open Kd
mutual
def spec_FallsOf.l0 : Nat → List Int → List Int → Int → Int → List Int → List Int → Option (List Int × List Int × Bool)
 | 0,_,_,_,_,_,_=>none
 | k + 1,x5,x6,x7,x142000,x142001,x142002=>if x7 < (x142001.length : Int) then (if 0 ≤ x7 then (if x7 < (x142002.length : Int) then (if (rd x142002 x7) < 0 then (if x5.length < 17592186044416 then (if x6.length < 17592186044416 then (spec_FallsOf.l0 k (x5 ++ [rd x142001 x7]) (x6 ++ [(-1)]) (wrap64 (x7 + 1)) x142000 x142001 x142002) else (none)) else (none)) else (spec_FallsOf.l0 k x5 x6 (wrap64 (x7 + 1)) x142000 x142001 x142002)) else (none)) else (none)) else (spec_FallsOf.l1 k x5 x6 0 x142000 x142001 x142002)
def spec_FallsOf.l1 : Nat → List Int → List Int → Int → Int → List Int → List Int → Option (List Int × List Int × Bool)
 | 0,_,_,_,_,_,_=>none
 | k + 1,x5,x6,x8,x142000,x142001,x142002=>if x8 < (x142001.length : Int) then (if 0 ≤ x8 then (if x8 < (x142002.length : Int) then (if (rd x142002 x8) > 0 then (if x5.length < 17592186044416 then (if x6.length < 17592186044416 then (spec_FallsOf.l1 k (x5 ++ [wrap64 (x142000 - (rd x142001 x8))]) (x6 ++ [1]) (wrap64 (x8 + 1)) x142000 x142001 x142002) else (none)) else (none)) else (spec_FallsOf.l1 k x5 x6 (wrap64 (x8 + 1)) x142000 x142001 x142002)) else (none)) else (none)) else (some (x5,x6,true))
end
def spec_FallsOf.f (k : Nat) (a0_0 : Int) (l0_1 : List Int) (l0_2 : List Int) : Option (List Int × List Int × Bool):=(some (([] : List Int) : List Int)).bind fun y142=>((some (([] : List Int) : List Int)).bind fun y145=>((spec_l8Wire.f k a0_0 l0_1 l0_2).bind fun t148=>(if t148 = true then (spec_FallsOf.l0 k y142 y145 0 a0_0 l0_1 l0_2) else (some (y142,y145,false)))))
theorem spec_FallsOf.mono_l : ∀ k,(∀ y0 y1 y2 y3 y4 y5,LeO (spec_FallsOf.l0 k y0 y1 y2 y3 y4 y5) (spec_FallsOf.l0 (k + 1) y0 y1 y2 y3 y4 y5)) ∧ (∀ y0 y1 y2 y3 y4 y5,LeO (spec_FallsOf.l1 k y0 y1 y2 y3 y4 y5) (spec_FallsOf.l1 (k + 1) y0 y1 y2 y3 y4 y5))
 | 0=>⟨fun _ _ _ _ _ _ r h=>by simp [spec_FallsOf.l0] at h,fun _ _ _ _ _ _ r h=>by simp [spec_FallsOf.l1] at h⟩
 | k + 1=>by
  obtain ⟨ih0,ih1⟩:=spec_FallsOf.mono_l k
  refine ⟨?_,?_⟩
  ·intro y0 y1 y2 y3 y4 y5
   unfold spec_FallsOf.l0
   repeat' first
   | (with_reducible exact ih0 _ _ _ _ _ _)
   | (with_reducible exact ih1 _ _ _ _ _ _)
   | (with_reducible exact spec_l8Wire.mono _ _ _ _)
   | (with_reducible exact LeO.refl _)
   | (with_reducible exact LeO.none _)
   | (with_reducible refine LeO.ite ?_ ?_)
   | (with_reducible refine LeO.bind ?_ (fun _=>?_))
   | exact ih0 _ _ _ _ _ _
   | exact ih1 _ _ _ _ _ _
   | exact spec_l8Wire.mono _ _ _ _
   | exact LeO.none _
   | refine LeO.ite ?_ ?_
   | refine LeO.bind ?_ (fun _=>?_)
  ·intro y0 y1 y2 y3 y4 y5
   unfold spec_FallsOf.l1
   repeat' first
   | (with_reducible exact ih0 _ _ _ _ _ _)
   | (with_reducible exact ih1 _ _ _ _ _ _)
   | (with_reducible exact spec_l8Wire.mono _ _ _ _)
   | (with_reducible exact LeO.refl _)
   | (with_reducible exact LeO.none _)
   | (with_reducible refine LeO.ite ?_ ?_)
   | (with_reducible refine LeO.bind ?_ (fun _=>?_))
   | exact ih0 _ _ _ _ _ _
   | exact ih1 _ _ _ _ _ _
   | exact spec_l8Wire.mono _ _ _ _
   | exact LeO.none _
   | refine LeO.ite ?_ ?_
   | refine LeO.bind ?_ (fun _=>?_)
theorem spec_FallsOf.mono : ∀ a0 a1 a2 k,LeO (spec_FallsOf.f k a0 a1 a2) (spec_FallsOf.f (k + 1) a0 a1 a2):=by
 intro a0 a1 a2 k
 obtain ⟨ih0,ih1⟩:=spec_FallsOf.mono_l k
 unfold spec_FallsOf.f
 repeat' first
   | (with_reducible exact ih0 _ _ _ _ _ _)
   | (with_reducible exact ih1 _ _ _ _ _ _)
   | (with_reducible exact spec_l8Wire.mono _ _ _ _)
   | (with_reducible exact LeO.refl _)
   | (with_reducible exact LeO.none _)
   | (with_reducible refine LeO.ite ?_ ?_)
   | (with_reducible refine LeO.bind ?_ (fun _=>?_))
   | exact ih0 _ _ _ _ _ _
   | exact ih1 _ _ _ _ _ _
   | exact spec_l8Wire.mono _ _ _ _
   | exact LeO.none _
   | refine LeO.ite ?_ ?_
   | refine LeO.bind ?_ (fun _=>?_)
def spec_FallsOf.T14 : Bool × List (List Nat × List Nat):=(true,[([],[]),([],[]),([1],[1]),([],[]),([3],[3]),([],[]),([4,5],[4,5]),([6],[6]),([2,7],[2,7]),([8],[8]),([0,9],[0,9]),([10,10,0,1,2,3,4,5,6,7,8,9,10],[0,10])])
def spec_FallsOf.B14 : List Nat:=[0,0,2,0,8,0,56,120,254,510,1023,2047]
theorem spec_FallsOf.tab14 : rtab .any (opsOf Try.f29 14) = spec_FallsOf.T14:=by kernel_rfl
theorem spec_FallsOf.bits14 : waitsOk spec_FallsOf.T14.2 spec_FallsOf.B14 = true:=by kernel_rfl
set_option maxHeartbeats 8000000 in
set_option maxRecDepth 100000 in
theorem spec_FallsOf.calls (k : Nat) (a0_0 : Int) (A0_1 : Option Addr) (c0_1 : Nat) (l0_1 : List Int) (A0_2 : Option Addr) (c0_2 : Nat) (l0_2 : List Int) (r1 : List Int) (r2 : List Int) (r3 : Bool) (w : World) (hr0_1 : Kd.C (Kd.int .i64) w A0_1 l0_1.length l0_1) (hc0_1 : l0_1.length ≤ c0_1) (hr0_2 : Kd.C (Kd.int .i64) w A0_2 l0_2.length l0_2) (hc0_2 : l0_2.length ≤ c0_2) (h : spec_FallsOf.f k a0_0 l0_1 l0_2 = some (r1,r2,r3)) :
  Calls Try.prog 29 #[.agg #[.int .i64 a0_0,.slice A0_1 l0_1.length c0_1,.slice A0_2 l0_2.length c0_2]] w fun e w'=>∃ v0_ v1_ : Value,e = .returned (.tuple #[v0_,v1_,.bool r3]) ∧ Kd.R (Kd.int .i64) 3 w' w.heap.size (fun k_=>some k_ ≠ (v1_ : Value).ownBlock) v0_ r1 ∧ Kd.R (Kd.int .i64) 3 w' w.heap.size (fun k_=>some k_ ≠ (v0_ : Value).ownBlock) v1_ r2 ∧ Below w.heap.size w w':=by
 have hu27:=Try.underlying27
 have HR0_1:=Aside0.mk hr0_1
 have HC0_1:=Aside0.mk hc0_1
 clear hr0_1 hc0_1
 have HR0_2:=Aside0.mk hr0_2
 have HC0_2:=Aside0.mk hc0_2
 clear hr0_2 hc0_2
 have HB:=Aside0.mk (Below.refl w.heap.size w)
 have H : ((some (([] : List Int) : List Int)).bind fun y142=>((some (([] : List Int) : List Int)).bind fun y145=>((spec_l8Wire.f k a0_0 l0_1 l0_2).bind fun t148=>(if t148 = true then (spec_FallsOf.l0 k y142 y145 0 a0_0 l0_1 l0_2) else (some (y142,y145,false)))))) = some (r1,r2,r3):=h
 clear h
 obtain ⟨y142,hy142⟩ : ∃ y_ : List Int,y_ = (([] : List Int)):=⟨_,rfl⟩
 replace H : ((some (([] : List Int) : List Int)).bind fun y145=>((spec_l8Wire.f k a0_0 l0_1 l0_2).bind fun t148=>(if t148 = true then (spec_FallsOf.l0 k y142 y145 0 a0_0 l0_1 l0_2) else (some (y142,y145,false))))) = some (r1,r2,r3):=by first|(rw [hy142];with_reducible exact H)|(have H2_:=(Option.bind_some _ _).symm.trans H;rw [hy142];with_reducible exact H2_)|(have H2_:=(Option.bind_some _ _).symm.trans H;with_reducible exact H2_)|with_reducible exact H|(rw [hy142];exact H)|exact H
 have Ny142:=Aside0.mk hy142
 clear hy142
 obtain ⟨y145,hy145⟩ : ∃ y_ : List Int,y_ = (([] : List Int)):=⟨_,rfl⟩
 replace H : ((spec_l8Wire.f k a0_0 l0_1 l0_2).bind fun t148=>(if t148 = true then (spec_FallsOf.l0 k y142 y145 0 a0_0 l0_1 l0_2) else (some (y142,y145,false)))) = some (r1,r2,r3):=by first|(rw [hy145];with_reducible exact H)|(have H2_:=(Option.bind_some _ _).symm.trans H;rw [hy145];with_reducible exact H2_)|(have H2_:=(Option.bind_some _ _).symm.trans H;with_reducible exact H2_)|with_reducible exact H|(rw [hy145];exact H)|exact H
 have Ny145:=Aside0.mk hy145
 clear hy145
 replace H:=Option.bind_eq_some_iff.mp H
 obtain ⟨t148,A20,H⟩:=H
 replace H : (if t148 = true then (spec_FallsOf.l0 k y142 y145 0 a0_0 l0_1 l0_2) else (some (y142,y145,false))) = some (r1,r2,r3):=H
 have A2:=Aside0.mk A20
 clear A20
 by_cases c3 : t148 = true
 rotate_left
 ·replace c3:=Bool.eq_false_iff.mpr c3
  subst c3
  have H1 : (some (y142,y145,false)) = some (r1,r2,r3):=by rw [if_neg (show ¬ (false = true) by decide)] at H;exact H
  clear H
  have H:=H1
  clear H1
  simp only [Option.some.injEq,Prod.mk.injEq] at H
  obtain ⟨rfl,rfl,rfl⟩:=H
  go_enter Try.func29,Try.ntmps29
  go_wp2_with (first|((with_reducible refine gate_dst (N:=1) rfl ?_);refine box_event ?hg (N:=1) ?hd (cs:=#[.int .i64 a0_0,.slice A0_1 l0_1.length c0_1,.slice A0_2 l0_2.length c0_2]) (t:=27) ?hr ?_;(case hd=>rfl);(case hg=>rfl);(case hr=>first|(go_simp;done)|(go_simp;rfl));intro gb141 hg w34 hbox hb;have n0_:=Aside0.mk (below_step (hm HB.out) hb);have n1_:=Aside0.mk (hbox);have n2_:=Aside0.mk ((by rw [hg];exact (below_size (hm HB.out)) : w.heap.size ≤ gb141));have n3_:=Aside0.mk ((by rw [hg];exact (below_size (hm HB.out)) : w.heap.size ≤ gb141));clear HB;have HB:=n0_;have BK141:=n1_;have GW141:=n2_;have GE141:=n3_;clear n0_ n1_ n2_ n3_;clear hb hbox hg)|((with_reducible refine gate_dst (N:=9) rfl ?_);refine R_lit (Kd.int .i64) _ 3 ?hg (N:=9) ?hd (xs:=([] : List Int)) (inner:=[]) (ok:=fun _=>True) (okp:=fun _=>True) ?hr ?hp (fun _ hk=>hk) trivial (Below.refl _ _) (Nat.le_refl _) (by simp) ?_;(case hd=>rfl);(case hg=>rfl);(case hr=>first|(go_simp;done)|(go_simp;rfl));(case hp=>exact (Reps.none _ _));intro v143 w35 ho36 hb hg_ hnew_;clear hg_ hnew_;(first|rw [← Ny142.out] at ho36|(simp only [Int.reduceToNat] at ho36;rw [← Ny142.out] at ho36));have n0_:=Aside0.mk (R_lower ho36 (below_size (h1 HB.out GE141.out)));have n1_:=Aside0.mk (blk_below (g:=gb141) (o:=.cells #[.int .i64 a0_0,.slice A0_1 l0_1.length c0_1,.slice A0_2 l0_2.length c0_2] 27 (0,0)) (bm BK141.out) hb);have n2_:=Aside0.mk (below_step (h1 HB.out GE141.out) hb);clear BK141;clear HB;have HO144:=n0_;have BK141:=n1_;have HB:=n2_;clear n0_ n1_ n2_;clear hb ho36)|((with_reducible refine gate_dst (N:=10) rfl ?_);refine R_lit (Kd.int .i64) _ 3 ?hg (N:=10) ?hd (xs:=([] : List Int)) (inner:=[]) (ok:=fun _=>True) (okp:=fun _=>True) ?hr ?hp (fun _ hk=>hk) trivial (Below.refl _ _) (Nat.le_refl _) (by simp) ?_;(case hd=>rfl);(case hg=>rfl);(case hr=>first|(go_simp;done)|(go_simp;rfl));(case hp=>exact (Reps.none _ _));intro v146 w37 ho38 hb hg_ hnew_;clear hg_ hnew_;(first|rw [← Ny145.out] at ho38|(simp only [Int.reduceToNat] at ho38;rw [← Ny145.out] at ho38));have n0_:=Aside0.mk (R_elder' (rm HO144.out) (R_base ho38) hb);have n1_:=Aside0.mk (R_lower (R_new' ho38 (R_lt (rm HO144.out))) (below_size (h1 HB.out GE141.out)));have n2_:=Aside0.mk (blk_below (g:=gb141) (o:=.cells #[.int .i64 a0_0,.slice A0_1 l0_1.length c0_1,.slice A0_2 l0_2.length c0_2] 27 (0,0)) (bm BK141.out) hb);have n3_:=Aside0.mk (below_step (h1 HB.out GE141.out) hb);clear HO144;clear BK141;clear HB;have HO144:=n0_;have HO147:=n1_;have BK141:=n2_;have HB:=n3_;clear n0_ n1_ n2_ n3_;clear hb ho38;have hcz39_0 : w37.cell? ⟨gb141,0,none⟩ = some (.int .i64 a0_0):=(blk_cell BK141.out 0).trans rfl;have hcz39_1 : w37.cell? ⟨gb141,1,none⟩ = some (.slice A0_1 l0_1.length c0_1):=(blk_cell BK141.out 1).trans rfl;have hcz39_2 : w37.cell? ⟨gb141,2,none⟩ = some (.slice A0_2 l0_2.length c0_2):=(blk_cell BK141.out 2).trans rfl;have hfz39_0:=blk_frozen BK141.out 0;have hfz39_1:=blk_frozen BK141.out 1;have hfz39_2:=blk_frozen BK141.out 2)|((with_reducible refine gate_callee (f:=40) rfl ?_);refine goesL_ (some 12) rfl rfl Try.func40 (by kernel_rfl) rfl #[.agg #[.int .i64 a0_0,.slice A0_1 l0_1.length c0_1,.slice A0_2 l0_2.length c0_2]] rfl (by (try simp only [List.map_toArray,List.map_cons,List.map_nil]);first|done|rfl|(simp only [List.length_drop,List.length_take];rfl)) ?_;(with_reducible refine (spec_l8Wire.calls k a0_0 _ _ l0_1 _ _ l0_2 false _ ?side1 ?side2 ?side3 ?side4 A2.out).mono ?_);(case side1=>exact cm (C_below HR0_1.out HB.out));(case side2=>exact HC0_1.out);(case side3=>exact cm (C_below HR0_2.out HB.out));(case side4=>exact HC0_2.out);rintro e w40 ⟨rfl,hb⟩;refine ⟨_,rfl,?_⟩;have n0_:=Aside0.mk (R_below (rm HO144.out) hb);have n1_:=Aside0.mk (R_below (rm HO147.out) hb);have n2_:=Aside0.mk (blk_below (g:=gb141) (o:=.cells #[.int .i64 a0_0,.slice A0_1 l0_1.length c0_1,.slice A0_2 l0_2.length c0_2] 27 (0,0)) (bm BK141.out) hb);have n3_:=Aside0.mk (below_step (h1 HB.out GE141.out) hb);clear HO144;clear HO147;clear BK141;clear HB;have HO144:=n0_;have HO147:=n1_;have BK141:=n2_;have HB:=n3_;clear n0_ n1_ n2_ n3_;(try clear hb);(try clear hb2);(try clear hk);(try clear hi)))
  go_ret3
  exact ⟨_,_,by first|rfl|(simp [errW_none,errW_some] <;> rfl)|(simp [*,errW_none,errW_some] <;> rfl),rm (R_mono HO144.out (fun _ hk=>hk.2)),rm (R_mono HO147.out (fun _ hk=>hk.2)),h1 HB.out GE141.out⟩
 subst c3
 have H1 : (spec_FallsOf.l0 k y142 y145 0 a0_0 l0_1 l0_2) = some (r1,r2,r3):=by rw [if_pos rfl] at H;exact H
 clear H
 have H:=H1
 clear H1
 have H':=Aside0.mk H
 clear H
 go_enter Try.func29,Try.ntmps29
 go_wp2_with (first|((with_reducible refine gate_dst (N:=1) rfl ?_);refine box_event ?hg (N:=1) ?hd (cs:=#[.int .i64 a0_0,.slice A0_1 l0_1.length c0_1,.slice A0_2 l0_2.length c0_2]) (t:=27) ?hr ?_;(case hd=>rfl);(case hg=>rfl);(case hr=>first|(go_simp;done)|(go_simp;rfl));intro gb141 hg w4 hbox hb;have n0_:=Aside0.mk (below_step (hm HB.out) hb);have n1_:=Aside0.mk (hbox);have n2_:=Aside0.mk ((by rw [hg];exact (below_size (hm HB.out)) : w.heap.size ≤ gb141));have n3_:=Aside0.mk ((by rw [hg];exact (below_size (hm HB.out)) : w.heap.size ≤ gb141));clear HB;have HB:=n0_;have BK141:=n1_;have GW141:=n2_;have GE141:=n3_;clear n0_ n1_ n2_ n3_;clear hb hbox hg)|((with_reducible refine gate_dst (N:=9) rfl ?_);refine R_lit (Kd.int .i64) _ 3 ?hg (N:=9) ?hd (xs:=([] : List Int)) (inner:=[]) (ok:=fun _=>True) (okp:=fun _=>True) ?hr ?hp (fun _ hk=>hk) trivial (Below.refl _ _) (Nat.le_refl _) (by simp) ?_;(case hd=>rfl);(case hg=>rfl);(case hr=>first|(go_simp;done)|(go_simp;rfl));(case hp=>exact (Reps.none _ _));intro v143 w5 ho6 hb hg_ hnew_;clear hg_ hnew_;(first|rw [← Ny142.out] at ho6|(simp only [Int.reduceToNat] at ho6;rw [← Ny142.out] at ho6));have n0_:=Aside0.mk (R_lower ho6 (below_size (h1 HB.out GE141.out)));have n1_:=Aside0.mk (blk_below (g:=gb141) (o:=.cells #[.int .i64 a0_0,.slice A0_1 l0_1.length c0_1,.slice A0_2 l0_2.length c0_2] 27 (0,0)) (bm BK141.out) hb);have n2_:=Aside0.mk (below_step (h1 HB.out GE141.out) hb);clear BK141;clear HB;have HO144:=n0_;have BK141:=n1_;have HB:=n2_;clear n0_ n1_ n2_;clear hb ho6)|((with_reducible refine gate_dst (N:=10) rfl ?_);refine R_lit (Kd.int .i64) _ 3 ?hg (N:=10) ?hd (xs:=([] : List Int)) (inner:=[]) (ok:=fun _=>True) (okp:=fun _=>True) ?hr ?hp (fun _ hk=>hk) trivial (Below.refl _ _) (Nat.le_refl _) (by simp) ?_;(case hd=>rfl);(case hg=>rfl);(case hr=>first|(go_simp;done)|(go_simp;rfl));(case hp=>exact (Reps.none _ _));intro v146 w7 ho8 hb hg_ hnew_;clear hg_ hnew_;(first|rw [← Ny145.out] at ho8|(simp only [Int.reduceToNat] at ho8;rw [← Ny145.out] at ho8));have n0_:=Aside0.mk (R_elder' (rm HO144.out) (R_base ho8) hb);have n1_:=Aside0.mk (R_lower (R_new' ho8 (R_lt (rm HO144.out))) (below_size (h1 HB.out GE141.out)));have n2_:=Aside0.mk (blk_below (g:=gb141) (o:=.cells #[.int .i64 a0_0,.slice A0_1 l0_1.length c0_1,.slice A0_2 l0_2.length c0_2] 27 (0,0)) (bm BK141.out) hb);have n3_:=Aside0.mk (below_step (h1 HB.out GE141.out) hb);clear HO144;clear BK141;clear HB;have HO144:=n0_;have HO147:=n1_;have BK141:=n2_;have HB:=n3_;clear n0_ n1_ n2_ n3_;clear hb ho8;have hcz9_0 : w7.cell? ⟨gb141,0,none⟩ = some (.int .i64 a0_0):=(blk_cell BK141.out 0).trans rfl;have hcz9_1 : w7.cell? ⟨gb141,1,none⟩ = some (.slice A0_1 l0_1.length c0_1):=(blk_cell BK141.out 1).trans rfl;have hcz9_2 : w7.cell? ⟨gb141,2,none⟩ = some (.slice A0_2 l0_2.length c0_2):=(blk_cell BK141.out 2).trans rfl;have hfz9_0:=blk_frozen BK141.out 0;have hfz9_1:=blk_frozen BK141.out 1;have hfz9_2:=blk_frozen BK141.out 2)|((with_reducible refine gate_callee (f:=40) rfl ?_);refine goesL_ (some 12) rfl rfl Try.func40 (by kernel_rfl) rfl #[.agg #[.int .i64 a0_0,.slice A0_1 l0_1.length c0_1,.slice A0_2 l0_2.length c0_2]] rfl (by (try simp only [List.map_toArray,List.map_cons,List.map_nil]);first|done|rfl|(simp only [List.length_drop,List.length_take];rfl)) ?_;(with_reducible refine (spec_l8Wire.calls k a0_0 _ _ l0_1 _ _ l0_2 true _ ?side1 ?side2 ?side3 ?side4 A2.out).mono ?_);(case side1=>exact cm (C_below HR0_1.out HB.out));(case side2=>exact HC0_1.out);(case side3=>exact cm (C_below HR0_2.out HB.out));(case side4=>exact HC0_2.out);rintro e w10 ⟨rfl,hb⟩;refine ⟨_,rfl,?_⟩;have n0_:=Aside0.mk (R_below (rm HO144.out) hb);have n1_:=Aside0.mk (R_below (rm HO147.out) hb);have n2_:=Aside0.mk (blk_below (g:=gb141) (o:=.cells #[.int .i64 a0_0,.slice A0_1 l0_1.length c0_1,.slice A0_2 l0_2.length c0_2] 27 (0,0)) (bm BK141.out) hb);have n3_:=Aside0.mk (below_step (h1 HB.out GE141.out) hb);clear HO144;clear HO147;clear BK141;clear HB;have HO144:=n0_;have HO147:=n1_;have BK141:=n2_;have HB:=n3_;clear n0_ n1_ n2_ n3_;(try clear hb);(try clear hb2);(try clear hk);(try clear hi)))
 go_loopg [5,6,7] k (fun kq v5 v6 v7 w'=>∃ (x5_1 : List Int) (x6_1 : List Int) (x7_1 : Int),v7 = .int .i64 x7_1 ∧ Aside0 (spec_FallsOf.l0 kq x5_1 x6_1 x7_1 a0_0 l0_1 l0_2 = some (r1,r2,r3)) ∧ Aside0 (kq ≤ k) ∧ Aside0 (Kd.R (Kd.int .i64) 3 w' w.heap.size (fun k_=>some k_ ≠ (v6 : Value).ownBlock) v5 x5_1) ∧ Aside0 (Kd.R (Kd.int .i64) 3 w' w.heap.size (fun k_=>some k_ ≠ (v5 : Value).ownBlock) v6 x6_1) ∧ Aside0 (w'.heap[gb141]? = some (.cells #[.int .i64 a0_0,(.slice A0_1 l0_1.length c0_1),(.slice A0_2 l0_2.length c0_2)] 27 (0,0))) ∧ Aside0 (Below w.heap.size w w'))
 case atStart=>exact ⟨(y142),(y145),(0),(by first|rfl|(simp;done)|(simp [*];done)),H',⟨Nat.le_refl _⟩,⟨rm (R_mono HO144.out (fun _ hk=>hk.2))⟩,⟨rm (R_mono HO147.out (fun _ hk=>hk.2))⟩,⟨bm BK141.out⟩,⟨h1 HB.out GE141.out⟩⟩
 clear H'
 try clear c2
 try clear p2
 try clear c3
 try clear c4
 try clear hcz9_0
 try clear hcz9_1
 try clear hcz9_2
 try clear hfz9_0
 try clear hfz9_1
 try clear hfz9_2
 obtain ⟨x5_1,x6_1,x7_1,rfl,HA,HK1,HO_5,HO_6,BK141,HB⟩:=hrel
 cases gk with
 | zero=>exact absurd HA.out (by simp [spec_FallsOf.l0])
 | succ k1 =>
  have H:=HA.out
  clear HA
  simp only [spec_FallsOf.l0] at H
  by_cases c11 : x7_1 < (l0_1.length : Int)
  ·rw [if_pos c11] at H
   have c11b0 : decide (x7_1 < (l0_1.length : Int)) = true:=decide_eq_true c11
   clear c11
   by_cases c12 : 0 ≤ x7_1
   rotate_left
   ·rw [if_neg c12] at H
    exact absurd H (by simp)
   rw [if_pos c12] at H
   have c12b0 : decide (0 ≤ x7_1) = true:=decide_eq_true c12
   clear c12
   by_cases c13 : x7_1 < (l0_2.length : Int)
   rotate_left
   ·rw [if_neg c13] at H
    exact absurd H (by simp)
   rw [if_pos c13] at H
   have c13b0 : decide (x7_1 < (l0_2.length : Int)) = true:=decide_eq_true c13
   clear c13
   by_cases c14 : (rd l0_2 x7_1) < 0
   rotate_left
   ·rw [if_neg c14] at H
    have c14b0 : decide ((rd l0_2 x7_1) < 0) = false:=decide_eq_false c14
    clear c14
    have H':=Aside0.mk H
    clear H
    have hcz20_0 : wr.cell? ⟨gb141,0,none⟩ = some (.int .i64 a0_0):=(blk_cell BK141.out 0).trans rfl
    have hcz20_1 : wr.cell? ⟨gb141,1,none⟩ = some (.slice A0_1 l0_1.length c0_1):=(blk_cell BK141.out 1).trans rfl
    have hcz20_2 : wr.cell? ⟨gb141,2,none⟩ = some (.slice A0_2 l0_2.length c0_2):=(blk_cell BK141.out 2).trans rfl
    have hfz20_0:=blk_frozen BK141.out 0
    have hfz20_1:=blk_frozen BK141.out 1
    have hfz20_2:=blk_frozen BK141.out 2
    have p149 : 0 ≤ (x7_1 : Int):=od
    have q149 : x7_1 < (l0_2.length : Int):=od
    obtain ⟨ad149,e149,hx149_0⟩:=Kd.at_int HR0_2.out x7_1 p149 q149
    cases e149
    replace hx149_0:=(HB.out.cell (World.block_lt_of_cell? w _ hx149_0)).trans hx149_0
    replace p149:=eq_true p149
    replace q149:=eq_true q149
    go_wp2
    go_roundg k1
    case measure=>have:=HK1.out;omega
    case rel=>exact ⟨(x5_1),(x6_1),(wrap64 (x7_1 + 1)),(by first|rfl|(simp;done)|(simp [*];done)),H',⟨by have:=HK1.out;omega⟩,⟨rm HO_5.out⟩,⟨rm HO_6.out⟩,⟨bm BK141.out⟩,⟨h1 HB.out GE141.out⟩⟩
   rw [if_pos c14] at H
   have c14b0 : decide ((rd l0_2 x7_1) < 0) = true:=decide_eq_true c14
   clear c14
   by_cases c15 : x5_1.length < 17592186044416
   rotate_left
   ·rw [if_neg c15] at H
    exact absurd H (by simp)
   rw [if_pos c15] at H
   have LMc15:=Aside0.mk c15
   clear c15
   obtain ⟨y151,hy151⟩ : ∃ y_ : List Int,y_ = (x5_1 ++ [rd l0_1 x7_1]):=⟨_,rfl⟩
   replace H : (if x6_1.length < 17592186044416 then (spec_FallsOf.l0 k1 y151 (x6_1 ++ [(-1)]) (wrap64 (x7_1 + 1)) a0_0 l0_1 l0_2) else (none)) = some (r1,r2,r3):=by first|(rw [hy151];with_reducible exact H)|(have H2_:=(Option.bind_some _ _).symm.trans H;rw [hy151];with_reducible exact H2_)|(have H2_:=(Option.bind_some _ _).symm.trans H;with_reducible exact H2_)|with_reducible exact H|(rw [hy151];exact H)|exact H
   have Ny151:=Aside0.mk hy151
   clear hy151
   by_cases c16 : x6_1.length < 17592186044416
   rotate_left
   ·rw [if_neg c16] at H
    exact absurd H (by simp)
   rw [if_pos c16] at H
   have LMc16:=Aside0.mk c16
   clear c16
   obtain ⟨y154,hy154⟩ : ∃ y_ : List Int,y_ = (x6_1 ++ [(-1)]):=⟨_,rfl⟩
   replace H : (spec_FallsOf.l0 k1 y151 y154 (wrap64 (x7_1 + 1)) a0_0 l0_1 l0_2) = some (r1,r2,r3):=by first|(rw [hy154];with_reducible exact H)|(have H2_:=(Option.bind_some _ _).symm.trans H;rw [hy154];with_reducible exact H2_)|(have H2_:=(Option.bind_some _ _).symm.trans H;with_reducible exact H2_)|with_reducible exact H|(rw [hy154];exact H)|exact H
   have Ny154:=Aside0.mk hy154
   clear hy154
   have H':=Aside0.mk H
   clear H
   have hcz17_0 : wr.cell? ⟨gb141,0,none⟩ = some (.int .i64 a0_0):=(blk_cell BK141.out 0).trans rfl
   have hcz17_1 : wr.cell? ⟨gb141,1,none⟩ = some (.slice A0_1 l0_1.length c0_1):=(blk_cell BK141.out 1).trans rfl
   have hcz17_2 : wr.cell? ⟨gb141,2,none⟩ = some (.slice A0_2 l0_2.length c0_2):=(blk_cell BK141.out 2).trans rfl
   have hfz17_0:=blk_frozen BK141.out 0
   have hfz17_1:=blk_frozen BK141.out 1
   have hfz17_2:=blk_frozen BK141.out 2
   have p149 : 0 ≤ (x7_1 : Int):=od
   have q149 : x7_1 < (l0_2.length : Int):=od
   obtain ⟨ad149,e149,hx149_0⟩:=Kd.at_int HR0_2.out x7_1 p149 q149
   cases e149
   replace hx149_0:=(HB.out.cell (World.block_lt_of_cell? w _ hx149_0)).trans hx149_0
   replace p149:=eq_true p149
   replace q149:=eq_true q149
   have p150 : 0 ≤ (x7_1 : Int):=od
   have q150 : x7_1 < (l0_1.length : Int):=od
   obtain ⟨ad150,e150,hx150_0⟩:=Kd.at_int HR0_1.out x7_1 p150 q150
   cases e150
   replace hx150_0:=(HB.out.cell (World.block_lt_of_cell? w _ hx150_0)).trans hx150_0
   replace p150:=eq_true p150
   replace q150:=eq_true q150
   go_wp2_with (first|((with_reducible refine gate_builtin (b:=.append) (xs:=#[.tmp 29,.tmp 35]) rfl ?_);at_builtin;refine R_append (Kd.int .i64) (w0:=w) w.heap.size rfl (.tmp 29) (.tmp 35) 22 3 (.int .i64 0) 8 rfl Try.underlying22 info3 rfl (by decide) (by omega) u5 x5_1 (rd l0_1 x7_1) [.int .i64 (rd l0_1 x7_1)] (fun k_=>some k_ ≠ (u6 : Value).ownBlock) (fun _=>False) rfl rfl ?aP (fun _ hk=>hk.elim) ?aF ?aO ?aB ?aS ?aL ?_;(case aP=>exact rfl);(case aB=>exact (h1 HB.out GE141.out));(case aF=>exact (fun k_ hk=>Kd.fresh' (R_lt (rm HO_6.out)) k_ hk));(case aO=>exact (rm HO_5.out));(case aS=>exact (below_size (h1 HB.out GE141.out)));(case aL=>have:=LMc15.out;omega);intro v152 w18 ho hb hg hat;rw [← Ny151.out] at ho;have n0_:=Aside0.mk (R_after (ok:=(fun _=>True)) (rm (R_mono HO_6.out (fun _ hk=>⟨trivial,hk⟩))) hg hat);have n1_:=Aside0.mk (blk_grown (g:=gb141) (o:=.cells #[.int .i64 a0_0,.slice (some ad150) l0_1.length c0_1,.slice (some ad149) l0_2.length c0_2] 27 (0,0)) (bm BK141.out) hg (R_ne HO_5.out BK141.out (by decide)));have n2_:=Aside0.mk (hb);have n3_:=Aside0.mk (ho);clear HO_6;clear BK141;clear HB;clear HO_5;have HO_6:=n0_;have BK141:=n1_;have HB:=n2_;have HO153:=n3_;clear n0_ n1_ n2_ n3_;clear ho hb hg hat)|((with_reducible refine gate_builtin (b:=.append) (xs:=#[.tmp 37,.tmp 38]) rfl ?_);at_builtin;refine R_append (Kd.int .i64) (w0:=w) w.heap.size rfl (.tmp 37) (.tmp 38) 22 3 (.int .i64 0) 8 rfl Try.underlying22 info3 rfl (by decide) (by omega) u6 x6_1 (-1) [.int .i64 (-1)] (fun k_=>some k_ ≠ (v152 : Value).ownBlock) (fun _=>False) rfl rfl ?aP (fun _ hk=>hk.elim) ?aF ?aO ?aB ?aS ?aL ?_;(case aP=>exact rfl);(case aB=>exact (h1 HB.out GE141.out));(case aF=>exact (fun k_ hk=>Kd.fresh' (R_lt (rm HO153.out)) k_ hk));(case aO=>exact (rm (R_mono HO_6.out (fun _ hk=>hk.2))));(case aS=>exact (below_size (h1 HB.out GE141.out)));(case aL=>have:=LMc16.out;omega);intro v155 w19 ho hb hg hat;rw [← Ny154.out] at ho;have n0_:=Aside0.mk (blk_grown (g:=gb141) (o:=.cells #[.int .i64 a0_0,.slice (some ad150) l0_1.length c0_1,.slice (some ad149) l0_2.length c0_2] 27 (0,0)) (bm BK141.out) hg (R_ne HO_6.out BK141.out (by decide)));have n1_:=Aside0.mk (R_after (ok:=(fun _=>True)) (rm (R_mono HO153.out (fun _ hk=>⟨trivial,hk⟩))) hg hat);have n2_:=Aside0.mk (hb);have n3_:=Aside0.mk (ho);clear BK141;clear HO153;clear HB;clear HO_6;have BK141:=n0_;have HO153:=n1_;have HB:=n2_;have HO156:=n3_;clear n0_ n1_ n2_ n3_;clear ho hb hg hat))
   go_roundg k1
   case measure=>have:=HK1.out;omega
   case rel=>exact ⟨(y151),(y154),(wrap64 (x7_1 + 1)),(by first|rfl|(simp;done)|(simp [*];done)),H',⟨by have:=HK1.out;omega⟩,⟨rm (R_mono HO153.out (fun _ hk=>hk.2))⟩,⟨rm HO156.out⟩,⟨bm BK141.out⟩,⟨h1 HB.out GE141.out⟩⟩
  rw [if_neg c11] at H
  have c11b0 : decide (x7_1 < (l0_1.length : Int)) = false:=decide_eq_false c11
  clear c11
  have H':=Aside0.mk H
  clear H
  have hcz21_0 : wr.cell? ⟨gb141,0,none⟩ = some (.int .i64 a0_0):=(blk_cell BK141.out 0).trans rfl
  have hcz21_1 : wr.cell? ⟨gb141,1,none⟩ = some (.slice A0_1 l0_1.length c0_1):=(blk_cell BK141.out 1).trans rfl
  have hcz21_2 : wr.cell? ⟨gb141,2,none⟩ = some (.slice A0_2 l0_2.length c0_2):=(blk_cell BK141.out 2).trans rfl
  have hfz21_0:=blk_frozen BK141.out 0
  have hfz21_1:=blk_frozen BK141.out 1
  have hfz21_2:=blk_frozen BK141.out 2
  go_wp2
  go_loopg [5,6,8] k1 (fun kq v5 v6 v8 w'=>∃ (x5_2 : List Int) (x6_2 : List Int) (x8_2 : Int),v8 = .int .i64 x8_2 ∧ Aside0 (spec_FallsOf.l1 kq x5_2 x6_2 x8_2 a0_0 l0_1 l0_2 = some (r1,r2,r3)) ∧ Aside0 (kq ≤ k1) ∧ Aside0 (Kd.R (Kd.int .i64) 3 w' w.heap.size (fun k_=>some k_ ≠ (v6 : Value).ownBlock) v5 x5_2) ∧ Aside0 (Kd.R (Kd.int .i64) 3 w' w.heap.size (fun k_=>some k_ ≠ (v5 : Value).ownBlock) v6 x6_2) ∧ Aside0 (w'.heap[gb141]? = some (.cells #[.int .i64 a0_0,(.slice A0_1 l0_1.length c0_1),(.slice A0_2 l0_2.length c0_2)] 27 (0,0))) ∧ Aside0 (Below w.heap.size w w'))
  case atStart=>exact ⟨(x5_1),(x6_1),(0),(by first|rfl|(simp;done)|(simp [*];done)),H',⟨Nat.le_refl _⟩,⟨rm HO_5.out⟩,⟨rm HO_6.out⟩,⟨bm BK141.out⟩,⟨h1 HB.out GE141.out⟩⟩
  clear H'
  try clear c1
  try clear p1
  try clear q1
  try clear hx1
  try clear c2
  try clear p2
  try clear c3
  try clear c4
  try clear p6
  try clear c11
  try clear c11b0
  try clear c12
  try clear c12b0
  try clear c13
  try clear c13b0
  try clear c14
  try clear c14b0
  try clear p14
  try clear q14
  try clear hx14
  try clear c15
  try clear p15
  try clear q15
  try clear hx15
  try clear c16
  try clear hcz17_0
  try clear hcz17_1
  try clear hcz17_2
  try clear hcz20_0
  try clear hcz20_1
  try clear hcz20_2
  try clear hcz21_0
  try clear hcz21_1
  try clear hcz21_2
  try clear hcz9_0
  try clear hcz9_1
  try clear hcz9_2
  try clear hfz17_0
  try clear hfz17_1
  try clear hfz17_2
  try clear hfz20_0
  try clear hfz20_1
  try clear hfz20_2
  try clear hfz21_0
  try clear hfz21_1
  try clear hfz21_2
  try clear hfz9_0
  try clear hfz9_1
  try clear hfz9_2
  try clear hx149_0
  try clear hx150_0
  try clear p149
  try clear p150
  try clear p2
  try clear q149
  try clear q150
  obtain ⟨x5_2,x6_2,x8_2,rfl,HA,HK2,HO_5,HO_6,BK141,HB⟩:=hrel
  cases gk with
  | zero=>exact absurd HA.out (by simp [spec_FallsOf.l1])
  | succ k2 =>
   have H:=HA.out
   clear HA
   simp only [spec_FallsOf.l1] at H
   by_cases c22 : x8_2 < (l0_1.length : Int)
   rotate_left
   ·rw [if_neg c22] at H
    have c22b0 : decide (x8_2 < (l0_1.length : Int)) = false:=decide_eq_false c22
    clear c22
    simp only [Option.some.injEq,Prod.mk.injEq] at H
    obtain ⟨rfl,rfl,rfl⟩:=H
    have hcz33_0 : wr.cell? ⟨gb141,0,none⟩ = some (.int .i64 a0_0):=(blk_cell BK141.out 0).trans rfl
    have hcz33_1 : wr.cell? ⟨gb141,1,none⟩ = some (.slice A0_1 l0_1.length c0_1):=(blk_cell BK141.out 1).trans rfl
    have hcz33_2 : wr.cell? ⟨gb141,2,none⟩ = some (.slice A0_2 l0_2.length c0_2):=(blk_cell BK141.out 2).trans rfl
    have hfz33_0:=blk_frozen BK141.out 0
    have hfz33_1:=blk_frozen BK141.out 1
    have hfz33_2:=blk_frozen BK141.out 2
    go_wp2
    go_ret3
    exact ⟨_,_,by first|rfl|(simp [errW_none,errW_some] <;> rfl)|(simp [*,errW_none,errW_some] <;> rfl),rm HO_5.out,rm HO_6.out,h1 HB.out GE141.out⟩
   rw [if_pos c22] at H
   have c22b0 : decide (x8_2 < (l0_1.length : Int)) = true:=decide_eq_true c22
   clear c22
   by_cases c23 : 0 ≤ x8_2
   rotate_left
   ·rw [if_neg c23] at H
    exact absurd H (by simp)
   rw [if_pos c23] at H
   have c23b0 : decide (0 ≤ x8_2) = true:=decide_eq_true c23
   clear c23
   by_cases c24 : x8_2 < (l0_2.length : Int)
   rotate_left
   ·rw [if_neg c24] at H
    exact absurd H (by simp)
   rw [if_pos c24] at H
   have c24b0 : decide (x8_2 < (l0_2.length : Int)) = true:=decide_eq_true c24
   clear c24
   by_cases c25 : (rd l0_2 x8_2) > 0
   rotate_left
   ·rw [if_neg c25] at H
    have c25b0 : decide (0 < (rd l0_2 x8_2)) = false:=decide_eq_false c25
    clear c25
    have H':=Aside0.mk H
    clear H
    have hcz32_0 : wr.cell? ⟨gb141,0,none⟩ = some (.int .i64 a0_0):=(blk_cell BK141.out 0).trans rfl
    have hcz32_1 : wr.cell? ⟨gb141,1,none⟩ = some (.slice A0_1 l0_1.length c0_1):=(blk_cell BK141.out 1).trans rfl
    have hcz32_2 : wr.cell? ⟨gb141,2,none⟩ = some (.slice A0_2 l0_2.length c0_2):=(blk_cell BK141.out 2).trans rfl
    have hfz32_0:=blk_frozen BK141.out 0
    have hfz32_1:=blk_frozen BK141.out 1
    have hfz32_2:=blk_frozen BK141.out 2
    have p157 : 0 ≤ (x8_2 : Int):=od
    have q157 : x8_2 < (l0_2.length : Int):=od
    obtain ⟨ad157,e157,hx157_0⟩:=Kd.at_int HR0_2.out x8_2 p157 q157
    cases e157
    replace hx157_0:=(HB.out.cell (World.block_lt_of_cell? w _ hx157_0)).trans hx157_0
    replace p157:=eq_true p157
    replace q157:=eq_true q157
    go_wp2
    go_roundg k2
    case measure=>have:=HK1.out;have:=HK2.out;omega
    case rel=>exact ⟨(x5_2),(x6_2),(wrap64 (x8_2 + 1)),(by first|rfl|(simp;done)|(simp [*];done)),H',⟨by have:=HK1.out;have:=HK2.out;omega⟩,⟨rm HO_5.out⟩,⟨rm HO_6.out⟩,⟨bm BK141.out⟩,⟨h1 HB.out GE141.out⟩⟩
   rw [if_pos c25] at H
   have c25b0 : decide (0 < (rd l0_2 x8_2)) = true:=decide_eq_true c25
   clear c25
   by_cases c26 : x5_2.length < 17592186044416
   rotate_left
   ·rw [if_neg c26] at H
    exact absurd H (by simp)
   rw [if_pos c26] at H
   have LMc26:=Aside0.mk c26
   clear c26
   obtain ⟨y159,hy159⟩ : ∃ y_ : List Int,y_ = (x5_2 ++ [wrap64 (a0_0 - (rd l0_1 x8_2))]):=⟨_,rfl⟩
   replace H : (if x6_2.length < 17592186044416 then (spec_FallsOf.l1 k2 y159 (x6_2 ++ [1]) (wrap64 (x8_2 + 1)) a0_0 l0_1 l0_2) else (none)) = some (r1,r2,r3):=by first|(rw [hy159];with_reducible exact H)|(have H2_:=(Option.bind_some _ _).symm.trans H;rw [hy159];with_reducible exact H2_)|(have H2_:=(Option.bind_some _ _).symm.trans H;with_reducible exact H2_)|with_reducible exact H|(rw [hy159];exact H)|exact H
   have Ny159:=Aside0.mk hy159
   clear hy159
   by_cases c27 : x6_2.length < 17592186044416
   rotate_left
   ·rw [if_neg c27] at H
    exact absurd H (by simp)
   rw [if_pos c27] at H
   have LMc27:=Aside0.mk c27
   clear c27
   obtain ⟨y162,hy162⟩ : ∃ y_ : List Int,y_ = (x6_2 ++ [1]):=⟨_,rfl⟩
   replace H : (spec_FallsOf.l1 k2 y159 y162 (wrap64 (x8_2 + 1)) a0_0 l0_1 l0_2) = some (r1,r2,r3):=by first|(rw [hy162];with_reducible exact H)|(have H2_:=(Option.bind_some _ _).symm.trans H;rw [hy162];with_reducible exact H2_)|(have H2_:=(Option.bind_some _ _).symm.trans H;with_reducible exact H2_)|with_reducible exact H|(rw [hy162];exact H)|exact H
   have Ny162:=Aside0.mk hy162
   clear hy162
   have H':=Aside0.mk H
   clear H
   have hcz28_0 : wr.cell? ⟨gb141,0,none⟩ = some (.int .i64 a0_0):=(blk_cell BK141.out 0).trans rfl
   have hcz28_1 : wr.cell? ⟨gb141,1,none⟩ = some (.slice A0_1 l0_1.length c0_1):=(blk_cell BK141.out 1).trans rfl
   have hcz28_2 : wr.cell? ⟨gb141,2,none⟩ = some (.slice A0_2 l0_2.length c0_2):=(blk_cell BK141.out 2).trans rfl
   have hfz28_0:=blk_frozen BK141.out 0
   have hfz28_1:=blk_frozen BK141.out 1
   have hfz28_2:=blk_frozen BK141.out 2
   have p157 : 0 ≤ (x8_2 : Int):=od
   have q157 : x8_2 < (l0_2.length : Int):=od
   obtain ⟨ad157,e157,hx157_0⟩:=Kd.at_int HR0_2.out x8_2 p157 q157
   cases e157
   replace hx157_0:=(HB.out.cell (World.block_lt_of_cell? w _ hx157_0)).trans hx157_0
   replace p157:=eq_true p157
   replace q157:=eq_true q157
   try go_wp2
   have n0_:=Aside0.mk (R_drew HO_5.out)
   have n1_:=Aside0.mk (R_drew HO_6.out)
   have n2_:=Aside0.mk (blk_drew BK141.out)
   have n3_:=Aside0.mk (below_drew1 HB.out)
   clear HO_5
   clear HO_6
   clear BK141
   clear HB
   have HO_5:=n0_
   have HO_6:=n1_
   have BK141:=n2_
   have HB:=n3_
   clear n0_ n1_ n2_ n3_
   have p158 : 0 ≤ (x8_2 : Int):=od
   have q158 : x8_2 < (l0_1.length : Int):=od
   obtain ⟨ad158,e158,hx158_0⟩:=Kd.at_int HR0_1.out x8_2 p158 q158
   have hw158_0:=hx158_0
   cases e158
   replace hx158_0:=(HB.out.cell (World.block_lt_of_cell? w _ hx158_0)).trans hx158_0
   replace p158:=eq_true p158
   replace q158:=eq_true q158
   refine start_ (n:=12) (S:=fun w'=>w'.cell? ⟨gb141,0,none⟩ = some (.int .i64 a0_0) ∧ w'.cell? ⟨gb141,1,none⟩ = some (.slice (some ad158) l0_1.length c0_1) ∧ w'.cell? ⟨gb141,2,none⟩ = some (.slice (some ad157) l0_2.length c0_2) ∧ w'.cell? (ad158.add (x8_2).toNat) = some (.int .i64 (rd l0_1 x8_2))) (ds:=[]) (lb 12 0) (by kernel_rfl) rfl rfl ⟨(blk_cell BK141.out 0).trans rfl,(blk_cell BK141.out 1).trans rfl,(blk_cell BK141.out 2).trans rfl,((HB.out.cell (World.block_lt_of_cell? w _ hw158_0)).trans hw158_0)⟩ (fun hHeld=>?_);refine with_tabW spec_FallsOf.tab14 spec_FallsOf.bits14 (fun HT_ HW_=>?_)
   generalize wr.drew = w29 at HO_5 HO_6 BK141 HB hx158_0 hHeld ⊢
   refine pu 0 (N:=some 53) (v:=?_) (a':=?_) (lb 12 1) HT_ (by kernel_rfl) rfl rfl rfl (fun _ _ _ h=>h) ?_ ?_ ?_
   rotate_left
   ·intro w'
    go_simp
    with_reducible rfl
   rotate_left
   ·simp only [ap]
    rfl
   refine pu 1 (N:=some 54) (v:=?_) (a':=?_) (lb 12 3) HT_ (by kernel_rfl) rfl rfl rfl (fun _ _ _ h=>h) ?_ ?_ ?_
   rotate_left
   ·intro w'
    go_simp
    with_reducible rfl
   rotate_left
   ·simp only [ap]
    rfl
   refine pu 3 (N:=some 56) (v:=?_) (a':=?_) (lb 12 11) HT_ (by kernel_rfl) rfl rfl rfl (fun _ _ _ h=>h) ?_ ?_ ?_
   rotate_left
   ·intro w'
    go_simp
    with_reducible rfl
   rotate_left
   ·simp only [ap]
    rfl
   refine pu 5 (N:=some 58) (v:=?_) (a':=?_) (lb 12 43) HT_ (by kernel_rfl) rfl rfl rfl (fun _ _ _ h=>h) ?_ ?_ ?_
   rotate_left
   ·intro w'
    go_simp
    with_reducible rfl
   rotate_left
   ·simp only [ap]
    rfl
   refine take_ (i:=2) (N:=some 55) (v:=?_) (a':=?_) (lb 12 47) rfl rfl (take_ofW HT_.out HW_.out (by kernel_rfl)) (fun _ _ _ h=>h) (Or.inl ⟨by rfl,?_⟩) hHeld ?_ ?_
   rotate_left
   ·rintro w' ⟨s0,s1,s2,s3⟩
    go_simp
    with_reducible rfl
   rotate_left
   ·simp only [ap]
    rfl
   refine take_ (i:=4) (N:=some 57) (v:=?_) (a':=?_) (lb 12 63) rfl rfl (take_ofW HT_.out HW_.out (by kernel_rfl)) (fun _ _ _ h=>h) (Or.inl ⟨by rfl,?_⟩) hHeld ?_ ?_
   rotate_left
   ·rintro w' ⟨s0,s1,s2,s3⟩
    go_simp
    with_reducible rfl
   rotate_left
   ·simp only [ap]
    rfl
   refine pu 6 (N:=some 59) (v:=?_) (a':=?_) (lb 12 127) HT_ (by kernel_rfl) rfl rfl rfl (fun _ _ _ h=>h) ?_ ?_ ?_
   rotate_left
   ·intro w'
    go_simp
    with_reducible rfl
   rotate_left
   ·simp only [ap]
    rfl
   refine take_ (i:=7) (N:=some 60) (v:=?_) (a':=?_) (lb 12 255) rfl rfl (take_ofW HT_.out HW_.out (by kernel_rfl)) (fun _ _ _ h=>h) (Or.inl ⟨by rfl,?_⟩) hHeld ?_ ?_
   rotate_left
   ·rintro w' ⟨s0,s1,s2,s3⟩
    go_simp
    with_reducible rfl
   rotate_left
   ·simp only [ap]
    rfl
   refine pu 8 (N:=some 61) (v:=?_) (a':=?_) (lb 12 511) HT_ (by kernel_rfl) rfl rfl rfl (fun _ _ _ h=>h) ?_ ?_ ?_
   rotate_left
   ·intro w'
    go_simp
    with_reducible rfl
   rotate_left
   ·simp only [ap]
    rfl
   refine one_ (i:=9) (N:=some 62) (lb 12 1023) rfl rfl (one_of HT_.out (by kernel_rfl)) (by decide) (fun K hK=>?_)
   refine value_ (w1:=?_) (v:=?_) (by rfl) rfl ?_ ?_
   rotate_left 2
   ·go_simp
    constructor
    rotate_left
    ·rfl
    rfl
   refine hK.out _ _ ⟨(blk_cell (blk_alloc BK141.out _) 0).trans rfl,(blk_cell (blk_alloc BK141.out _) 1).trans rfl,(blk_cell (blk_alloc BK141.out _) 2).trans rfl,(World.cell?_alloc_lt _ _ _ (World.block_lt_of_cell? _ _ (((HB.out.cell (World.block_lt_of_cell? w _ hw158_0)).trans hw158_0)))).trans (((HB.out.cell (World.block_lt_of_cell? w _ hw158_0)).trans hw158_0))⟩ (fun hHeld=>?_)
   clear hK K
   refine norm_ (a':=?_) ?_ ?_
   rotate_left
   ·show Act.put _ (some 62) _ = _
    simp only [ap]
    rfl
   refine one_ (i:=10) (N:=some 63) (lb 12 2047) rfl rfl (one_of HT_.out (by kernel_rfl)) (by decide) (fun K hK=>?_)
   refine R_append_step (Kd.int .i64) (w0:=w) w.heap.size (by rfl) (.tmp 53) (.tmp 62) 22 3 (.int .i64 0) 8 rfl Try.underlying22 info3 rfl (by decide) (by omega) u5 x5_2 (wrap64 (a0_0 - (rd l0_1 x8_2))) [.int .i64 (wrap64 (a0_0 - (rd l0_1 x8_2)))] (fun k_=>some k_ ≠ (u6 : Value).ownBlock) (fun _=>False) rfl rfl ?aP (fun _ hk=>hk.elim) ?aF ?aO ?aB ?aS ?aL ?_
   (case aP=>exact rfl)
   (case aB=>exact (h1 HB.out GE141.out))
   (case aF=>exact (fun k_ hk=>Kd.fresh' (R_lt (rm HO_6.out)) k_ hk))
   (case aO=>exact (rm HO_5.out))
   (case aS=>exact (below_size (h1 HB.out GE141.out)))
   (case aL=>have:=LMc26.out;omega)
   intro v160 w30 ho hb hg hat
   rw [← Ny159.out] at ho
   have n0_:=Aside0.mk (R_after (ok:=(fun _=>True)) (rm (R_mono HO_6.out (fun _ hk=>⟨trivial,hk⟩))) hg hat)
   have n1_:=Aside0.mk (blk_grown (g:=gb141) (o:=.cells #[.int .i64 a0_0,.slice (some ad158) l0_1.length c0_1,.slice (some ad157) l0_2.length c0_2] 27 (0,0)) (bm BK141.out) hg (R_ne HO_5.out BK141.out (by decide)))
   have n2_:=Aside0.mk (hb)
   have n3_:=Aside0.mk (ho)
   clear HO_6
   clear BK141
   clear HB
   clear HO_5
   have HO_6:=n0_
   have BK141:=n1_
   have HB:=n2_
   have HO161:=n3_
   clear n0_ n1_ n2_ n3_
   clear ho hb hg hat
   refine hK.out _ _ ⟨(blk_cell BK141.out 0).trans rfl,(blk_cell BK141.out 1).trans rfl,(blk_cell BK141.out 2).trans rfl,((HB.out.cell (World.block_lt_of_cell? w _ hw158_0)).trans hw158_0)⟩ (fun hHeld=>?_)
   clear hK K
   refine norm_ (a':=?_) ?_ ?_
   rotate_left
   ·show Act.put _ (some 63) _ = _
    simp only [ap]
    rfl
   refine pu 11 (N:=some 5) (v:=?_) (a':=?_) (lb 12 4095) HT_ (by kernel_rfl) rfl rfl rfl (fun _ _ _ h=>h) ?_ ?_ ?_
   rotate_left
   ·intro w'
    go_simp
    with_reducible rfl
   rotate_left
   ·simp only [ap]
    rfl
   refine done_ (done_of HT_.out (by kernel_rfl)) ?_
   try go_wp2_with (first|((with_reducible refine gate_builtin (b:=.append) (xs:=#[.tmp 64,.tmp 65]) rfl ?_);at_builtin;refine R_append (Kd.int .i64) (w0:=w) w.heap.size rfl (.tmp 64) (.tmp 65) 22 3 (.int .i64 0) 8 rfl Try.underlying22 info3 rfl (by decide) (by omega) u6 x6_2 1 [.int .i64 1] (fun k_=>some k_ ≠ (v160 : Value).ownBlock) (fun _=>False) rfl rfl ?aP (fun _ hk=>hk.elim) ?aF ?aO ?aB ?aS ?aL ?_;(case aP=>exact rfl);(case aB=>exact (h1 HB.out GE141.out));(case aF=>exact (fun k_ hk=>Kd.fresh' (R_lt (rm HO161.out)) k_ hk));(case aO=>exact (rm (R_mono HO_6.out (fun _ hk=>hk.2))));(case aS=>exact (below_size (h1 HB.out GE141.out)));(case aL=>have:=LMc27.out;omega);intro v163 w31 ho hb hg hat;rw [← Ny162.out] at ho;have n0_:=Aside0.mk (blk_grown (g:=gb141) (o:=.cells #[.int .i64 a0_0,.slice (some ad158) l0_1.length c0_1,.slice (some ad157) l0_2.length c0_2] 27 (0,0)) (bm BK141.out) hg (R_ne HO_6.out BK141.out (by decide)));have n1_:=Aside0.mk (R_after (ok:=(fun _=>True)) (rm (R_mono HO161.out (fun _ hk=>⟨trivial,hk⟩))) hg hat);have n2_:=Aside0.mk (hb);have n3_:=Aside0.mk (ho);clear BK141;clear HO161;clear HB;clear HO_6;have BK141:=n0_;have HO161:=n1_;have HB:=n2_;have HO164:=n3_;clear n0_ n1_ n2_ n3_;clear ho hb hg hat))
   go_roundg k2
   case measure=>have:=HK1.out;have:=HK2.out;omega
   case rel=>exact ⟨(y159),(y162),(wrap64 (x8_2 + 1)),(by first|rfl|(simp;done)|(simp [*];done)),H',⟨by have:=HK1.out;have:=HK2.out;omega⟩,⟨rm (R_mono HO161.out (fun _ hk=>hk.2))⟩,⟨rm HO164.out⟩,⟨bm BK141.out⟩,⟨h1 HB.out GE141.out⟩⟩

/-! ### spec_l8Shades: function 44 -/
def spec_l8Shades.l0 : Nat → List Int → Int → Int → List Int → List Int → Option (List Int)
 | 0,_,_,_,_,_=>none
 | k + 1,x3,x4,x166000,x166001,x166002=>if x4 < (x166001.length : Int) then (if 0 ≤ x4 then (if x4 < (x166002.length : Int) then (if (rd x166002 x4) < 0 then (if x3.length < 17592186044416 then (spec_l8Shades.l0 k (x3 ++ [rd x166001 x4]) (wrap64 (x4 + 1)) x166000 x166001 x166002) else (none)) else (if x3.length < 17592186044416 then (spec_l8Shades.l0 k (x3 ++ [wrap64 (x166000 - (rd x166001 x4))]) (wrap64 (x4 + 1)) x166000 x166001 x166002) else (none))) else (none)) else (none)) else (some x3)
def spec_l8Shades.f (k : Nat) (a0_0 : Int) (l0_1 : List Int) (l0_2 : List Int) : Option (List Int):=spec_l8Shades.l0 k (([] : List Int)) 0 a0_0 l0_1 l0_2
theorem spec_l8Shades.mono_l : ∀ k,(∀ y0 y1 y2 y3 y4,LeO (spec_l8Shades.l0 k y0 y1 y2 y3 y4) (spec_l8Shades.l0 (k + 1) y0 y1 y2 y3 y4))
 | 0=>fun _ _ _ _ _ r h=>by simp [spec_l8Shades.l0] at h
 | k + 1=>by
  have ih0:=spec_l8Shades.mono_l k
  ·intro y0 y1 y2 y3 y4
   unfold spec_l8Shades.l0
   repeat' first
   | (with_reducible exact ih0 _ _ _ _ _)
   | (with_reducible exact LeO.refl _)
   | (with_reducible exact LeO.none _)
   | (with_reducible refine LeO.ite ?_ ?_)
   | (with_reducible refine LeO.bind ?_ (fun _=>?_))
   | exact ih0 _ _ _ _ _
   | exact LeO.none _
   | refine LeO.ite ?_ ?_
   | refine LeO.bind ?_ (fun _=>?_)
theorem spec_l8Shades.mono : ∀ a0 a1 a2 k,LeO (spec_l8Shades.f k a0 a1 a2) (spec_l8Shades.f (k + 1) a0 a1 a2):=by
 intro a0 a1 a2 k
 have ih0:=spec_l8Shades.mono_l k
 unfold spec_l8Shades.f
 repeat' first
   | (with_reducible exact ih0 _ _ _ _ _)
   | (with_reducible exact LeO.refl _)
   | (with_reducible exact LeO.none _)
   | (with_reducible refine LeO.ite ?_ ?_)
   | (with_reducible refine LeO.bind ?_ (fun _=>?_))
   | exact ih0 _ _ _ _ _
   | exact LeO.none _
   | refine LeO.ite ?_ ?_
   | refine LeO.bind ?_ (fun _=>?_)
def spec_l8Shades.T7 : Bool × List (List Nat × List Nat):=(true,[([],[]),([],[]),([1],[1]),([],[]),([3],[3]),([],[]),([4,5],[4,5]),([6],[6]),([2,7],[2,7]),([8],[8]),([0,9],[0,9]),([10,10,0,1,2,3,4,5,6,7,8,9,10],[0,10])])
def spec_l8Shades.B7 : List Nat:=[0,0,2,0,8,0,56,120,254,510,1023,2047]
theorem spec_l8Shades.tab7 : rtab .any (opsOf Try.f44 7) = spec_l8Shades.T7:=by kernel_rfl
theorem spec_l8Shades.bits7 : waitsOk spec_l8Shades.T7.2 spec_l8Shades.B7 = true:=by kernel_rfl
set_option maxHeartbeats 8000000 in
set_option maxRecDepth 100000 in
theorem spec_l8Shades.calls (k : Nat) (a0_0 : Int) (A0_1 : Option Addr) (c0_1 : Nat) (l0_1 : List Int) (A0_2 : Option Addr) (c0_2 : Nat) (l0_2 : List Int) (r : List Int) (w : World) (hr0_1 : Kd.C (Kd.int .i64) w A0_1 l0_1.length l0_1) (hc0_1 : l0_1.length ≤ c0_1) (hr0_2 : Kd.C (Kd.int .i64) w A0_2 l0_2.length l0_2) (hc0_2 : l0_2.length ≤ c0_2) (h : spec_l8Shades.f k a0_0 l0_1 l0_2 = some r) :
  Calls Try.prog 44 #[.agg #[.int .i64 a0_0,.slice A0_1 l0_1.length c0_1,.slice A0_2 l0_2.length c0_2]] w fun e w'=>∃ v0_ : Value,e = .returned (v0_) ∧ Kd.R (Kd.int .i64) 3 w' w.heap.size (fun _=>True) v0_ r ∧ Below w.heap.size w w':=by
 have hu27:=Try.underlying27
 have HR0_1:=Aside0.mk hr0_1
 have HC0_1:=Aside0.mk hc0_1
 clear hr0_1 hc0_1
 have HR0_2:=Aside0.mk hr0_2
 have HC0_2:=Aside0.mk hc0_2
 clear hr0_2 hc0_2
 have HB:=Aside0.mk (Below.refl w.heap.size w)
 have H : (spec_l8Shades.l0 k (([] : List Int)) 0 a0_0 l0_1 l0_2) = some r:=h
 clear h
 obtain ⟨y166,hy166⟩ : ∃ y_ : List Int,y_ = (([] : List Int)):=⟨_,rfl⟩
 replace H : (spec_l8Shades.l0 k y166 0 a0_0 l0_1 l0_2) = some r:=by first|(rw [hy166];with_reducible exact H)|(have H2_:=(Option.bind_some _ _).symm.trans H;rw [hy166];with_reducible exact H2_)|(have H2_:=(Option.bind_some _ _).symm.trans H;with_reducible exact H2_)|with_reducible exact H|(rw [hy166];exact H)|exact H
 have Ny166:=Aside0.mk hy166
 clear hy166
 have H':=Aside0.mk H
 clear H
 go_enter Try.func44,Try.ntmps44
 go_wp2_with (first|((with_reducible refine gate_dst (N:=1) rfl ?_);refine box_event ?hg (N:=1) ?hd (cs:=#[.int .i64 a0_0,.slice A0_1 l0_1.length c0_1,.slice A0_2 l0_2.length c0_2]) (t:=27) ?hr ?_;(case hd=>rfl);(case hg=>rfl);(case hr=>first|(go_simp;done)|(go_simp;rfl));intro gb165 hg w2 hbox hb;have n0_:=Aside0.mk (below_step (hm HB.out) hb);have n1_:=Aside0.mk (hbox);have n2_:=Aside0.mk ((by rw [hg];exact (below_size (hm HB.out)) : w.heap.size ≤ gb165));have n3_:=Aside0.mk ((by rw [hg];exact (below_size (hm HB.out)) : w.heap.size ≤ gb165));clear HB;have HB:=n0_;have BK165:=n1_;have GW165:=n2_;have GE165:=n3_;clear n0_ n1_ n2_ n3_;clear hb hbox hg)|((with_reducible refine gate_dst (N:=5) rfl ?_);refine R_lit (Kd.int .i64) _ 3 ?hg (N:=5) ?hd (xs:=([] : List Int)) (inner:=[]) (ok:=fun _=>True) (okp:=fun _=>True) ?hr ?hp (fun _ hk=>hk) trivial (Below.refl _ _) (Nat.le_refl _) (by simp) ?_;(case hd=>rfl);(case hg=>rfl);(case hr=>first|(go_simp;done)|(go_simp;rfl));(case hp=>exact (Reps.none _ _));intro v167 w3 ho4 hb hg_ hnew_;clear hg_ hnew_;(first|rw [← Ny166.out] at ho4|(simp only [Int.reduceToNat] at ho4;rw [← Ny166.out] at ho4));have n0_:=Aside0.mk (R_lower ho4 (below_size (h1 HB.out GE165.out)));have n1_:=Aside0.mk (blk_below (g:=gb165) (o:=.cells #[.int .i64 a0_0,.slice A0_1 l0_1.length c0_1,.slice A0_2 l0_2.length c0_2] 27 (0,0)) (bm BK165.out) hb);have n2_:=Aside0.mk (below_step (h1 HB.out GE165.out) hb);clear BK165;clear HB;have HO168:=n0_;have BK165:=n1_;have HB:=n2_;clear n0_ n1_ n2_;clear hb ho4))
 go_loopg [3,4] k (fun kq v3 v4 w'=>∃ (x3_1 : List Int) (x4_1 : Int),v4 = .int .i64 x4_1 ∧ Aside0 (spec_l8Shades.l0 kq x3_1 x4_1 a0_0 l0_1 l0_2 = some r) ∧ Aside0 (kq ≤ k) ∧ Aside0 (Kd.R (Kd.int .i64) 3 w' w.heap.size (fun _=>True) v3 x3_1) ∧ Aside0 (w'.heap[gb165]? = some (.cells #[.int .i64 a0_0,(.slice A0_1 l0_1.length c0_1),(.slice A0_2 l0_2.length c0_2)] 27 (0,0))) ∧ Aside0 (Below w.heap.size w w'))
 case atStart=>exact ⟨(y166),(0),(by first|rfl|(simp;done)|(simp [*];done)),H',⟨Nat.le_refl _⟩,⟨rm HO168.out⟩,⟨bm BK165.out⟩,⟨h1 HB.out GE165.out⟩⟩
 clear H'
 try clear p2
 try clear c4
 obtain ⟨x3_1,x4_1,rfl,HA,HK1,HO_3,BK165,HB⟩:=hrel
 cases gk with
 | zero=>exact absurd HA.out (by simp [spec_l8Shades.l0])
 | succ k1 =>
  have H:=HA.out
  clear HA
  simp only [spec_l8Shades.l0] at H
  by_cases c5 : x4_1 < (l0_1.length : Int)
  rotate_left
  ·rw [if_neg c5] at H
   have c5b0 : decide (x4_1 < (l0_1.length : Int)) = false:=decide_eq_false c5
   clear c5
   obtain rfl:=Option.some.inj H
   have hcz16_0 : wr.cell? ⟨gb165,0,none⟩ = some (.int .i64 a0_0):=(blk_cell BK165.out 0).trans rfl
   have hcz16_1 : wr.cell? ⟨gb165,1,none⟩ = some (.slice A0_1 l0_1.length c0_1):=(blk_cell BK165.out 1).trans rfl
   have hcz16_2 : wr.cell? ⟨gb165,2,none⟩ = some (.slice A0_2 l0_2.length c0_2):=(blk_cell BK165.out 2).trans rfl
   have hfz16_0:=blk_frozen BK165.out 0
   have hfz16_1:=blk_frozen BK165.out 1
   have hfz16_2:=blk_frozen BK165.out 2
   go_wp2
   go_ret
   exact ⟨_,by first|rfl|(simp [errW_none,errW_some] <;> rfl)|(simp [*,errW_none,errW_some] <;> rfl),rm HO_3.out,h1 HB.out GE165.out⟩
  rw [if_pos c5] at H
  have c5b0 : decide (x4_1 < (l0_1.length : Int)) = true:=decide_eq_true c5
  clear c5
  by_cases c6 : 0 ≤ x4_1
  rotate_left
  ·rw [if_neg c6] at H
   exact absurd H (by simp)
  rw [if_pos c6] at H
  have c6b0 : decide (0 ≤ x4_1) = true:=decide_eq_true c6
  clear c6
  by_cases c7 : x4_1 < (l0_2.length : Int)
  rotate_left
  ·rw [if_neg c7] at H
   exact absurd H (by simp)
  rw [if_pos c7] at H
  have c7b0 : decide (x4_1 < (l0_2.length : Int)) = true:=decide_eq_true c7
  clear c7
  by_cases c8 : (rd l0_2 x4_1) < 0
  ·rw [if_pos c8] at H
   have c8b0 : decide ((rd l0_2 x4_1) < 0) = true:=decide_eq_true c8
   clear c8
   by_cases c9 : x3_1.length < 17592186044416
   rotate_left
   ·rw [if_neg c9] at H
    exact absurd H (by simp)
   rw [if_pos c9] at H
   have LMc9:=Aside0.mk c9
   clear c9
   obtain ⟨y171,hy171⟩ : ∃ y_ : List Int,y_ = (x3_1 ++ [rd l0_1 x4_1]):=⟨_,rfl⟩
   replace H : (spec_l8Shades.l0 k1 y171 (wrap64 (x4_1 + 1)) a0_0 l0_1 l0_2) = some r:=by first|(rw [hy171];with_reducible exact H)|(have H2_:=(Option.bind_some _ _).symm.trans H;rw [hy171];with_reducible exact H2_)|(have H2_:=(Option.bind_some _ _).symm.trans H;with_reducible exact H2_)|with_reducible exact H|(rw [hy171];exact H)|exact H
   have Ny171:=Aside0.mk hy171
   clear hy171
   have H':=Aside0.mk H
   clear H
   have hcz10_0 : wr.cell? ⟨gb165,0,none⟩ = some (.int .i64 a0_0):=(blk_cell BK165.out 0).trans rfl
   have hcz10_1 : wr.cell? ⟨gb165,1,none⟩ = some (.slice A0_1 l0_1.length c0_1):=(blk_cell BK165.out 1).trans rfl
   have hcz10_2 : wr.cell? ⟨gb165,2,none⟩ = some (.slice A0_2 l0_2.length c0_2):=(blk_cell BK165.out 2).trans rfl
   have hfz10_0:=blk_frozen BK165.out 0
   have hfz10_1:=blk_frozen BK165.out 1
   have hfz10_2:=blk_frozen BK165.out 2
   have p169 : 0 ≤ (x4_1 : Int):=od
   have q169 : x4_1 < (l0_2.length : Int):=od
   obtain ⟨ad169,e169,hx169_0⟩:=Kd.at_int HR0_2.out x4_1 p169 q169
   cases e169
   replace hx169_0:=(HB.out.cell (World.block_lt_of_cell? w _ hx169_0)).trans hx169_0
   replace p169:=eq_true p169
   replace q169:=eq_true q169
   have p170 : 0 ≤ (x4_1 : Int):=od
   have q170 : x4_1 < (l0_1.length : Int):=od
   obtain ⟨ad170,e170,hx170_0⟩:=Kd.at_int HR0_1.out x4_1 p170 q170
   cases e170
   replace hx170_0:=(HB.out.cell (World.block_lt_of_cell? w _ hx170_0)).trans hx170_0
   replace p170:=eq_true p170
   replace q170:=eq_true q170
   go_wp2_with (first|((with_reducible refine gate_builtin (b:=.append) (xs:=#[.tmp 19,.tmp 25]) rfl ?_);at_builtin;refine R_append (Kd.int .i64) (w0:=w) w.heap.size rfl (.tmp 19) (.tmp 25) 22 3 (.int .i64 0) 8 rfl Try.underlying22 info3 rfl (by decide) (by omega) u3 x3_1 (rd l0_1 x4_1) [.int .i64 (rd l0_1 x4_1)] (fun _=>True) (fun _=>False) rfl rfl ?aP (fun _ hk=>hk.elim) ?aF ?aO ?aB ?aS ?aL ?_;(case aP=>exact rfl);(case aB=>exact (h1 HB.out GE165.out));(case aF=>exact (fun _ _=>trivial));(case aO=>exact (rm HO_3.out));(case aS=>exact (below_size (h1 HB.out GE165.out)));(case aL=>have:=LMc9.out;omega);intro v172 w11 ho hb hg hat;rw [← Ny171.out] at ho;have n0_:=Aside0.mk (blk_grown (g:=gb165) (o:=.cells #[.int .i64 a0_0,.slice (some ad170) l0_1.length c0_1,.slice (some ad169) l0_2.length c0_2] 27 (0,0)) (bm BK165.out) hg (R_ne HO_3.out BK165.out (by decide)));have n1_:=Aside0.mk (hb);have n2_:=Aside0.mk (ho);clear BK165;clear HB;clear HO_3;have BK165:=n0_;have HB:=n1_;have HO173:=n2_;clear n0_ n1_ n2_;clear ho hb hg hat))
   go_roundg k1
   case measure=>have:=HK1.out;omega
   case rel=>exact ⟨(y171),(wrap64 (x4_1 + 1)),(by first|rfl|(simp;done)|(simp [*];done)),H',⟨by have:=HK1.out;omega⟩,⟨rm HO173.out⟩,⟨bm BK165.out⟩,⟨h1 HB.out GE165.out⟩⟩
  rw [if_neg c8] at H
  have c8b0 : decide ((rd l0_2 x4_1) < 0) = false:=decide_eq_false c8
  clear c8
  by_cases c12 : x3_1.length < 17592186044416
  rotate_left
  ·rw [if_neg c12] at H
   exact absurd H (by simp)
  rw [if_pos c12] at H
  have LMc12:=Aside0.mk c12
  clear c12
  obtain ⟨y175,hy175⟩ : ∃ y_ : List Int,y_ = (x3_1 ++ [wrap64 (a0_0 - (rd l0_1 x4_1))]):=⟨_,rfl⟩
  replace H : (spec_l8Shades.l0 k1 y175 (wrap64 (x4_1 + 1)) a0_0 l0_1 l0_2) = some r:=by first|(rw [hy175];with_reducible exact H)|(have H2_:=(Option.bind_some _ _).symm.trans H;rw [hy175];with_reducible exact H2_)|(have H2_:=(Option.bind_some _ _).symm.trans H;with_reducible exact H2_)|with_reducible exact H|(rw [hy175];exact H)|exact H
  have Ny175:=Aside0.mk hy175
  clear hy175
  have H':=Aside0.mk H
  clear H
  have hcz13_0 : wr.cell? ⟨gb165,0,none⟩ = some (.int .i64 a0_0):=(blk_cell BK165.out 0).trans rfl
  have hcz13_1 : wr.cell? ⟨gb165,1,none⟩ = some (.slice A0_1 l0_1.length c0_1):=(blk_cell BK165.out 1).trans rfl
  have hcz13_2 : wr.cell? ⟨gb165,2,none⟩ = some (.slice A0_2 l0_2.length c0_2):=(blk_cell BK165.out 2).trans rfl
  have hfz13_0:=blk_frozen BK165.out 0
  have hfz13_1:=blk_frozen BK165.out 1
  have hfz13_2:=blk_frozen BK165.out 2
  have p169 : 0 ≤ (x4_1 : Int):=od
  have q169 : x4_1 < (l0_2.length : Int):=od
  obtain ⟨ad169,e169,hx169_0⟩:=Kd.at_int HR0_2.out x4_1 p169 q169
  cases e169
  replace hx169_0:=(HB.out.cell (World.block_lt_of_cell? w _ hx169_0)).trans hx169_0
  replace p169:=eq_true p169
  replace q169:=eq_true q169
  try go_wp2
  have n0_:=Aside0.mk (R_drew HO_3.out)
  have n1_:=Aside0.mk (blk_drew BK165.out)
  have n2_:=Aside0.mk (below_drew1 HB.out)
  clear HO_3
  clear BK165
  clear HB
  have HO_3:=n0_
  have BK165:=n1_
  have HB:=n2_
  clear n0_ n1_ n2_
  have p174 : 0 ≤ (x4_1 : Int):=od
  have q174 : x4_1 < (l0_1.length : Int):=od
  obtain ⟨ad174,e174,hx174_0⟩:=Kd.at_int HR0_1.out x4_1 p174 q174
  have hw174_0:=hx174_0
  cases e174
  replace hx174_0:=(HB.out.cell (World.block_lt_of_cell? w _ hx174_0)).trans hx174_0
  replace p174:=eq_true p174
  replace q174:=eq_true q174
  refine start_ (n:=12) (S:=fun w'=>w'.cell? ⟨gb165,0,none⟩ = some (.int .i64 a0_0) ∧ w'.cell? ⟨gb165,1,none⟩ = some (.slice (some ad174) l0_1.length c0_1) ∧ w'.cell? ⟨gb165,2,none⟩ = some (.slice (some ad169) l0_2.length c0_2) ∧ w'.cell? (ad174.add (x4_1).toNat) = some (.int .i64 (rd l0_1 x4_1))) (ds:=[]) (lb 12 0) (by kernel_rfl) rfl rfl ⟨(blk_cell BK165.out 0).trans rfl,(blk_cell BK165.out 1).trans rfl,(blk_cell BK165.out 2).trans rfl,((HB.out.cell (World.block_lt_of_cell? w _ hw174_0)).trans hw174_0)⟩ (fun hHeld=>?_);refine with_tabW spec_l8Shades.tab7 spec_l8Shades.bits7 (fun HT_ HW_=>?_)
  generalize wr.drew = w14 at HO_3 BK165 HB hx174_0 hHeld ⊢
  refine pu 0 (N:=some 27) (v:=?_) (a':=?_) (lb 12 1) HT_ (by kernel_rfl) rfl rfl rfl (fun _ _ _ h=>h) ?_ ?_ ?_
  rotate_left
  ·intro w'
   go_simp
   with_reducible rfl
  rotate_left
  ·simp only [ap]
   rfl
  refine pu 1 (N:=some 28) (v:=?_) (a':=?_) (lb 12 3) HT_ (by kernel_rfl) rfl rfl rfl (fun _ _ _ h=>h) ?_ ?_ ?_
  rotate_left
  ·intro w'
   go_simp
   with_reducible rfl
  rotate_left
  ·simp only [ap]
   rfl
  refine pu 3 (N:=some 30) (v:=?_) (a':=?_) (lb 12 11) HT_ (by kernel_rfl) rfl rfl rfl (fun _ _ _ h=>h) ?_ ?_ ?_
  rotate_left
  ·intro w'
   go_simp
   with_reducible rfl
  rotate_left
  ·simp only [ap]
   rfl
  refine pu 5 (N:=some 32) (v:=?_) (a':=?_) (lb 12 43) HT_ (by kernel_rfl) rfl rfl rfl (fun _ _ _ h=>h) ?_ ?_ ?_
  rotate_left
  ·intro w'
   go_simp
   with_reducible rfl
  rotate_left
  ·simp only [ap]
   rfl
  refine take_ (i:=2) (N:=some 29) (v:=?_) (a':=?_) (lb 12 47) rfl rfl (take_ofW HT_.out HW_.out (by kernel_rfl)) (fun _ _ _ h=>h) (Or.inl ⟨by rfl,?_⟩) hHeld ?_ ?_
  rotate_left
  ·rintro w' ⟨s0,s1,s2,s3⟩
   go_simp
   with_reducible rfl
  rotate_left
  ·simp only [ap]
   rfl
  refine take_ (i:=4) (N:=some 31) (v:=?_) (a':=?_) (lb 12 63) rfl rfl (take_ofW HT_.out HW_.out (by kernel_rfl)) (fun _ _ _ h=>h) (Or.inl ⟨by rfl,?_⟩) hHeld ?_ ?_
  rotate_left
  ·rintro w' ⟨s0,s1,s2,s3⟩
   go_simp
   with_reducible rfl
  rotate_left
  ·simp only [ap]
   rfl
  refine pu 6 (N:=some 33) (v:=?_) (a':=?_) (lb 12 127) HT_ (by kernel_rfl) rfl rfl rfl (fun _ _ _ h=>h) ?_ ?_ ?_
  rotate_left
  ·intro w'
   go_simp
   with_reducible rfl
  rotate_left
  ·simp only [ap]
   rfl
  refine take_ (i:=7) (N:=some 34) (v:=?_) (a':=?_) (lb 12 255) rfl rfl (take_ofW HT_.out HW_.out (by kernel_rfl)) (fun _ _ _ h=>h) (Or.inl ⟨by rfl,?_⟩) hHeld ?_ ?_
  rotate_left
  ·rintro w' ⟨s0,s1,s2,s3⟩
   go_simp
   with_reducible rfl
  rotate_left
  ·simp only [ap]
   rfl
  refine pu 8 (N:=some 35) (v:=?_) (a':=?_) (lb 12 511) HT_ (by kernel_rfl) rfl rfl rfl (fun _ _ _ h=>h) ?_ ?_ ?_
  rotate_left
  ·intro w'
   go_simp
   with_reducible rfl
  rotate_left
  ·simp only [ap]
   rfl
  refine one_ (i:=9) (N:=some 36) (lb 12 1023) rfl rfl (one_of HT_.out (by kernel_rfl)) (by decide) (fun K hK=>?_)
  refine value_ (w1:=?_) (v:=?_) (by rfl) rfl ?_ ?_
  rotate_left 2
  ·go_simp
   constructor
   rotate_left
   ·rfl
   rfl
  refine hK.out _ _ ⟨(blk_cell (blk_alloc BK165.out _) 0).trans rfl,(blk_cell (blk_alloc BK165.out _) 1).trans rfl,(blk_cell (blk_alloc BK165.out _) 2).trans rfl,(World.cell?_alloc_lt _ _ _ (World.block_lt_of_cell? _ _ (((HB.out.cell (World.block_lt_of_cell? w _ hw174_0)).trans hw174_0)))).trans (((HB.out.cell (World.block_lt_of_cell? w _ hw174_0)).trans hw174_0))⟩ (fun hHeld=>?_)
  clear hK K
  refine norm_ (a':=?_) ?_ ?_
  rotate_left
  ·show Act.put _ (some 36) _ = _
   simp only [ap]
   rfl
  refine one_ (i:=10) (N:=some 37) (lb 12 2047) rfl rfl (one_of HT_.out (by kernel_rfl)) (by decide) (fun K hK=>?_)
  refine R_append_step (Kd.int .i64) (w0:=w) w.heap.size (by rfl) (.tmp 27) (.tmp 36) 22 3 (.int .i64 0) 8 rfl Try.underlying22 info3 rfl (by decide) (by omega) u3 x3_1 (wrap64 (a0_0 - (rd l0_1 x4_1))) [.int .i64 (wrap64 (a0_0 - (rd l0_1 x4_1)))] (fun _=>True) (fun _=>False) rfl rfl ?aP (fun _ hk=>hk.elim) ?aF ?aO ?aB ?aS ?aL ?_
  (case aP=>exact rfl)
  (case aB=>exact (h1 HB.out GE165.out))
  (case aF=>exact (fun _ _=>trivial))
  (case aO=>exact (rm HO_3.out))
  (case aS=>exact (below_size (h1 HB.out GE165.out)))
  (case aL=>have:=LMc12.out;omega)
  intro v176 w15 ho hb hg hat
  rw [← Ny175.out] at ho
  have n0_:=Aside0.mk (blk_grown (g:=gb165) (o:=.cells #[.int .i64 a0_0,.slice (some ad174) l0_1.length c0_1,.slice (some ad169) l0_2.length c0_2] 27 (0,0)) (bm BK165.out) hg (R_ne HO_3.out BK165.out (by decide)))
  have n1_:=Aside0.mk (hb)
  have n2_:=Aside0.mk (ho)
  clear BK165
  clear HB
  clear HO_3
  have BK165:=n0_
  have HB:=n1_
  have HO177:=n2_
  clear n0_ n1_ n2_
  clear ho hb hg hat
  refine hK.out _ _ ⟨(blk_cell BK165.out 0).trans rfl,(blk_cell BK165.out 1).trans rfl,(blk_cell BK165.out 2).trans rfl,((HB.out.cell (World.block_lt_of_cell? w _ hw174_0)).trans hw174_0)⟩ (fun hHeld=>?_)
  clear hK K
  refine norm_ (a':=?_) ?_ ?_
  rotate_left
  ·show Act.put _ (some 37) _ = _
   simp only [ap]
   rfl
  refine pu 11 (N:=some 3) (v:=?_) (a':=?_) (lb 12 4095) HT_ (by kernel_rfl) rfl rfl rfl (fun _ _ _ h=>h) ?_ ?_ ?_
  rotate_left
  ·intro w'
   go_simp
   with_reducible rfl
  rotate_left
  ·simp only [ap]
   rfl
  refine done_ (done_of HT_.out (by kernel_rfl)) ?_
  try go_wp2
  go_roundg k1
  case measure=>have:=HK1.out;omega
  case rel=>exact ⟨(y175),(wrap64 (x4_1 + 1)),(by first|rfl|(simp;done)|(simp [*];done)),H',⟨by have:=HK1.out;omega⟩,⟨rm HO177.out⟩,⟨bm BK165.out⟩,⟨h1 HB.out GE165.out⟩⟩


end
end Go.Proofs.Ytciihopkgblpkaa.QFnExactBeadsAt
