/- Functions that the law FnWires comes to, and their walks: no condition but those named. -/
import Derived.Test.YtciihopkgblpkaaQFnWiresx0
import Derived.Test.YtciihopkgblpkaaQFnWiresx1
import Derived.Test.YtciihopkgblpkaaQFnWiresx4
import Derived.Test.YtciihopkgblpkaaQFnWiresx9
namespace Go.Proofs.Ytciihopkgblpkaa.QFnWires
open Go.RowKit Go.Proofs.YtciihopkgblpkaaW.PrintWords Go.Proofs.YtciihopkgblpkaaW.PrintLast Go.Proofs.YtciihopkgblpkaaW.PrintMore Go.Proofs.Ytciihopkgblpkaa.Short
attribute [local go_sem] max2_int min2_int max_two min_two max_three min_three max_four min_four
set_option linter.unusedVariables false
set_option linter.unusedSimpArgs false

section
open Kd
/-! ### impl_BeadsAt: function 32 -/
mutual
def impl_BeadsAt.j0 : Nat → Int → Bool → Int → List Int → List Int → Option (List Int × List Int × Bool)
 | 0,_,_,_,_,_=>none
 | k + 1,x1,x21,x377000,x377001,x377002=>if x21 = true then (some (([] : List Int),([] : List Int),false)) else ((impl_Wire_falls.f k x377000 x377001 x377002).bind fun bt384=>(impl_BeadsAt.l0 k x1 (([] : List Int)) (([] : List Int)) bt384.1 (bt384.1.length : Int) 0 x377000 x377001 x377002))
def impl_BeadsAt.l0 : Nat → Int → List Int → List Int → List Int → Int → Int → Int → List Int → List Int → Option (List Int × List Int × Bool)
 | 0,_,_,_,_,_,_,_,_,_=>none
 | k + 1,x1,x7,x8,x29,x30,x31,x377000,x377001,x377002=>if x31 < x30 then (if 0 ≤ x31 then (if x31 < (x29.length : Int) then (if (rd x29 x31) ≥ x1 then (if x7.length < 17592186044416 then (impl_BeadsAt.l0 k x1 (x7 ++ [x31]) x8 x29 x30 (wrap64 (x31 + 1)) x377000 x377001 x377002) else (none)) else (impl_BeadsAt.l0 k x1 x7 x8 x29 x30 (wrap64 (x31 + 1)) x377000 x377001 x377002)) else (none)) else (none)) else ((impl_Wire_shades.f k x377000 x377001 x377002).bind fun t394=>(impl_BeadsAt.l1 k x1 x7 x8 t394 (t394.length : Int) 0 x377000 x377001 x377002))
def impl_BeadsAt.l1 : Nat → Int → List Int → List Int → List Int → Int → Int → Int → List Int → List Int → Option (List Int × List Int × Bool)
 | 0,_,_,_,_,_,_,_,_,_=>none
 | k + 1,x1,x7,x8,x45,x46,x47,x377000,x377001,x377002=>if x47 < x46 then (if 0 ≤ x47 then (if x47 < (x45.length : Int) then (if (rd x45 x47) ≥ x1 then (if x47 < (x377001.length : Int) then (if x47 < (x377002.length : Int) then (if x8.length < 17592186044416 then (impl_BeadsAt.l1 k x1 x7 (x8 ++ [wrap64 ((rd x377001 x47) + (wrap64 ((rd x377002 x47) * x1)))]) x45 x46 (wrap64 (x47 + 1)) x377000 x377001 x377002) else (none)) else (none)) else (none)) else (impl_BeadsAt.l1 k x1 x7 x8 x45 x46 (wrap64 (x47 + 1)) x377000 x377001 x377002)) else (none)) else (none)) else ((slices_Sort_int_int.f k x8).bind fun t403=>(some (x7,t403,true)))
end
def impl_BeadsAt.f (k : Nat) (a0_0 : Int) (l0_1 : List Int) (l0_2 : List Int) (a1 : Int) : Option (List Int × List Int × Bool):=(impl_IsWire.f k a0_0 l0_1 l0_2).bind fun t377=>(if t377 = true then (impl_BeadsAt.j0 k a1 (decide (a1 < 0)) a0_0 l0_1 l0_2) else (impl_BeadsAt.j0 k a1 true a0_0 l0_1 l0_2))
theorem impl_BeadsAt.mono_l : ∀ k,(∀ y0 y1 y2 y3 y4,LeO (impl_BeadsAt.j0 k y0 y1 y2 y3 y4) (impl_BeadsAt.j0 (k + 1) y0 y1 y2 y3 y4)) ∧ (∀ y0 y1 y2 y3 y4 y5 y6 y7 y8,LeO (impl_BeadsAt.l0 k y0 y1 y2 y3 y4 y5 y6 y7 y8) (impl_BeadsAt.l0 (k + 1) y0 y1 y2 y3 y4 y5 y6 y7 y8)) ∧ (∀ y0 y1 y2 y3 y4 y5 y6 y7 y8,LeO (impl_BeadsAt.l1 k y0 y1 y2 y3 y4 y5 y6 y7 y8) (impl_BeadsAt.l1 (k + 1) y0 y1 y2 y3 y4 y5 y6 y7 y8))
 | 0=>by
  refine ⟨?_,?_,?_⟩<;>(intros;intro r h;simp [impl_BeadsAt.j0,impl_BeadsAt.l0,impl_BeadsAt.l1] at h)
 | k + 1=>by
  obtain ⟨ih0,ih1,ih2⟩:=impl_BeadsAt.mono_l k
  refine ⟨?_,?_,?_⟩<;>intros<;>(first|unfold impl_BeadsAt.j0 | unfold impl_BeadsAt.l0 | unfold impl_BeadsAt.l1)<;>(repeat' first|(with_reducible exact ih0 ..)|(with_reducible exact ih1 ..)|(with_reducible exact ih2 ..)|(with_reducible exact impl_IsWire.mono _ _ _ _)|(with_reducible exact impl_Wire_falls.mono _ _ _ _)|(with_reducible exact impl_Wire_shades.mono _ _ _ _)|(with_reducible exact slices_Sort_int_int.mono _ _)|(with_reducible exact LeO.refl _)|(with_reducible exact LeO.none _)|(with_reducible refine LeO.ite ?_ ?_)|(with_reducible refine LeO.bind ?_ (fun _=>?_))|exact ih0 ..|exact ih1 ..|exact ih2 ..|exact impl_IsWire.mono _ _ _ _|exact impl_Wire_falls.mono _ _ _ _|exact impl_Wire_shades.mono _ _ _ _|exact slices_Sort_int_int.mono _ _|exact LeO.none _|refine LeO.ite ?_ ?_|refine LeO.bind ?_ (fun _=>?_))
theorem impl_BeadsAt.mono : ∀ a0 a1 a2 a3 k,LeO (impl_BeadsAt.f k a0 a1 a2 a3) (impl_BeadsAt.f (k + 1) a0 a1 a2 a3):=by
 intro a0 a1 a2 a3 k
 obtain ⟨ih0,ih1,ih2⟩:=impl_BeadsAt.mono_l k
 unfold impl_BeadsAt.f
 repeat' first
   | (with_reducible exact ih0 _ _ _ _ _)
   | (with_reducible exact ih1 _ _ _ _ _ _ _ _ _)
   | (with_reducible exact ih2 _ _ _ _ _ _ _ _ _)
   | (with_reducible exact impl_IsWire.mono _ _ _ _)
   | (with_reducible exact impl_Wire_falls.mono _ _ _ _)
   | (with_reducible exact impl_Wire_shades.mono _ _ _ _)
   | (with_reducible exact slices_Sort_int_int.mono _ _)
   | (with_reducible exact LeO.refl _)
   | (with_reducible exact LeO.none _)
   | (with_reducible refine LeO.ite ?_ ?_)
   | (with_reducible refine LeO.bind ?_ (fun _=>?_))
   | exact ih0 _ _ _ _ _
   | exact ih1 _ _ _ _ _ _ _ _ _
   | exact ih2 _ _ _ _ _ _ _ _ _
   | exact impl_IsWire.mono _ _ _ _
   | exact impl_Wire_falls.mono _ _ _ _
   | exact impl_Wire_shades.mono _ _ _ _
   | exact slices_Sort_int_int.mono _ _
   | exact LeO.none _
   | refine LeO.ite ?_ ?_
   | refine LeO.bind ?_ (fun _=>?_)
def impl_BeadsAt.T15 : Bool × List (List Nat × List Nat):=(true,[([],[]),([],[]),([1],[1]),([],[]),([2,3],[2,3]),([4],[4]),([],[]),([6],[6]),([],[]),([7,8],[7,8]),([9],[9]),([],[]),([10,11],[10,11]),([5,12],[5,12]),([13],[13]),([0,14],[0,14]),([15,15,0,1,2,3,4,5,6,7,8,9,10,11,12,13,14,15],[0,15])])
def impl_BeadsAt.B15 : List Nat:=[0,0,2,0,14,30,0,64,0,448,960,0,4032,8190,16382,32767,65535]
theorem impl_BeadsAt.tab15 : rtab .any (opsOf Try.f32 15) = impl_BeadsAt.T15:=by kernel_rfl
theorem impl_BeadsAt.bits15 : waitsOk impl_BeadsAt.T15.2 impl_BeadsAt.B15 = true:=by kernel_rfl
set_option maxHeartbeats 8000000 in
set_option maxRecDepth 100000 in
theorem impl_BeadsAt.calls (k : Nat) (a0_0 : Int) (A0_1 : Option Addr) (c0_1 : Nat) (l0_1 : List Int) (A0_2 : Option Addr) (c0_2 : Nat) (l0_2 : List Int) (a1 : Int) (r1 : List Int) (r2 : List Int) (r3 : Bool) (w : World) (hr0_1 : Kd.C (Kd.int .i64) w A0_1 l0_1.length l0_1) (hc0_1 : l0_1.length ≤ c0_1) (hr0_2 : Kd.C (Kd.int .i64) w A0_2 l0_2.length l0_2) (hc0_2 : l0_2.length ≤ c0_2) (h : impl_BeadsAt.f k a0_0 l0_1 l0_2 a1 = some (r1,r2,r3)) :
  Calls Try.prog 32 #[.agg #[.int .i64 a0_0,.slice A0_1 l0_1.length c0_1,.slice A0_2 l0_2.length c0_2],.int .i64 a1] w fun e w'=>∃ v0_ v1_ : Value,e = .returned (.tuple #[v0_,v1_,.bool r3]) ∧ Kd.R (Kd.int .i64) 3 w' w.heap.size (fun k_=>ob k_ v1_) v0_ r1 ∧ Kd.R (Kd.int .i64) 3 w' w.heap.size (fun k_=>ob k_ v0_) v1_ r2 ∧ Below w.heap.size w w':=by
 have hu27:=Try.underlying27
 have HR0_1:=Aside0.mk hr0_1
 have HC0_1:=Aside0.mk hc0_1
 clear hr0_1 hc0_1
 have HR0_2:=Aside0.mk hr0_2
 have HC0_2:=Aside0.mk hc0_2
 clear hr0_2 hc0_2
 have HB:=Aside0.mk (Below.refl w.heap.size w)
 have H : ((impl_IsWire.f k a0_0 l0_1 l0_2).bind fun t377=>(if t377 = true then (impl_BeadsAt.j0 k a1 (decide (a1 < 0)) a0_0 l0_1 l0_2) else (impl_BeadsAt.j0 k a1 true a0_0 l0_1 l0_2))) = some (r1,r2,r3):=h
 clear h
 have HC3:=Aside0.mk H
 clear H
 go_enter Try.func32,Try.ntmps32
 go_upto_region 1 with (((with_reducible refine gate_dst (N:=2) rfl ?_);refine box_event ?hg (N:=2) ?hd (cs:=#[.int .i64 a0_0,.slice A0_1 l0_1.length c0_1,.slice A0_2 l0_2.length c0_2]) (t:=27) ?hr ?_;(case hd=>rfl);(case hg=>rfl);(case hr=>first|(go_simp;done)|(go_simp;rfl));intro gb376 hg w4 hbox hb;have BK376:=ak hbox;have GW376:=ak ((by rw [hg];exact (below_size (hm HB.out)) : w.heap.size ≤ gb376));have GE376:=ak ((by rw [hg];exact (below_size (hm HB.out)) : w.heap.size ≤ gb376));replace HB:=bs HB hb;clear hb hbox hg))
 go_cut [21] (fun v21 wc=>∃ (kq : Nat) (x21_2 : Bool),v21 = .bool x21_2 ∧ Aside0 (impl_BeadsAt.j0 kq a1 x21_2 a0_0 l0_1 l0_2 = some (r1,r2,r3)) ∧ Aside0 (kq ≤ k) ∧ Aside0 (wc.heap[gb376]? = some (.cells #[.int .i64 a0_0,(.slice A0_1 l0_1.length c0_1),(.slice A0_2 l0_2.length c0_2)] 27 (0,0))) ∧ Aside0 (Below w.heap.size w wc))
 case first =>
  have H:=HC3.out
  clear HC3
  replace H:=Option.bind_eq_some_iff.mp H
  obtain ⟨t377,A50,H⟩:=H
  have A5:=Aside0.mk A50
  clear A50
  by_cases c6 : t377 = true
  ·subst c6
   rw [if_pos rfl] at H
   have H':=Aside0.mk H
   clear H
   have hcz7_0 : w4.cell? ⟨gb376,0,none⟩ = some (.int .i64 a0_0):=(blk_cell BK376.out 0).trans rfl
   have hcz7_1 : w4.cell? ⟨gb376,1,none⟩ = some (.slice A0_1 l0_1.length c0_1):=(blk_cell BK376.out 1).trans rfl
   have hcz7_2 : w4.cell? ⟨gb376,2,none⟩ = some (.slice A0_2 l0_2.length c0_2):=(blk_cell BK376.out 2).trans rfl
   have hfz7_0:=blk_frozen BK376.out 0
   have hfz7_1:=blk_frozen BK376.out 1
   have hfz7_2:=blk_frozen BK376.out 2
   go_wp2_with (((with_reducible refine gate_callee (f:=14) rfl ?_);refine goesL_ (some 16) rfl rfl Try.func14 (by kernel_rfl) rfl #[.agg #[.int .i64 a0_0,.slice A0_1 l0_1.length c0_1,.slice A0_2 l0_2.length c0_2]] rfl gl ?_;(with_reducible refine (impl_IsWire.calls k a0_0 _ _ l0_1 _ _ l0_2 true _ ?side1 ?side2 ?side3 ?side4 A5.out).mono ?_);(case side1=>exact cm (C_below HR0_1.out HB.out));(case side2=>exact HC0_1.out);(case side3=>exact cm (C_below HR0_2.out HB.out));(case side4=>exact HC0_2.out);rintro e w8 ⟨rfl,hb⟩;refine ⟨_,rfl,?_⟩;replace BK376:=kb BK376 hb;replace HB:=ak (below_step (h1 HB.out GE376.out) hb);(try clear hb)))
   go_meet
   case rel=>exact ⟨_,(decide (a1 < 0)),fd,H',⟨by first|omega|exact Nat.le_refl _⟩,⟨bm BK376.out⟩,⟨h1 HB.out GE376.out⟩⟩
  replace c6:=Bool.eq_false_iff.mpr c6
  subst c6
  rw [if_neg (show ¬ (false = true) by decide)] at H
  have H':=Aside0.mk H
  clear H
  have hcz9_0 : w4.cell? ⟨gb376,0,none⟩ = some (.int .i64 a0_0):=(blk_cell BK376.out 0).trans rfl
  have hcz9_1 : w4.cell? ⟨gb376,1,none⟩ = some (.slice A0_1 l0_1.length c0_1):=(blk_cell BK376.out 1).trans rfl
  have hcz9_2 : w4.cell? ⟨gb376,2,none⟩ = some (.slice A0_2 l0_2.length c0_2):=(blk_cell BK376.out 2).trans rfl
  have hfz9_0:=blk_frozen BK376.out 0
  have hfz9_1:=blk_frozen BK376.out 1
  have hfz9_2:=blk_frozen BK376.out 2
  go_wp2_with (((with_reducible refine gate_callee (f:=14) rfl ?_);refine goesL_ (some 16) rfl rfl Try.func14 (by kernel_rfl) rfl #[.agg #[.int .i64 a0_0,.slice A0_1 l0_1.length c0_1,.slice A0_2 l0_2.length c0_2]] rfl gl ?_;(with_reducible refine (impl_IsWire.calls k a0_0 _ _ l0_1 _ _ l0_2 false _ ?side1 ?side2 ?side3 ?side4 A5.out).mono ?_);(case side1=>exact cm (C_below HR0_1.out HB.out));(case side2=>exact HC0_1.out);(case side3=>exact cm (C_below HR0_2.out HB.out));(case side4=>exact HC0_2.out);rintro e w10 ⟨rfl,hb⟩;refine ⟨_,rfl,?_⟩;replace BK376:=kb BK376 hb;replace HB:=ak (below_step (h1 HB.out GE376.out) hb);(try clear hb)))
  go_meet
  case rel=>exact ⟨_,(true),fd,H',⟨by first|omega|exact Nat.le_refl _⟩,⟨bm BK376.out⟩,⟨h1 HB.out GE376.out⟩⟩
 clear HC3
 obtain ⟨kq,x21_2,rfl,HA,HJ2,BK376,HB⟩:=hcut
 cases kq with
 | zero=>exact absurd HA.out (by simp [impl_BeadsAt.j0])
 | succ kj2 =>
  have H:=HA.out
  clear HA
  simp only [impl_BeadsAt.j0] at H
  by_cases c11 : x21_2 = true
  ·subst c11
   rw [if_pos rfl] at H
   simp only [Option.some.injEq,Prod.mk.injEq] at H
   obtain ⟨rfl,rfl,rfl⟩:=H
   go_wp2
   go_ret3
   exact ⟨_,_,fe,by first|exact R_nil _ _ _ _ _|exact Kd.N_nil _ _ _ _ _|exact Kd.V_nil _ _ _ _ _|exact Kd.Q_nil _ _ _ _ _|exact Kd.S_nil _ _ _ _ _,by first|exact R_nil _ _ _ _ _|exact Kd.N_nil _ _ _ _ _|exact Kd.V_nil _ _ _ _ _|exact Kd.Q_nil _ _ _ _ _|exact Kd.S_nil _ _ _ _ _,h1 HB.out GE376.out⟩
  replace c11:=Bool.eq_false_iff.mpr c11
  subst c11
  rw [if_neg (show ¬ (false = true) by decide)] at H
  obtain ⟨y378,hy378⟩ : ∃ y_ : List Int,y_ = (([] : List Int)):=⟨_,rfl⟩
  replace H : ((impl_Wire_falls.f kj2 a0_0 l0_1 l0_2).bind fun bt384=>(impl_BeadsAt.l0 kj2 a1 y378 (([] : List Int)) bt384.1 (bt384.1.length : Int) 0 a0_0 l0_1 l0_2)) = some (r1,r2,r3):=by first|(rw [hy378];with_reducible exact H)|(have H2_:=(Option.bind_some _ _).symm.trans H;rw [hy378];with_reducible exact H2_)|(have H2_:=(Option.bind_some _ _).symm.trans H;with_reducible exact H2_)|with_reducible exact H|(rw [hy378];exact H)|exact H
  have Ny378:=Aside0.mk hy378
  clear hy378
  obtain ⟨y381,hy381⟩ : ∃ y_ : List Int,y_ = (([] : List Int)):=⟨_,rfl⟩
  replace H : ((impl_Wire_falls.f kj2 a0_0 l0_1 l0_2).bind fun bt384=>(impl_BeadsAt.l0 kj2 a1 y378 y381 bt384.1 (bt384.1.length : Int) 0 a0_0 l0_1 l0_2)) = some (r1,r2,r3):=by first|(rw [hy381];with_reducible exact H)|(have H2_:=(Option.bind_some _ _).symm.trans H;rw [hy381];with_reducible exact H2_)|(have H2_:=(Option.bind_some _ _).symm.trans H;with_reducible exact H2_)|with_reducible exact H|(rw [hy381];exact H)|exact H
  have Ny381:=Aside0.mk hy381
  clear hy381
  replace H:=Option.bind_eq_some_iff.mp H
  obtain ⟨⟨t384,t387⟩,A120,H⟩:=H
  (try dsimp only at H)
  have A12:=Aside0.mk A120
  clear A120
  have H':=Aside0.mk H
  clear H
  go_wp2_with (first|((with_reducible refine gate_dst (N:=22) rfl ?_);refine R_lit (Kd.int .i64) _ 3 ?hg (N:=22) ?hd (xs:=([] : List Int)) (inner:=[]) (ok:=fun _=>True) (okp:=fun _=>True) ?hr ?hp (fun _ hk=>hk) trivial (Below.refl _ _) (Nat.le_refl _) (by simp) ?_;(case hd=>rfl);(case hg=>rfl);(case hr=>first|(go_simp;done)|(go_simp;rfl));(case hp=>exact (Reps.none _ _));intro v379 w13 ho14 hb hg_ hnew_;clear hg_ hnew_;(rw [← Ny378.out] at ho14);have HO380:=ak (R_lower ho14 (below_size (h1 HB.out GE376.out)));replace BK376:=kb BK376 hb;replace HB:=ak (below_step (h1 HB.out GE376.out) hb);clear hb ho14)|((with_reducible refine gate_dst (N:=23) rfl ?_);refine R_lit (Kd.int .i64) _ 3 ?hg (N:=23) ?hd (xs:=([] : List Int)) (inner:=[]) (ok:=fun _=>True) (okp:=fun _=>True) ?hr ?hp (fun _ hk=>hk) trivial (Below.refl _ _) (Nat.le_refl _) (by simp) ?_;(case hd=>rfl);(case hg=>rfl);(case hr=>first|(go_simp;done)|(go_simp;rfl));(case hp=>exact (Reps.none _ _));intro v382 w15 ho16 hb hg_ hnew_;clear hg_ hnew_;(rw [← Ny381.out] at ho16);have HO383:=ak (R_lower (R_new' ho16 (R_lt (rm HO380.out))) (below_size (h1 HB.out GE376.out)));replace HO380:=ak (R_elder' (rm HO380.out) (R_base ho16) hb);replace BK376:=kb BK376 hb;replace HB:=ak (below_step (h1 HB.out GE376.out) hb);clear hb ho16;have hcz17_0 : w15.cell? ⟨gb376,0,none⟩ = some (.int .i64 a0_0):=(blk_cell BK376.out 0).trans rfl;have hcz17_1 : w15.cell? ⟨gb376,1,none⟩ = some (.slice A0_1 l0_1.length c0_1):=(blk_cell BK376.out 1).trans rfl;have hcz17_2 : w15.cell? ⟨gb376,2,none⟩ = some (.slice A0_2 l0_2.length c0_2):=(blk_cell BK376.out 2).trans rfl;have hfz17_0:=blk_frozen BK376.out 0;have hfz17_1:=blk_frozen BK376.out 1;have hfz17_2:=blk_frozen BK376.out 2)|((with_reducible refine gate_callee (f:=52) rfl ?_);refine goesL_ (some 26) rfl rfl Try.func52 (by kernel_rfl) rfl #[.agg #[.int .i64 a0_0,.slice A0_1 l0_1.length c0_1,.slice A0_2 l0_2.length c0_2]] rfl gl ?_;(with_reducible refine (impl_Wire_falls.calls kj2 a0_0 _ _ l0_1 _ _ l0_2 t384 t387 _ ?side1 ?side2 ?side3 ?side4 A12.out).mono ?_);(case side1=>exact cm (C_below HR0_1.out HB.out));(case side2=>exact HC0_1.out);(case side3=>exact cm (C_below HR0_2.out HB.out));(case side4=>exact HC0_2.out);rintro e w18 ⟨v385,v388,rfl,ho0,ho1,hb⟩;refine ⟨_,rfl,?_⟩;have HO386:=ak (R_lower (R_new' (R_new' ho0 (R_lt (rm HO380.out))) (R_lt (rm HO383.out))) (below_size (h1 HB.out GE376.out)));have HO389:=ak (R_lower (R_new' (R_new' ho1 (R_lt (rm HO380.out))) (R_lt (rm HO383.out))) (below_size (h1 HB.out GE376.out)));replace HO380:=ak (R_mono (R_told (R_told (R_old (rm HO380.out) hb) (R_base ho0)) (R_base ho1)) (fun _ h_=>h_.1));replace HO383:=ak (R_mono (R_told (R_told (R_old (rm HO383.out) hb) (R_base ho0)) (R_base ho1)) (fun _ h_=>h_.1));replace BK376:=kb BK376 hb;replace HB:=ak (below_step (h1 HB.out GE376.out) hb);(try clear hb);(try clear ho0);(try clear ho1);obtain ⟨Ao19,co19,eo19⟩:=R_slice HO386.out;subst eo19))
  go_loopg [7,31] kj2 (fun kq v7 v31 w'=>∃ (x7_2 : List Int) (x31_2 : Int),v31 = .int .i64 x31_2 ∧ Aside0 (impl_BeadsAt.l0 kq a1 x7_2 y381 t384 (t384.length : Int) x31_2 a0_0 l0_1 l0_2 = some (r1,r2,r3)) ∧ Aside0 (kq ≤ kj2) ∧ Aside0 (Kd.R (Kd.int .i64) 3 w' w.heap.size (fun k_=>ob k_ v382 ∧ ob k_ (.slice Ao19 t384.length co19)) v7 x7_2) ∧ Aside0 (Kd.R (Kd.int .i64) 3 w' w.heap.size (fun k_=>ob k_ v7 ∧ ob k_ (.slice Ao19 t384.length co19)) v382 y381) ∧ Aside0 (Kd.R (Kd.int .i64) 3 w' w.heap.size (fun k_=>ob k_ v7 ∧ ob k_ v382) (.slice Ao19 t384.length co19) t384) ∧ Aside0 (w'.heap[gb376]? = some (.cells #[.int .i64 a0_0,(.slice A0_1 l0_1.length c0_1),(.slice A0_2 l0_2.length c0_2)] 27 (0,0))) ∧ Aside0 (Below w.heap.size w w'))
  case atStart=>exact ⟨(y378),(0),fd,H',⟨Nat.le_refl _⟩,⟨rm (R_mono HO380.out (fun _ hk=>⟨hk.1.1.2,hk.1.2⟩))⟩,⟨rm (R_mono HO383.out (fun _ hk=>⟨hk.1.1.2,hk.1.2⟩))⟩,⟨rm (R_mono HO386.out (fun _ hk=>⟨hk.1.2,hk.2⟩))⟩,⟨bm BK376.out⟩,⟨h1 HB.out GE376.out⟩⟩
  clear H'
  clear hcz17_0 hcz17_1 hcz17_2 hfz17_0 hfz17_1 hfz17_2
  obtain ⟨x7_2,x31_2,rfl,HA,HK2,HO_7,HO_8,HO_29,BK376,HB⟩:=hrel
  cases gk with
  | zero=>exact absurd HA.out (by simp [impl_BeadsAt.l0])
  | succ k2 =>
   have H:=HA.out
   clear HA
   simp only [impl_BeadsAt.l0] at H
   by_cases c20 : x31_2 < (t384.length : Int)
   ·rw [if_pos c20] at H
    have c20b0 : decide (x31_2 < (t384.length : Int)) = true:=decide_eq_true c20
    clear c20
    by_cases c21 : 0 ≤ x31_2
    rotate_left
    ·rw [if_neg c21] at H
     exact absurd H (by simp)
    rw [if_pos c21] at H
    have c21b0 : decide (0 ≤ x31_2) = true:=decide_eq_true c21
    clear c21
    by_cases c22 : x31_2 < (t384.length : Int)
    rotate_left
    ·rw [if_neg c22] at H
     exact absurd H (by simp)
    rw [if_pos c22] at H
    have c22b0 : decide (x31_2 < (t384.length : Int)) = true:=decide_eq_true c22
    clear c22
    by_cases c23 : (rd t384 x31_2) ≥ a1
    rotate_left
    ·rw [if_neg c23] at H
     have c23b0 : decide (a1 ≤ (rd t384 x31_2)) = false:=decide_eq_false c23
     clear c23
     have H':=Aside0.mk H
     clear H
     have p390 : 0 ≤ (x31_2 : Int):=od
     have q390 : x31_2 < (t384.length : Int):=od
     obtain ⟨ad390,e390,hx390_0⟩:=Kd.at_int (R_reads' HO_29.out).2.2 x31_2 p390 q390
     cases e390
     replace p390:=eq_true p390
     replace q390:=eq_true q390
     go_wp2
     go_roundg k2
     case measure=>have:=HJ2.out;have:=HK2.out;omega
     case rel=>exact ⟨(x7_2),(wrap64 (x31_2 + 1)),fd,H',⟨by have:=HJ2.out;have:=HK2.out;omega⟩,⟨rm HO_7.out⟩,⟨rm HO_8.out⟩,⟨rm HO_29.out⟩,⟨bm BK376.out⟩,⟨h1 HB.out GE376.out⟩⟩
    rw [if_pos c23] at H
    have c23b0 : decide (a1 ≤ (rd t384 x31_2)) = true:=decide_eq_true c23
    clear c23
    by_cases c24 : x7_2.length < 17592186044416
    rotate_left
    ·rw [if_neg c24] at H
     exact absurd H (by simp)
    rw [if_pos c24] at H
    have LMc24:=Aside0.mk c24
    clear c24
    obtain ⟨y391,hy391⟩ : ∃ y_ : List Int,y_ = (x7_2 ++ [x31_2]):=⟨_,rfl⟩
    replace H : (impl_BeadsAt.l0 k2 a1 y391 y381 t384 (t384.length : Int) (wrap64 (x31_2 + 1)) a0_0 l0_1 l0_2) = some (r1,r2,r3):=by first|(rw [hy391];with_reducible exact H)|(have H2_:=(Option.bind_some _ _).symm.trans H;rw [hy391];with_reducible exact H2_)|(have H2_:=(Option.bind_some _ _).symm.trans H;with_reducible exact H2_)|with_reducible exact H|(rw [hy391];exact H)|exact H
    have Ny391:=Aside0.mk hy391
    clear hy391
    have H':=Aside0.mk H
    clear H
    have p390 : 0 ≤ (x31_2 : Int):=od
    have q390 : x31_2 < (t384.length : Int):=od
    obtain ⟨ad390,e390,hx390_0⟩:=Kd.at_int (R_reads' HO_29.out).2.2 x31_2 p390 q390
    cases e390
    replace p390:=eq_true p390
    replace q390:=eq_true q390
    go_wp2_with (((with_reducible refine gate_builtin (b:=.append) (xs:=#[.tmp 39,.tmp 41]) rfl ?_);at_builtin;refine R_append (Kd.int .i64) (w0:=w) w.heap.size rfl (.tmp 39) (.tmp 41) 22 3 (.int .i64 0) 8 rfl Try.underlying22 info3 rfl (by decide) (by omega) u7 x7_2 x31_2 [.int .i64 x31_2] (fun k_=>ob k_ v382 ∧ some k_ ≠ (.slice (some ad390) t384.length co19 : Value).ownBlock) (fun _=>False) rfl rfl ?aP (fun _ hk=>hk.elim) ?aF ?aO ?aB ?aS ?aL ?_;(case aP=>exact rfl);(case aB=>exact (h1 HB.out GE376.out));(case aF=>exact (fun k_ hk=>⟨Kd.fresh' (R_lt (rm HO_8.out)) k_ hk,Kd.fresh' (R_lt (rm HO_29.out)) k_ hk⟩));(case aO=>exact (rm HO_7.out));(case aS=>exact (below_size (h1 HB.out GE376.out)));(case aL=>have:=LMc24.out;omega);intro v392 w25 ho hb hg hat;rw [← Ny391.out] at ho;replace HO_8:=ak (R_after (ok:=(fun k_=>some k_ ≠ (.slice (some ad390) t384.length co19 : Value).ownBlock)) (rm (R_mono HO_8.out (fun _ hk=>⟨hk.2,hk.1⟩))) hg hat);replace HO_29:=ak (R_after (ok:=(fun k_=>ob k_ v382)) (rm (R_mono HO_29.out (fun _ hk=>⟨hk.2,hk.1⟩))) hg hat);replace BK376:=ak (blk_grown (g:=gb376) (o:=.cells #[.int .i64 a0_0,.slice A0_1 l0_1.length c0_1,.slice A0_2 l0_2.length c0_2] 27 (0,0)) (bm BK376.out) hg (R_ne HO_7.out BK376.out (by decide)));replace HB:=ak hb;have HO393:=ak ho;clear HO_7;clear ho hb hg hat))
    go_roundg k2
    case measure=>have:=HJ2.out;have:=HK2.out;omega
    case rel=>exact ⟨(y391),(wrap64 (x31_2 + 1)),fd,H',⟨by have:=HJ2.out;have:=HK2.out;omega⟩,⟨rm HO393.out⟩,⟨rm (R_mono HO_8.out (fun _ hk=>⟨hk.2,hk.1⟩))⟩,⟨rm (R_mono HO_29.out (fun _ hk=>⟨hk.2,hk.1⟩))⟩,⟨bm BK376.out⟩,⟨h1 HB.out GE376.out⟩⟩
   rw [if_neg c20] at H
   have c20b0 : decide (x31_2 < (t384.length : Int)) = false:=decide_eq_false c20
   clear c20
   replace H:=Option.bind_eq_some_iff.mp H
   obtain ⟨t394,A260,H⟩:=H
   have A26:=Aside0.mk A260
   clear A260
   have H':=Aside0.mk H
   clear H
   have hcz27_0 : wr.cell? ⟨gb376,0,none⟩ = some (.int .i64 a0_0):=(blk_cell BK376.out 0).trans rfl
   have hcz27_1 : wr.cell? ⟨gb376,1,none⟩ = some (.slice A0_1 l0_1.length c0_1):=(blk_cell BK376.out 1).trans rfl
   have hcz27_2 : wr.cell? ⟨gb376,2,none⟩ = some (.slice A0_2 l0_2.length c0_2):=(blk_cell BK376.out 2).trans rfl
   have hfz27_0:=blk_frozen BK376.out 0
   have hfz27_1:=blk_frozen BK376.out 1
   have hfz27_2:=blk_frozen BK376.out 2
   go_wp2_with (((with_reducible refine gate_callee (f:=47) rfl ?_);refine goesL_ (some 45) rfl rfl Try.func47 (by kernel_rfl) rfl #[.agg #[.int .i64 a0_0,.slice A0_1 l0_1.length c0_1,.slice A0_2 l0_2.length c0_2]] rfl gl ?_;(with_reducible refine (impl_Wire_shades.calls k2 a0_0 _ _ l0_1 _ _ l0_2 t394 _ ?side1 ?side2 ?side3 ?side4 A26.out).mono ?_);(case side1=>exact cm (C_below HR0_1.out HB.out));(case side2=>exact HC0_1.out);(case side3=>exact cm (C_below HR0_2.out HB.out));(case side4=>exact HC0_2.out);rintro e w28 ⟨v395,rfl,ho0,hb⟩;refine ⟨_,rfl,?_⟩;have HO396:=ak (R_lower (R_new' (R_new' (R_new' ho0 (R_lt (rm HO_7.out))) (R_lt (rm HO_8.out))) (R_lt (rm HO_29.out))) (below_size (h1 HB.out GE376.out)));replace HO_7:=ak (R_elder' (rm HO_7.out) (R_base ho0) hb);replace HO_8:=ak (R_elder' (rm HO_8.out) (R_base ho0) hb);replace HO_29:=ak (R_elder' (rm HO_29.out) (R_base ho0) hb);replace BK376:=kb BK376 hb;replace HB:=ak (below_step (h1 HB.out GE376.out) hb);(try clear hb);(try clear ho0);obtain ⟨Ao29,co29,eo29⟩:=R_slice HO396.out;subst eo29))
   go_loopg [8,47] k2 (fun kq v8 v47 w'=>∃ (x8_3 : List Int) (x47_3 : Int),v47 = .int .i64 x47_3 ∧ Aside0 (impl_BeadsAt.l1 kq a1 x7_2 x8_3 t394 (t394.length : Int) x47_3 a0_0 l0_1 l0_2 = some (r1,r2,r3)) ∧ Aside0 (kq ≤ k2) ∧ Aside0 (Kd.R (Kd.int .i64) 3 w' w.heap.size (fun k_=>ob k_ v8 ∧ ob k_ (.slice Ao29 t394.length co29)) u7 x7_2) ∧ Aside0 (Kd.R (Kd.int .i64) 3 w' w.heap.size (fun k_=>ob k_ u7 ∧ ob k_ (.slice Ao29 t394.length co29)) v8 x8_3) ∧ Aside0 (Kd.R (Kd.int .i64) 3 w' w.heap.size (fun k_=>ob k_ u7 ∧ ob k_ v8) (.slice Ao29 t394.length co29) t394) ∧ Aside0 (w'.heap[gb376]? = some (.cells #[.int .i64 a0_0,(.slice A0_1 l0_1.length c0_1),(.slice A0_2 l0_2.length c0_2)] 27 (0,0))) ∧ Aside0 (Below w.heap.size w w'))
   case atStart=>exact ⟨(y381),(0),fd,H',⟨Nat.le_refl _⟩,⟨rm (R_mono HO_7.out (fun _ hk=>⟨hk.1.1,hk.2⟩))⟩,⟨rm (R_mono HO_8.out (fun _ hk=>⟨hk.1.1,hk.2⟩))⟩,⟨rm (R_mono HO396.out (fun _ hk=>⟨hk.1.1.2,hk.1.2⟩))⟩,⟨bm BK376.out⟩,⟨h1 HB.out GE376.out⟩⟩
   clear H'
   clear c20b0 hcz27_0 hcz27_1 hcz27_2 hfz27_0 hfz27_1 hfz27_2
   obtain ⟨x8_3,x47_3,rfl,HA,HK3,HO_7,HO_8,HO_45,BK376,HB⟩:=hrel
   cases gk with
   | zero=>exact absurd HA.out (by simp [impl_BeadsAt.l1])
   | succ k3 =>
    have H:=HA.out
    clear HA
    simp only [impl_BeadsAt.l1] at H
    by_cases c30 : x47_3 < (t394.length : Int)
    rotate_left
    ·rw [if_neg c30] at H
     have c30b0 : decide (x47_3 < (t394.length : Int)) = false:=decide_eq_false c30
     clear c30
     replace H:=Option.bind_eq_some_iff.mp H
     obtain ⟨t403,A390,H⟩:=H
     have A39:=Aside0.mk A390
     clear A390
     simp only [Option.some.injEq,Prod.mk.injEq] at H
     obtain ⟨rfl,rfl,rfl⟩:=H
     obtain ⟨Ao40,co40,eo40⟩:=R_slice HO_8.out
     subst eo40
     go_wp2_with (((with_reducible refine gate_callee (f:=54) rfl ?_);refine goesL_ (some 73) rfl rfl Try.func54 (by kernel_rfl) rfl #[.slice Ao40 x8_3.length co40] rfl gl ?_;(with_reducible refine (slices_Sort_int_int.calls k3 (fun k_=>some k_ = (.slice Ao40 x8_3.length co40 : Value).ownBlock) (.slice Ao40 x8_3.length co40) x8_3 t403 w _ ?side1 ?side2 A39.out).mono ?_);(case side1=>exact h1 HB.out GE376.out);(case side2=>exact R_tight rfl HO_8.out);rintro e w41 ⟨rfl,hy0,hb,hkp⟩;refine ⟨_,rfl,?_⟩;replace HO_7:=ak (R_mono (ok':=fun k_=>ob k_ (.slice Ao40 x8_3.length co40) ∧ ob k_ (.slice Ao29 t394.length co29)) (R_keptB (HO_7.out) hkp (fun k_ hk_ hs_=>(hk_.1) hs_)) (fun k_ hk_=>⟨hk_.1.1,hk_.1.2⟩));replace HO_45:=ak (R_mono (ok':=fun k_=>ob k_ u7 ∧ ob k_ (.slice Ao40 x8_3.length co40)) (R_keptB (HO_45.out) hkp (fun k_ hk_ hs_=>(hk_.2) hs_)) (fun k_ hk_=>⟨hk_.1.1,hk_.1.2⟩));replace BK376:=ak (blk_kept (bm BK376.out) hkp (fun hs_=>(fun e_=>(R_ne HO_8.out BK376.out (by decide)) e_) hs_));replace HO_8:=ak (R_reok rfl hy0 (fun k_ e_=>HO_8.out.1 k_ e_));replace HB:=ak hb;(try clear hb);(try clear hkp);(try clear hy0)))
     go_ret3
     exact ⟨_,_,fe,rm (R_mono HO_7.out (fun _ hk=>hk.1)),rm (R_mono HO_8.out (fun _ hk=>hk.1)),h1 HB.out GE376.out⟩
    rw [if_pos c30] at H
    have c30b0 : decide (x47_3 < (t394.length : Int)) = true:=decide_eq_true c30
    clear c30
    by_cases c31 : 0 ≤ x47_3
    rotate_left
    ·rw [if_neg c31] at H
     exact absurd H (by simp)
    rw [if_pos c31] at H
    have c31b0 : decide (0 ≤ x47_3) = true:=decide_eq_true c31
    clear c31
    by_cases c32 : x47_3 < (t394.length : Int)
    rotate_left
    ·rw [if_neg c32] at H
     exact absurd H (by simp)
    rw [if_pos c32] at H
    have c32b0 : decide (x47_3 < (t394.length : Int)) = true:=decide_eq_true c32
    clear c32
    by_cases c33 : (rd t394 x47_3) ≥ a1
    rotate_left
    ·rw [if_neg c33] at H
     have c33b0 : decide (a1 ≤ (rd t394 x47_3)) = false:=decide_eq_false c33
     clear c33
     have H':=Aside0.mk H
     clear H
     have p397 : 0 ≤ (x47_3 : Int):=od
     have q397 : x47_3 < (t394.length : Int):=od
     obtain ⟨ad397,e397,hx397_0⟩:=Kd.at_int (R_reads' HO_45.out).2.2 x47_3 p397 q397
     cases e397
     replace p397:=eq_true p397
     replace q397:=eq_true q397
     go_wp2
     go_roundg k3
     case measure=>have:=HJ2.out;have:=HK2.out;have:=HK3.out;omega
     case rel=>exact ⟨(x8_3),(wrap64 (x47_3 + 1)),fd,H',⟨by have:=HJ2.out;have:=HK2.out;have:=HK3.out;omega⟩,⟨rm HO_7.out⟩,⟨rm HO_8.out⟩,⟨rm HO_45.out⟩,⟨bm BK376.out⟩,⟨h1 HB.out GE376.out⟩⟩
    rw [if_pos c33] at H
    have c33b0 : decide (a1 ≤ (rd t394 x47_3)) = true:=decide_eq_true c33
    clear c33
    by_cases c34 : x47_3 < (l0_1.length : Int)
    rotate_left
    ·rw [if_neg c34] at H
     exact absurd H (by simp)
    rw [if_pos c34] at H
    have c34b0 : decide (x47_3 < (l0_1.length : Int)) = true:=decide_eq_true c34
    clear c34
    by_cases c35 : x47_3 < (l0_2.length : Int)
    rotate_left
    ·rw [if_neg c35] at H
     exact absurd H (by simp)
    rw [if_pos c35] at H
    have c35b0 : decide (x47_3 < (l0_2.length : Int)) = true:=decide_eq_true c35
    clear c35
    by_cases c36 : x8_3.length < 17592186044416
    rotate_left
    ·rw [if_neg c36] at H
     exact absurd H (by simp)
    rw [if_pos c36] at H
    have LMc36:=Aside0.mk c36
    clear c36
    obtain ⟨y400,hy400⟩ : ∃ y_ : List Int,y_ = (x8_3 ++ [wrap64 ((rd l0_1 x47_3) + (wrap64 ((rd l0_2 x47_3) * a1)))]):=⟨_,rfl⟩
    replace H : (impl_BeadsAt.l1 k3 a1 x7_2 y400 t394 (t394.length : Int) (wrap64 (x47_3 + 1)) a0_0 l0_1 l0_2) = some (r1,r2,r3):=by first|(rw [hy400];with_reducible exact H)|(have H2_:=(Option.bind_some _ _).symm.trans H;rw [hy400];with_reducible exact H2_)|(have H2_:=(Option.bind_some _ _).symm.trans H;with_reducible exact H2_)|with_reducible exact H|(rw [hy400];exact H)|exact H
    have Ny400:=Aside0.mk hy400
    clear hy400
    have H':=Aside0.mk H
    clear H
    have p397 : 0 ≤ (x47_3 : Int):=od
    have q397 : x47_3 < (t394.length : Int):=od
    obtain ⟨ad397,e397,hx397_0⟩:=Kd.at_int (R_reads' HO_45.out).2.2 x47_3 p397 q397
    cases e397
    replace p397:=eq_true p397
    replace q397:=eq_true q397
    try go_wp2
    replace HO_7:=ak (R_drew HO_7.out)
    replace HO_8:=ak (R_drew HO_8.out)
    replace HO_45:=ak (R_drew HO_45.out)
    replace BK376:=ak (blk_drew BK376.out)
    replace HB:=ak (below_drew1 HB.out)
    have p398 : 0 ≤ (x47_3 : Int):=od
    have q398 : x47_3 < (l0_1.length : Int):=od
    obtain ⟨ad398,e398,hx398_0⟩:=Kd.at_int HR0_1.out x47_3 p398 q398
    have hw398_0:=hx398_0
    cases e398
    replace hx398_0:=(HB.out.cell (World.block_lt_of_cell? w _ hx398_0)).trans hx398_0
    replace p398:=eq_true p398
    replace q398:=eq_true q398
    have p399 : 0 ≤ (x47_3 : Int):=od
    have q399 : x47_3 < (l0_2.length : Int):=od
    obtain ⟨ad399,e399,hx399_0⟩:=Kd.at_int HR0_2.out x47_3 p399 q399
    have hw399_0:=hx399_0
    cases e399
    replace hx399_0:=(HB.out.cell (World.block_lt_of_cell? w _ hx399_0)).trans hx399_0
    replace p399:=eq_true p399
    replace q399:=eq_true q399
    refine start_ (n:=17) (S:=fun w'=>w'.cell? ⟨gb376,0,none⟩ = some (.int .i64 a0_0) ∧ w'.cell? ⟨gb376,1,none⟩ = some (.slice (some ad398) l0_1.length c0_1) ∧ w'.cell? ⟨gb376,2,none⟩ = some (.slice (some ad399) l0_2.length c0_2) ∧ w'.cell? (ad398.add (x47_3).toNat) = some (.int .i64 (rd l0_1 x47_3)) ∧ w'.cell? (ad399.add (x47_3).toNat) = some (.int .i64 (rd l0_2 x47_3))) (ds:=[]) (lb 17 0) (by kernel_rfl) rfl rfl ⟨(blk_cell BK376.out 0).trans rfl,(blk_cell BK376.out 1).trans rfl,(blk_cell BK376.out 2).trans rfl,((HB.out.cell (World.block_lt_of_cell? w _ hw398_0)).trans hw398_0),((HB.out.cell (World.block_lt_of_cell? w _ hw399_0)).trans hw399_0)⟩ (fun hHeld=>?_);refine with_tabW impl_BeadsAt.tab15 impl_BeadsAt.bits15 (fun HT_ HW_=>?_)
    generalize wr.drew = w37 at HO_7 HO_8 HO_45 BK376 HB hx398_0 hx399_0 hHeld ⊢
    refine pq 0 (N:=some 55) (lb 17 1) HT_ ?_
    refine pq 1 (N:=some 56) (lb 17 3) HT_ ?_
    refine pq 3 (N:=some 58) (lb 17 11) HT_ ?_
    refine pq 6 (N:=some 61) (lb 17 75) HT_ ?_
    refine pq 8 (N:=some 63) (lb 17 331) HT_ ?_
    refine pq 11 (N:=some 66) (lb 17 2379) HT_ ?_
    refine tq 2 (N:=some 57) (lb 17 2383) HT_ HW_ hHeld ?_
    refine pq 4 (N:=some 59) (lb 17 2399) HT_ ?_
    refine tq 5 (N:=some 60) (lb 17 2431) HT_ HW_ hHeld ?_
    refine tq 7 (N:=some 62) (lb 17 2559) HT_ HW_ hHeld ?_
    refine pq 9 (N:=some 64) (lb 17 3071) HT_ ?_
    refine tq 10 (N:=some 65) (lb 17 4095) HT_ HW_ hHeld ?_
    refine pq 12 (N:=some 67) (lb 17 8191) HT_ ?_
    refine pq 13 (N:=some 68) (lb 17 16383) HT_ ?_
    refine one_ (i:=14) (N:=some 69) (lb 17 32767) rfl rfl (one_of HT_.out (by kernel_rfl)) (by decide) (fun K hK=>?_)
    refine value_ (w1:=?_) (v:=?_) (by rfl) rfl ?_ ?_
    rotate_left 2
    ·go_simp
     constructor
     rotate_left
     ·rfl
     rfl
    refine hK.out _ _ ⟨(blk_cell (blk_alloc BK376.out _) 0).trans rfl,(blk_cell (blk_alloc BK376.out _) 1).trans rfl,(blk_cell (blk_alloc BK376.out _) 2).trans rfl,(World.cell?_alloc_lt _ _ _ (World.block_lt_of_cell? _ _ (((HB.out.cell (World.block_lt_of_cell? w _ hw398_0)).trans hw398_0)))).trans (((HB.out.cell (World.block_lt_of_cell? w _ hw398_0)).trans hw398_0)),(World.cell?_alloc_lt _ _ _ (World.block_lt_of_cell? _ _ (((HB.out.cell (World.block_lt_of_cell? w _ hw399_0)).trans hw399_0)))).trans (((HB.out.cell (World.block_lt_of_cell? w _ hw399_0)).trans hw399_0))⟩ (fun hHeld=>?_)
    clear hK K
    refine norm_ (a':=?_) ?_ ?_
    rotate_left
    ·show Act.put _ (some 69) _ = _
     simp only [ap]
     rfl
    refine one_ (i:=15) (N:=some 70) (lb 17 65535) rfl rfl (one_of HT_.out (by kernel_rfl)) (by decide) (fun K hK=>?_)
    refine R_append_step (Kd.int .i64) (w0:=w) w.heap.size (by rfl) (.tmp 55) (.tmp 69) 22 3 (.int .i64 0) 8 rfl Try.underlying22 info3 rfl (by decide) (by omega) u8 x8_3 (wrap64 ((rd l0_1 x47_3) + (wrap64 ((rd l0_2 x47_3) * a1)))) [.int .i64 (wrap64 ((rd l0_1 x47_3) + (wrap64 ((rd l0_2 x47_3) * a1))))] (fun k_=>ob k_ u7 ∧ some k_ ≠ (.slice (some ad397) t394.length co29 : Value).ownBlock) (fun _=>False) rfl rfl ?aP (fun _ hk=>hk.elim) ?aF ?aO ?aB ?aS ?aL ?_
    (case aP=>exact rfl)
    (case aB=>exact (h1 HB.out GE376.out))
    (case aF=>exact (fun k_ hk=>⟨Kd.fresh' (R_lt (rm HO_7.out)) k_ hk,Kd.fresh' (R_lt (rm HO_45.out)) k_ hk⟩))
    (case aO=>exact (rm HO_8.out))
    (case aS=>exact (below_size (h1 HB.out GE376.out)))
    (case aL=>have:=LMc36.out;omega)
    intro v401 w38 ho hb hg hat
    rw [← Ny400.out] at ho
    replace HO_7:=ak (R_after (ok:=(fun k_=>some k_ ≠ (.slice (some ad397) t394.length co29 : Value).ownBlock)) (rm (R_mono HO_7.out (fun _ hk=>⟨hk.2,hk.1⟩))) hg hat)
    replace HO_45:=ak (R_after (ok:=(fun k_=>ob k_ u7)) (rm HO_45.out) hg hat)
    replace BK376:=ak (blk_grown (g:=gb376) (o:=.cells #[.int .i64 a0_0,.slice (some ad398) l0_1.length c0_1,.slice (some ad399) l0_2.length c0_2] 27 (0,0)) (bm BK376.out) hg (R_ne HO_8.out BK376.out (by decide)))
    replace HB:=ak hb
    have HO402:=ak ho
    clear HO_8
    clear ho hb hg hat
    refine hK.out _ _ ⟨(blk_cell BK376.out 0).trans rfl,(blk_cell BK376.out 1).trans rfl,(blk_cell BK376.out 2).trans rfl,((HB.out.cell (World.block_lt_of_cell? w _ hw398_0)).trans hw398_0),((HB.out.cell (World.block_lt_of_cell? w _ hw399_0)).trans hw399_0)⟩ (fun hHeld=>?_)
    clear hK K
    refine norm_ (a':=?_) ?_ ?_
    rotate_left
    ·show Act.put _ (some 70) _ = _
     simp only [ap]
     rfl
    refine pq 16 (N:=some 8) (lb 17 131071) HT_ ?_
    refine done_ (done_of HT_.out (by kernel_rfl)) ?_
    try go_wp2
    go_roundg k3
    case measure=>have:=HJ2.out;have:=HK2.out;have:=HK3.out;omega
    case rel=>exact ⟨(y400),(wrap64 (x47_3 + 1)),fd,H',⟨by have:=HJ2.out;have:=HK2.out;have:=HK3.out;omega⟩,⟨rm (R_mono HO_7.out (fun _ hk=>⟨hk.2,hk.1⟩))⟩,⟨rm HO402.out⟩,⟨rm HO_45.out⟩,⟨bm BK376.out⟩,⟨h1 HB.out GE376.out⟩⟩

/-! ### laws_rBig: function 33 -/
def laws_rBig.f (l0 : List Int) : Option (Bool):=some (decide ((l0.length : Int) > 65536))
set_option maxHeartbeats 8000000 in
set_option maxRecDepth 100000 in
theorem laws_rBig.calls (A0 : Option Addr) (c0 : Nat) (l0 : List Int) (r : Bool) (w : World) (hr0 : Kd.C (Kd.int .u8) w A0 l0.length l0) (hc0 : l0.length ≤ c0) (h : laws_rBig.f l0 = some r) :
  Calls Try.prog 33 #[.slice A0 l0.length c0] w fun e w'=>e = .returned (.bool r) ∧ Drawn0 w w':=by
 have HR0:=Aside0.mk hr0
 have HC0:=Aside0.mk hc0
 clear hr0 hc0
 have H : (some (decide ((l0.length : Int) > 65536))) = some r:=h
 clear h
 obtain rfl:=Option.some.inj H
 go_enter Try.func33,Try.ntmps33
 go_wp2
 go_ret
 exact ⟨by first|rfl|(simp;done)|(simp [*];done),by repeat (exact Drawn0.refl _)⟩

/-- A state of type 64 at block g of W;what its slices lead to came in by w0. -/
def IsS64 (w0 W : World) (g : Nat) (f0 : List Int) (f1 : Int) (f2 : Int) : Prop:=∃ A0 c0,W.heap[g]? = some (.cells #[.slice A0 f0.length c0,.int .i64 f1,.int .u64 f2] 64 (0,0)) ∧ w0.heap.size ≤ g ∧ Kd.C (Kd.int .u8) w0 A0 f0.length f0
theorem IsS64.grown {w0 W : World} {g : Nat} {f0 : List Int} {f1 : Int} {f2 : Int} {W1 : World} {row : Option Nat} (h : IsS64 w0 W g f0 f1 f2) (hw : W.grownBy W1 row) (hne : some g ≠ row) : IsS64 w0 W1 g f0 f1 f2:=by
 obtain ⟨A0,c0,hb,hg,hr0⟩:=h
 exact ⟨A0,c0,blk_grown hb hw hne,hg,hr0⟩
theorem IsS64.own_neN {w0 W : World} {g : Nat} {f0 : List Int} {f1 : Int} {f2 : Int} {α : Type} {d : Kd α} {e : Nat} {base : Nat} {ok : Nat → Prop} {v : Value} {xs : List α} (h : IsS64 w0 W g f0 f1 f2) (ho : Kd.N d e W base ok v xs) (ht : e ≠ 64) : some g ≠ v.ownBlock:=by
 obtain ⟨A0,c0,hb,hg,hr0⟩:=h
 exact Kd.N_ne ho hb ht
theorem IsS64.fresh {w0 W : World} {g : Nat} {f0 : List Int} {f1 : Int} {f2 : Int} (h : IsS64 w0 W g f0 f1 f2) : ∀ k,W.heap.size ≤ k → k ≠ g:=by
 obtain ⟨A0,c0,hb,hg,hr0⟩:=h
 exact Kd.freshB hb
theorem IsS64.kept {w0 W : World} {g : Nat} {f0 : List Int} {f1 : Int} {f2 : Int} {W1 : World} {S : Nat → Prop} (h : IsS64 w0 W g f0 f1 f2) (hk : Kept W W1 S) (hne : ¬ S g) : IsS64 w0 W1 g f0 f1 f2:=by
 obtain ⟨A0,c0,hb,hg,hr0⟩:=h
 exact ⟨A0,c0,blk_kept hb hk hne,hg,hr0⟩
theorem IsS64.below {w0 W : World} {g : Nat} {f0 : List Int} {f1 : Int} {f2 : Int} {W1 : World} (h : IsS64 w0 W g f0 f1 f2) (hw : Below W.heap.size W W1) : IsS64 w0 W1 g f0 f1 f2:=h.grown (grown_of_below hw none) (by simp)
theorem IsS64.alloc {w0 W : World} {g : Nat} {f0 : List Int} {f1 : Int} {f2 : Int} (h : IsS64 w0 W g f0 f1 f2) (o : Obj) : IsS64 w0 (W.alloc o) g f0 f1 f2:=h.below (below_alloc (Below.refl _ _) o)
theorem IsS64.drewN {w0 W : World} {g : Nat} {f0 : List Int} {f1 : Int} {f2 : Int} (h : IsS64 w0 W g f0 f1 f2) (m : Nat) : IsS64 w0 (W.drewN m) g f0 f1 f2:=h
theorem IsS64.drew {w0 W : World} {g : Nat} {f0 : List Int} {f1 : Int} {f2 : Int} (h : IsS64 w0 W g f0 f1 f2) : IsS64 w0 W.drew g f0 f1 f2:=h
theorem IsS64.at_ {w0 W : World} {g : Nat} {f0 : List Int} {f1 : Int} {f2 : Int} {w' : World} {m : Nat} (hq : W.drewN m = w') (h : IsS64 w0 W g f0 f1 f2) : IsS64 w0 w' g f0 f1 f2:=by subst hq;exact IsS64.drewN h m
theorem IsS64.apart {w0 W : World} {g : Nat} {f0 : List Int} {f1 : Int} {f2 : Int} {α : Type} {d : Kd α} {e : Nat} {base : Nat} {ok : Nat → Prop} {v : Value} {xs : List α} (h : IsS64 w0 W g f0 f1 f2) (ho : d.R e W base ok v xs) (ht : ∀ q,q ∈ e :: d.E → q ≠ 64) : d.R e W base (fun k=>ok k ∧ k ≠ g) v xs:=by
 obtain ⟨A0,c0,hb,hg,hr0⟩:=h
 exact R_types ho hb ht
theorem IsS64.own_ne {w0 W : World} {g : Nat} {f0 : List Int} {f1 : Int} {f2 : Int} {α : Type} {d : Kd α} {e : Nat} {base : Nat} {ok : Nat → Prop} {v : Value} {xs : List α} (h : IsS64 w0 W g f0 f1 f2) (ho : d.R e W base ok v xs) (ht : e ≠ 64) : some g ≠ v.ownBlock:=by
 obtain ⟨A0,c0,hb,hg,hr0⟩:=h
 exact R_ne ho hb ht
theorem IsS64.apartQ {w0 W : World} {g : Nat} {f0 : List Int} {f1 : Int} {f2 : Int} {α : Type} {d : Kd α} {e : Nat} {base : Nat} {ok : Nat → Prop} {v : Value} {xs : List α} (h : IsS64 w0 W g f0 f1 f2) (ho : d.Q e W base ok v xs) (ht : ∀ q,q ∈ e :: d.E → q ≠ 64) : d.Q e W base (fun k=>ok k ∧ k ≠ g) v xs:=by
 obtain ⟨A0,c0,hb,hg,hr0⟩:=h
 exact Kd.Q_types ho hb ht
theorem IsS64.own_neQ {w0 W : World} {g : Nat} {f0 : List Int} {f1 : Int} {f2 : Int} {α : Type} {d : Kd α} {e : Nat} {base : Nat} {ok : Nat → Prop} {v : Value} {xs : List α} (h : IsS64 w0 W g f0 f1 f2) (ho : d.Q e W base ok v xs) (ht : e ≠ 64) : some g ≠ v.ownBlock:=by
 obtain ⟨A0,c0,hb,hg,hr0⟩:=h
 exact Kd.Q_ne ho hb ht
theorem IsS64.apartS {w0 W : World} {g : Nat} {f0 : List Int} {f1 : Int} {f2 : Int} {α : Type} {d : Kd α} {e : Nat} {base : Nat} {ok : Nat → Prop} {v : Value} {xs : List α} (h : IsS64 w0 W g f0 f1 f2) (ho : d.S e W base ok v xs) (ht : ∀ q,q ∈ e :: d.E → q ≠ 64) : d.S e W base (fun k=>ok k ∧ k ≠ g) v xs:=by
 obtain ⟨A0,c0,hb,hg,hr0⟩:=h
 exact Kd.S_types ho hb ht
theorem IsS64.own_neS {w0 W : World} {g : Nat} {f0 : List Int} {f1 : Int} {f2 : Int} {α : Type} {d : Kd α} {e : Nat} {base : Nat} {ok : Nat → Prop} {v : Value} {xs : List α} (h : IsS64 w0 W g f0 f1 f2) (ho : d.S e W base ok v xs) (ht : e ≠ 64) : some g ≠ v.ownBlock:=by
 obtain ⟨A0,c0,hb,hg,hr0⟩:=h
 exact Kd.S_ne ho hb ht
theorem IsS64.lt {w0 W : World} {g : Nat} {f0 : List Int} {f1 : Int} {f2 : Int} (h : IsS64 w0 W g f0 f1 f2) : g < W.heap.size:=by
 obtain ⟨A0,c0,hb,hg,hr0⟩:=h
 exact blk_lt hb
theorem IsS64.ge {w0 W : World} {g : Nat} {f0 : List Int} {f1 : Int} {f2 : Int} (h : IsS64 w0 W g f0 f1 f2) : w0.heap.size ≤ g:=by
 obtain ⟨A0,c0,hb,hg,hr0⟩:=h
 exact hg
theorem IsS64.ne_blk {w0 W : World} {g : Nat} {f0 : List Int} {f1 : Int} {f2 : Int} {a : Nat} {cs : Array Value} {t : TypeId} {fr : Nat × Nat} (h : IsS64 w0 W g f0 f1 f2) (hb2 : W.heap[a]? = some (.cells cs t fr)) (ht : t ≠ 64) : g ≠ a:=by
 obtain ⟨A0,c0,hb,hg,hr0⟩:=h
 rintro rfl
 rw [hb] at hb2
 injection hb2 with hb2
 injection hb2 with _ ht2
 exact ht ht2.symm
theorem IsS64.far {w0 W : World} {g : Nat} {f0 : List Int} {f1 : Int} {f2 : Int} {p : Addr} (h : IsS64 w0 W g f0 f1 f2) (hne : g ≠ p.block) (u : Value) : IsS64 w0 (W.setCell p u) g f0 f1 f2:=by
 obtain ⟨A0,c0,hb,hg,hr0⟩:=h
 exact ⟨A0,c0,blk_far hb hne u,hg,hr0⟩
theorem cellS64_0 {W : World} {g : Nat} {A0 : Option Addr} {c0 : Nat} {f0 : List Int} {f1 : Int} {f2 : Int} (h : W.heap[g]? = some (.cells #[.slice A0 f0.length c0,.int .i64 f1,.int .u64 f2] 64 (0,0))) : W.cell? ⟨g,0,none⟩ = some (.slice A0 f0.length c0):=(blk_cell h 0).trans rfl
theorem cellS64_1 {W : World} {g : Nat} {A0 : Option Addr} {c0 : Nat} {f0 : List Int} {f1 : Int} {f2 : Int} (h : W.heap[g]? = some (.cells #[.slice A0 f0.length c0,.int .i64 f1,.int .u64 f2] 64 (0,0))) : W.cell? ⟨g,1,none⟩ = some (.int .i64 f1):=(blk_cell h 1).trans rfl
theorem IsS64.set_1 {w0 W : World} {g : Nat} {f0 : List Int} {f1 : Int} {f2 : Int} (h : IsS64 w0 W g f0 f1 f2) (x : Int) : IsS64 w0 (W.setCell ⟨g,1,none⟩ (.int .i64 x)) g f0 x f2:=by
 obtain ⟨A0,c0,hb,hg,hr0⟩:=h
 exact ⟨A0,c0,by simpa using blk_set hb 1 (.int .i64 x),hg,hr0⟩
theorem cellS64_2 {W : World} {g : Nat} {A0 : Option Addr} {c0 : Nat} {f0 : List Int} {f1 : Int} {f2 : Int} (h : W.heap[g]? = some (.cells #[.slice A0 f0.length c0,.int .i64 f1,.int .u64 f2] 64 (0,0))) : W.cell? ⟨g,2,none⟩ = some (.int .u64 f2):=(blk_cell h 2).trans rfl
theorem IsS64.set_2 {w0 W : World} {g : Nat} {f0 : List Int} {f1 : Int} {f2 : Int} (h : IsS64 w0 W g f0 f1 f2) (x : Int) : IsS64 w0 (W.setCell ⟨g,2,none⟩ (.int .u64 x)) g f0 f1 x:=by
 obtain ⟨A0,c0,hb,hg,hr0⟩:=h
 exact ⟨A0,c0,by simpa using blk_set hb 2 (.int .u64 x),hg,hr0⟩
theorem IsS64.now {w0 W : World} {g : Nat} {f0 : List Int} {f1 : Int} {f2 : Int} {f0' : List Int} {f1' : Int} {f2' : Int} {W' : World} (h : IsS64 w0 W g f0 f1 f2) (k : IsS64 w0 W' g f0' f1' f2' := by (try simp only [Int.add_zero]);repeat (first|(with_reducible first|exact Aside0.out (by assumption)|apply IsS64.alloc|apply IsS64.drewN|apply IsS64.drew|apply IsS64.set_1|apply IsS64.set_2|refine IsS64.far ?_ (Aside0.out (by assumption)) _)|exact Aside0.out (by assumption))) : IsS64 w0 W' g f0' f1' f2' := k
theorem IsS64.new (w0 W : World) (A0 : Option Addr) (c0 : Nat) (f0 : List Int) (f1 : Int) (f2 : Int) (hB : Below w0.heap.size w0 W) (hr0 : Kd.C (Kd.int .u8) w0 A0 f0.length f0) : IsS64 w0 (W.alloc (.cells #[.slice A0 f0.length c0,.int .i64 f1,.int .u64 f2] 64)) W.heap.size f0 f1 f2:=⟨A0,c0,by simpa using heap_alloc_new W _,hB.size,hr0⟩

/-! ### spec_l1Cur_next: function 76 -/
def spec_l1Cur_next.f (s0_0 : List Int) (s0_1 : Int) (s0_2 : Int) : Option (Int × Int × Int):=if s0_1 < (s0_0.length : Int) then (if 0 ≤ s0_1 then (if (wrap64 (s0_1 + 1)) ≤ (s0_0.length : Int) then (some (wrap64 (rd s0_0 s0_1),wrap64 (s0_1 + 1),IntKind.u64.wrap ((IntKind.u64.wrap ((IntKind.u64.wrap (s0_2 * 6364136223846793005)) + (IntKind.u64.wrap (wrap64 (rd s0_0 s0_1))))) + 462197))) else (some (wrap64 (Go.bits .and .u64 ((IntKind.u64.wrap ((IntKind.u64.wrap ((IntKind.u64.wrap (s0_2 * 6364136223846793005)) + (IntKind.u64.wrap (wrap64 (rd s0_0 s0_1))))) + 462197)) / 1099511627776) 255),wrap64 (s0_1 + 1),IntKind.u64.wrap ((IntKind.u64.wrap ((IntKind.u64.wrap (s0_2 * 6364136223846793005)) + (IntKind.u64.wrap (wrap64 (rd s0_0 s0_1))))) + 462197)))) else (none)) else (if (wrap64 (s0_1 + 1)) ≤ (s0_0.length : Int) then (some (0,wrap64 (s0_1 + 1),IntKind.u64.wrap ((IntKind.u64.wrap ((IntKind.u64.wrap (s0_2 * 6364136223846793005)) + 0)) + 462197))) else (some (wrap64 (Go.bits .and .u64 ((IntKind.u64.wrap ((IntKind.u64.wrap ((IntKind.u64.wrap (s0_2 * 6364136223846793005)) + 0)) + 462197)) / 1099511627776) 255),wrap64 (s0_1 + 1),IntKind.u64.wrap ((IntKind.u64.wrap ((IntKind.u64.wrap (s0_2 * 6364136223846793005)) + 0)) + 462197))))
set_option maxHeartbeats 8000000 in
set_option maxRecDepth 100000 in
theorem spec_l1Cur_next.calls (g : Nat) (s0_0 : List Int) (s0_1 : Int) (s0_2 : Int) (r1 : Int) (r2 : Int) (r3 : Int) (w0 w : World) (hI : IsS64 w0 w g s0_0 s0_1 s0_2) (hB : Below w0.heap.size w0 w) (h : spec_l1Cur_next.f s0_0 s0_1 s0_2 = some (r1,r2,r3)) :
  Calls Try.prog 76 #[.pointer (some ⟨g,0,none⟩)] w fun e w'=>e = .returned (.int .i64 r1) ∧ IsS64 w0 w' g s0_0 r2 r3 ∧ Below w0.heap.size w0 w' ∧ KeepBut w w' g none:=by
 have HI0:=Aside0.mk hI
 have HK:=Aside0.mk (KeepBut.refl w g none)
 have HL:=Aside0.mk hB.size
 clear hI
 have HW0:=Aside0.mk hB.size
 have HB:=Aside0.mk hB
 clear hB
 have H : (if s0_1 < (s0_0.length : Int) then (if 0 ≤ s0_1 then (if (wrap64 (s0_1 + 1)) ≤ (s0_0.length : Int) then (some (wrap64 (rd s0_0 s0_1),wrap64 (s0_1 + 1),IntKind.u64.wrap ((IntKind.u64.wrap ((IntKind.u64.wrap (s0_2 * 6364136223846793005)) + (IntKind.u64.wrap (wrap64 (rd s0_0 s0_1))))) + 462197))) else (some (wrap64 (Go.bits .and .u64 ((IntKind.u64.wrap ((IntKind.u64.wrap ((IntKind.u64.wrap (s0_2 * 6364136223846793005)) + (IntKind.u64.wrap (wrap64 (rd s0_0 s0_1))))) + 462197)) / 1099511627776) 255),wrap64 (s0_1 + 1),IntKind.u64.wrap ((IntKind.u64.wrap ((IntKind.u64.wrap (s0_2 * 6364136223846793005)) + (IntKind.u64.wrap (wrap64 (rd s0_0 s0_1))))) + 462197)))) else (none)) else (if (wrap64 (s0_1 + 1)) ≤ (s0_0.length : Int) then (some (0,wrap64 (s0_1 + 1),IntKind.u64.wrap ((IntKind.u64.wrap ((IntKind.u64.wrap (s0_2 * 6364136223846793005)) + 0)) + 462197))) else (some (wrap64 (Go.bits .and .u64 ((IntKind.u64.wrap ((IntKind.u64.wrap ((IntKind.u64.wrap (s0_2 * 6364136223846793005)) + 0)) + 462197)) / 1099511627776) 255),wrap64 (s0_1 + 1),IntKind.u64.wrap ((IntKind.u64.wrap ((IntKind.u64.wrap (s0_2 * 6364136223846793005)) + 0)) + 462197))))) = some (r1,r2,r3):=h
 clear h
 by_cases c2 : s0_1 < (s0_0.length : Int)
 rotate_left
 ·rw [if_neg c2] at H
  have c2b0 : decide (s0_1 < (s0_0.length : Int)) = false:=decide_eq_false c2
  clear c2
  by_cases c7 : (wrap64 (s0_1 + 1)) ≤ (s0_0.length : Int)
  ·rw [if_pos c7] at H
   have c7b0 : decide ((wrap64 (s0_1 + 1)) ≤ (s0_0.length : Int)) = true:=decide_eq_true c7
   clear c7
   simp only [Option.some.injEq,Prod.mk.injEq] at H
   obtain ⟨rfl,rfl,rfl⟩:=H
   obtain ⟨ASz8_0,cSz8_0,HGz8,hgz8,HSz8_0⟩:=HI0.out
   have hcz8_0:=cellS64_0 HGz8
   have hcz8_1:=cellS64_1 HGz8
   have hcz8_2:=cellS64_2 HGz8
   have hfz8_1:=blk_frozen HGz8 1
   have hfz8_2:=blk_frozen HGz8 2
   clear HGz8 hgz8
   go_enter Try.func76,Try.ntmps76
   go_wp2
   repeat (go_quiet (fail);try go_wp2)
   go_ret
   exact ⟨fe,(IsS64.now HI0.out),h1 HB.out (IsS64.ge HI0.out),(kn HK.out)⟩
  rw [if_neg c7] at H
  have c7b0 : decide ((wrap64 (s0_1 + 1)) ≤ (s0_0.length : Int)) = false:=decide_eq_false c7
  clear c7
  simp only [Option.some.injEq,Prod.mk.injEq] at H
  obtain ⟨rfl,rfl,rfl⟩:=H
  obtain ⟨ASz9_0,cSz9_0,HGz9,hgz9,HSz9_0⟩:=HI0.out
  have hcz9_0:=cellS64_0 HGz9
  have hcz9_1:=cellS64_1 HGz9
  have hcz9_2:=cellS64_2 HGz9
  have hfz9_1:=blk_frozen HGz9 1
  have hfz9_2:=blk_frozen HGz9 2
  clear HGz9 hgz9
  go_enter Try.func76,Try.ntmps76
  go_wp2
  repeat (go_quiet (fail);try go_wp2)
  go_ret
  exact ⟨fe,(IsS64.now HI0.out),h1 HB.out (IsS64.ge HI0.out),(kn HK.out)⟩
 rw [if_pos c2] at H
 have c2b0 : decide (s0_1 < (s0_0.length : Int)) = true:=decide_eq_true c2
 clear c2
 by_cases c3 : 0 ≤ s0_1
 rotate_left
 ·rw [if_neg c3] at H
  exact absurd H (by simp)
 rw [if_pos c3] at H
 have c3b0 : decide (0 ≤ s0_1) = true:=decide_eq_true c3
 clear c3
 by_cases c4 : (wrap64 (s0_1 + 1)) ≤ (s0_0.length : Int)
 ·rw [if_pos c4] at H
  have c4b0 : decide ((wrap64 (s0_1 + 1)) ≤ (s0_0.length : Int)) = true:=decide_eq_true c4
  clear c4
  simp only [Option.some.injEq,Prod.mk.injEq] at H
  obtain ⟨rfl,rfl,rfl⟩:=H
  obtain ⟨ASz5_0,cSz5_0,HGz5,hgz5,HSz5_0⟩:=HI0.out
  have hcz5_0:=cellS64_0 HGz5
  have hcz5_1:=cellS64_1 HGz5
  have hcz5_2:=cellS64_2 HGz5
  have hfz5_1:=blk_frozen HGz5 1
  have hfz5_2:=blk_frozen HGz5 2
  clear HGz5 hgz5
  have p404 : 0 ≤ (s0_1 : Int):=od
  have q404 : s0_1 < (s0_0.length : Int):=od
  obtain ⟨ad404,e404,hx404_0⟩:=Kd.at_int HSz5_0 s0_1 p404 q404
  cases e404
  replace hx404_0:=pw_cell_below HB.out hx404_0
  replace p404:=eq_true p404
  replace q404:=eq_true q404
  go_enter Try.func76,Try.ntmps76
  go_wp2
  repeat (go_quiet (fail);try go_wp2)
  go_ret
  exact ⟨fe,(IsS64.now HI0.out),h1 HB.out (IsS64.ge HI0.out),(kn HK.out)⟩
 rw [if_neg c4] at H
 have c4b0 : decide ((wrap64 (s0_1 + 1)) ≤ (s0_0.length : Int)) = false:=decide_eq_false c4
 clear c4
 simp only [Option.some.injEq,Prod.mk.injEq] at H
 obtain ⟨rfl,rfl,rfl⟩:=H
 obtain ⟨ASz6_0,cSz6_0,HGz6,hgz6,HSz6_0⟩:=HI0.out
 have hcz6_0:=cellS64_0 HGz6
 have hcz6_1:=cellS64_1 HGz6
 have hcz6_2:=cellS64_2 HGz6
 have hfz6_1:=blk_frozen HGz6 1
 have hfz6_2:=blk_frozen HGz6 2
 clear HGz6 hgz6
 have p404 : 0 ≤ (s0_1 : Int):=od
 have q404 : s0_1 < (s0_0.length : Int):=od
 obtain ⟨ad404,e404,hx404_0⟩:=Kd.at_int HSz6_0 s0_1 p404 q404
 cases e404
 replace hx404_0:=pw_cell_below HB.out hx404_0
 replace p404:=eq_true p404
 replace q404:=eq_true q404
 go_enter Try.func76,Try.ntmps76
 go_wp2
 repeat (go_quiet (fail);try go_wp2)
 go_ret
 exact ⟨fe,(IsS64.now HI0.out),h1 HB.out (IsS64.ge HI0.out),(kn HK.out)⟩


end
end Go.Proofs.Ytciihopkgblpkaa.QFnWires
