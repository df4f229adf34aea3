/- Functions that the law FnExactAreSameForm comes to, as Lean functions, with the proof that the Go code does what they say: written by a program of this session over the kit's print. No condition but those named. -/
import Derived.Test.YtjmpanikfomgeaaQFnExactAreSameFormx0
import Derived.Test.YtjmpanikfomgeaaQFnExactAreSameFormx5
import Derived.Test.YtjmpanikfomgeaaQFnExactAreSameFormx6
import Derived.Test.YtjmpanikfomgeaaQFnExactAreSameFormx8
namespace Go.Proofs.Ytjmpanikfomgeaa.QFnExactAreSameForm
open Go.RowKit Go.Proofs.YtjmpanikfomgeaaW.PrintWords Go.Proofs.YtjmpanikfomgeaaW.PrintLast Go.Proofs.YtjmpanikfomgeaaW.PrintMore Go.Proofs.Ytjmpanikfomgeaa.Short
attribute [local go_sem] max2_int min2_int max_two min_two max_three min_three max_four min_four   -- for this text's walks alone
set_option linter.unusedVariables false
set_option linter.unusedSimpArgs false

/-! ### impl_Crowd_form: function 70 -/
section
open Kd
mutual
def impl_Crowd_form.l0 : Nat → Int → Int → Int → List Int → Int → List Int → Option (Int × List Int)
 | 0,_,_,_,_,_,_=>none
 | k + 1,x10,x11,x279000,x279001,x285000,x285001=>if x11 < x10 then ((impl_Crowd_turned.f k x279000 x279001 x11).bind fun bt285=>((impl_Crowd_mirrored.f k x279000 x279001).bind fun bt289=>((impl_Crowd_turned.f k bt289.1 bt289.2 x11).bind fun bt293=>((some (([(⟨bt285.1,bt285.2⟩ : S30),(⟨bt293.1,bt293.2⟩ : S30)] : List (S30)) : List (S30))).bind fun y297=>(impl_Crowd_form.l1 k x10 x11 y297 (y297.length : Int) 0 x279000 x279001 x285000 x285001))))) else (some (x285000,x285001))
def impl_Crowd_form.l1 : Nat → Int → Int → List (S30) → Int → Int → Int → List Int → Int → List Int → Option (Int × List Int)
 | 0,_,_,_,_,_,_,_,_,_=>none
 | k + 1,x10,x11,x21,x22,x23,x279000,x279001,x285000,x285001=>if x23 < x22 then (if 0 ≤ x23 then (if x23 < (x21.length : Int) then ((slices_Compare_int_int.f k ((rd_T30 x21 x23).f1) x285001).bind fun t302=>(if t302 < 0 then (impl_Crowd_form.l1 k x10 x11 x21 x22 (wrap64 (x23 + 1)) x279000 x279001 ((rd_T30 x21 x23).f0) ((rd_T30 x21 x23).f1)) else (impl_Crowd_form.l1 k x10 x11 x21 x22 (wrap64 (x23 + 1)) x279000 x279001 x285000 x285001))) else (none)) else (none)) else (impl_Crowd_form.l0 k x10 (wrap64 (x11 + 1)) x279000 x279001 x285000 x285001)
end
def impl_Crowd_form.f (k : Nat) (a0_0 : Int) (l0_1 : List Int) : Option (Int × List Int):=(impl_Crowd_turned.f k a0_0 l0_1 0).bind fun bt280=>(impl_Crowd_form.l0 k a0_0 0 a0_0 l0_1 bt280.1 bt280.2)
theorem impl_Crowd_form.mono_l : ∀ k,(∀ y0 y1 y2 y3 y4 y5,LeO (impl_Crowd_form.l0 k y0 y1 y2 y3 y4 y5) (impl_Crowd_form.l0 (k + 1) y0 y1 y2 y3 y4 y5)) ∧ (∀ y0 y1 y2 y3 y4 y5 y6 y7 y8,LeO (impl_Crowd_form.l1 k y0 y1 y2 y3 y4 y5 y6 y7 y8) (impl_Crowd_form.l1 (k + 1) y0 y1 y2 y3 y4 y5 y6 y7 y8))
 | 0=>⟨fun _ _ _ _ _ _ r h=>by simp [impl_Crowd_form.l0] at h,fun _ _ _ _ _ _ _ _ _ r h=>by simp [impl_Crowd_form.l1] at h⟩
 | k + 1=>by
  obtain ⟨ih0,ih1⟩:=impl_Crowd_form.mono_l k
  refine ⟨?_,?_⟩
  ·intro y0 y1 y2 y3 y4 y5
   unfold impl_Crowd_form.l0
   repeat' first
   | (with_reducible exact ih0 _ _ _ _ _ _)
   | (with_reducible exact ih1 _ _ _ _ _ _ _ _ _)
   | (with_reducible exact impl_Crowd_mirrored.mono _ _ _)
   | (with_reducible exact impl_Crowd_turned.mono _ _ _ _)
   | (with_reducible exact slices_Compare_int_int.mono _ _ _)
   | (with_reducible exact LeO.refl _)
   | (with_reducible exact LeO.none _)
   | (with_reducible refine LeO.ite ?_ ?_)
   | (with_reducible refine LeO.bind ?_ (fun _=>?_))
   | exact ih0 _ _ _ _ _ _
   | exact ih1 _ _ _ _ _ _ _ _ _
   | exact impl_Crowd_mirrored.mono _ _ _
   | exact impl_Crowd_turned.mono _ _ _ _
   | exact slices_Compare_int_int.mono _ _ _
   | exact LeO.none _
   | refine LeO.ite ?_ ?_
   | refine LeO.bind ?_ (fun _=>?_)
  ·intro y0 y1 y2 y3 y4 y5 y6 y7 y8
   unfold impl_Crowd_form.l1
   repeat' first
   | (with_reducible exact ih0 _ _ _ _ _ _)
   | (with_reducible exact ih1 _ _ _ _ _ _ _ _ _)
   | (with_reducible exact impl_Crowd_mirrored.mono _ _ _)
   | (with_reducible exact impl_Crowd_turned.mono _ _ _ _)
   | (with_reducible exact slices_Compare_int_int.mono _ _ _)
   | (with_reducible exact LeO.refl _)
   | (with_reducible exact LeO.none _)
   | (with_reducible refine LeO.ite ?_ ?_)
   | (with_reducible refine LeO.bind ?_ (fun _=>?_))
   | exact ih0 _ _ _ _ _ _
   | exact ih1 _ _ _ _ _ _ _ _ _
   | exact impl_Crowd_mirrored.mono _ _ _
   | exact impl_Crowd_turned.mono _ _ _ _
   | exact slices_Compare_int_int.mono _ _ _
   | exact LeO.none _
   | refine LeO.ite ?_ ?_
   | refine LeO.bind ?_ (fun _=>?_)
theorem impl_Crowd_form.mono : ∀ a0 a1 k,LeO (impl_Crowd_form.f k a0 a1) (impl_Crowd_form.f (k + 1) a0 a1):=by
 intro a0 a1 k
 obtain ⟨ih0,ih1⟩:=impl_Crowd_form.mono_l k
 unfold impl_Crowd_form.f
 repeat' first
   | (with_reducible exact ih0 _ _ _ _ _ _)
   | (with_reducible exact ih1 _ _ _ _ _ _ _ _ _)
   | (with_reducible exact impl_Crowd_mirrored.mono _ _ _)
   | (with_reducible exact impl_Crowd_turned.mono _ _ _ _)
   | (with_reducible exact slices_Compare_int_int.mono _ _ _)
   | (with_reducible exact LeO.refl _)
   | (with_reducible exact LeO.none _)
   | (with_reducible refine LeO.ite ?_ ?_)
   | (with_reducible refine LeO.bind ?_ (fun _=>?_))
   | exact ih0 _ _ _ _ _ _
   | exact ih1 _ _ _ _ _ _ _ _ _
   | exact impl_Crowd_mirrored.mono _ _ _
   | exact impl_Crowd_turned.mono _ _ _ _
   | exact slices_Compare_int_int.mono _ _ _
   | exact LeO.none _
   | refine LeO.ite ?_ ?_
   | refine LeO.bind ?_ (fun _=>?_)
def impl_Crowd_form.T5 : Bool × List (List Nat × List Nat):=(true,[([],[]),([],[]),([0,1],[0,1]),([],[]),([3,2],[3]),([],[]),([4,5,4],[4,5]),([2,6],[2,6]),([7],[7]),([],[])])
def impl_Crowd_form.B5 : List Nat:=[0,0,3,0,15,0,63,127,255,0]
theorem impl_Crowd_form.tab5 : rtab .any (opsOf Try.f70 5) = impl_Crowd_form.T5:=by kernel_rfl
theorem impl_Crowd_form.bits5 : waitsOk impl_Crowd_form.T5.2 impl_Crowd_form.B5 = true:=by kernel_rfl
set_option maxHeartbeats 8000000 in
set_option maxRecDepth 100000 in
theorem impl_Crowd_form.calls (k : Nat) (a0_0 : Int) (A0_1 : Option Addr) (c0_1 : Nat) (l0_1 : List Int) (r1 : Int) (r2 : List Int) (w : World) (hr0_1 : Kd.C (Kd.int .i64) w A0_1 l0_1.length l0_1) (hc0_1 : l0_1.length ≤ c0_1) (h : impl_Crowd_form.f k a0_0 l0_1 = some (r1,r2)) :
  Calls Try.prog 70 #[.agg #[.int .i64 a0_0,.slice A0_1 l0_1.length c0_1]] w fun e w'=>∃ v1_ : Value,e = .returned (.agg #[.int .i64 r1,v1_]) ∧ Kd.V (Kd.int .i64) 3 w' w.heap.size (fun k_=>(w.heap.size ≤ k_)) v1_ r2 ∧ Below w.heap.size w w':=by
 have hu30:=Try.underlying30
 have HR0_1:=Aside0.mk hr0_1
 have HC0_1:=Aside0.mk hc0_1
 clear hr0_1 hc0_1
 have HB:=Aside0.mk (Below.refl w.heap.size w)
 have H : ((impl_Crowd_turned.f k a0_0 l0_1 0).bind fun bt280=>(impl_Crowd_form.l0 k a0_0 0 a0_0 l0_1 bt280.1 bt280.2)) = some (r1,r2):=h
 clear h
 replace H:=Option.bind_eq_some_iff.mp H
 obtain ⟨⟨t280,t281⟩,A20,H⟩:=H
 replace H : (impl_Crowd_form.l0 k a0_0 0 a0_0 l0_1 t280 t281) = some (r1,r2):=H
 have A2:=Aside0.mk A20
 clear A20
 have H':=Aside0.mk H
 clear H
 go_enter Try.func70,Try.ntmps70
 go_wp2_with (first|((with_reducible refine gate_dst (N:=1) rfl ?_);refine box_event ?hg (N:=1) ?hd (cs:=#[.int .i64 a0_0,.slice A0_1 l0_1.length c0_1]) (t:=30) ?hr ?_;(case hd=>rfl);(case hg=>rfl);(case hr=>first|(go_simp;done)|(go_simp;rfl));intro gb278 hg w3 hbox hb;have n0_:=Aside0.mk (below_step (hm HB.out) hb);have n1_:=Aside0.mk (hbox);have n2_:=Aside0.mk ((by rw [hg];exact (below_size (hm HB.out)) : w.heap.size ≤ gb278));have n3_:=Aside0.mk ((by rw [hg];exact (below_size (hm HB.out)) : w.heap.size ≤ gb278));clear HB;have HB:=n0_;have BK278:=n1_;have GW278:=n2_;have GE278:=n3_;clear n0_ n1_ n2_ n3_;clear hb hbox hg)|((with_reducible refine gate_dst (N:=2) rfl ?_);refine box_event ?hg (N:=2) ?hd (cs:=#[.int .i64 0,.slice none 0 0]) (t:=30) ?hr ?_;(case hd=>rfl);(case hg=>rfl);(case hr=>first|(go_simp;done)|(go_simp;rfl));intro gb279 hg w4 hbox hb;have n0_:=Aside0.mk (blk_below (g:=gb278) (o:=.cells #[.int .i64 a0_0,.slice A0_1 l0_1.length c0_1] 30 (0,0)) (bm BK278.out) hb);have n1_:=Aside0.mk (below_step (h1 HB.out GE278.out) hb);have n2_:=Aside0.mk (hbox);have n3_:=Aside0.mk ((by rw [hg];exact (below_size (h1 HB.out GE278.out)) : w.heap.size ≤ gb279));have n4_:=Aside0.mk ((by rw [hg];exact (below_size (h1 HB.out GE278.out)) : w.heap.size ≤ gb279));have n5_:=Aside0.mk ((by rw [hg];exact Nat.ne_of_lt (blk_lt (g:=gb278) (bm BK278.out)) : gb278 ≠ gb279));have n6_:=Aside0.mk ((by rw [hg];exact Nat.ne_of_gt (blk_lt (g:=gb278) (bm BK278.out)) : gb279 ≠ gb278));clear BK278;clear HB;have BK278:=n0_;have HB:=n1_;have BK279:=n2_;have GW279:=n3_;have GE279:=n4_;have NB278_279:=n5_;have NB279_278:=n6_;clear n0_ n1_ n2_ n3_ n4_ n5_ n6_;clear hb hbox hg;have hnb5:=NB278_279.out;have hnc5:=NB279_278.out;have hcz6_0 : w4.cell? ⟨gb278,0,none⟩ = some (.int .i64 a0_0):=(blk_cell BK278.out 0).trans rfl;have hcz6_1 : w4.cell? ⟨gb278,1,none⟩ = some (.slice A0_1 l0_1.length c0_1):=(blk_cell BK278.out 1).trans rfl;have hfz6_0:=blk_frozen BK278.out 0;have hfz6_1:=blk_frozen BK278.out 1)|((with_reducible refine gate_callee (f:=61) rfl ?_);refine goesL_ (some 8) rfl rfl Try.func61 (by kernel_rfl) rfl #[.agg #[.int .i64 a0_0,.slice A0_1 l0_1.length c0_1],.int .i64 0] rfl (by (try simp only [List.map_toArray,List.map_cons,List.map_nil]);first|done|rfl|(simp only [List.length_drop,List.length_take];rfl)) ?_;(with_reducible refine (impl_Crowd_turned.calls k a0_0 _ _ l0_1 0 t280 t281 _ ?side1 ?side2 A2.out).mono ?_);(case side1=>exact cm (C_below HR0_1.out HB.out));(case side2=>exact HC0_1.out);rintro e w7 ⟨v282,rfl,ho0,hb⟩;refine ⟨_,rfl,?_⟩;have n0_:=Aside0.mk (R_lower (R_newM (M:=fun k_=>(w.heap.size ≤ k_)) ho0 (below_size (h2 HB.out GE278.out GE279.out)) (fun k_ h_=>h_)) (below_size (h2 HB.out GE278.out GE279.out)));have n1_:=Aside0.mk (blk_below (g:=gb278) (o:=.cells #[.int .i64 a0_0,.slice A0_1 l0_1.length c0_1] 30 (0,0)) (bm BK278.out) hb);have n2_:=Aside0.mk (blk_below (g:=gb279) (o:=.cells #[.int .i64 0,.slice none 0 0] 30 (0,0)) (bm BK279.out) hb);have n3_:=Aside0.mk (below_step (h2 HB.out GE278.out GE279.out) hb);clear BK278;clear BK279;clear HB;have HO283:=n0_;have BK278:=n1_;have BK279:=n2_;have HB:=n3_;clear n0_ n1_ n2_ n3_;(try clear hb);(try clear hb2);(try clear hk);(try clear hi);(try clear ho0))|((with_reducible refine gate_dst (N:=3) rfl ?_);refine box_event ?hg (N:=3) ?hd (cs:=#[.int .i64 0,.slice none 0 0]) (t:=30) ?hr ?_;(case hd=>rfl);(case hg=>rfl);(case hr=>first|(go_simp;done)|(go_simp;rfl));intro gb284 hg w8 hbox hb;have n0_:=Aside0.mk (R_below (rm HO283.out) hb);have n1_:=Aside0.mk (blk_below (g:=gb278) (o:=.cells #[.int .i64 a0_0,.slice A0_1 l0_1.length c0_1] 30 (0,0)) (bm BK278.out) hb);have n2_:=Aside0.mk (blk_below (g:=gb279) (o:=.cells #[.int .i64 0,.slice none 0 0] 30 (0,0)) (bm BK279.out) hb);have n3_:=Aside0.mk (below_step (h2 HB.out GE278.out GE279.out) hb);have n4_:=Aside0.mk (hbox);have n5_:=Aside0.mk ((by rw [hg];exact (below_size (h2 HB.out GE278.out GE279.out)) : w.heap.size ≤ gb284));have n6_:=Aside0.mk ((by rw [hg];exact (below_size (h2 HB.out GE278.out GE279.out)) : w.heap.size ≤ gb284));have n7_:=Aside0.mk ((by rw [hg];exact Nat.ne_of_lt (blk_lt (g:=gb278) (bm BK278.out)) : gb278 ≠ gb284));have n8_:=Aside0.mk ((by rw [hg];exact Nat.ne_of_gt (blk_lt (g:=gb278) (bm BK278.out)) : gb284 ≠ gb278));have n9_:=Aside0.mk ((by rw [hg];exact Nat.ne_of_lt (blk_lt (g:=gb279) (bm BK279.out)) : gb279 ≠ gb284));have n10_:=Aside0.mk ((by rw [hg];exact Nat.ne_of_gt (blk_lt (g:=gb279) (bm BK279.out)) : gb284 ≠ gb279));clear HO283;clear BK278;clear BK279;clear HB;have HO283:=n0_;have BK278:=n1_;have BK279:=n2_;have HB:=n3_;have BK284:=n4_;have GW284:=n5_;have GE284:=n6_;have NB278_284:=n7_;have NB284_278:=n8_;have NB279_284:=n9_;have NB284_279:=n10_;clear n0_ n1_ n2_ n3_ n4_ n5_ n6_ n7_ n8_ n9_ n10_;clear hb hbox hg;have hnb9:=NB284_278.out;have hnc9:=NB278_284.out;have hnb10:=NB284_279.out;have hnc10:=NB279_284.out;have hcz11_0 : w8.cell? ⟨gb284,0,none⟩ = some (.int .i64 0):=(blk_cell BK284.out 0).trans rfl;have hcz11_1 : w8.cell? ⟨gb284,1,none⟩ = some (.slice none 0 0):=(blk_cell BK284.out 1).trans rfl;have hfz11_0:=blk_frozen BK284.out 0;have hfz11_1:=blk_frozen BK284.out 1;obtain ⟨Ao12,co12,eo12⟩:=R_slice HO283.out;subst eo12;have hcz13_0 : w8.cell? ⟨gb278,0,none⟩ = some (.int .i64 a0_0):=(blk_cell BK278.out 0).trans rfl;have hcz13_1 : w8.cell? ⟨gb278,1,none⟩ = some (.slice A0_1 l0_1.length c0_1):=(blk_cell BK278.out 1).trans rfl;have hfz13_0:=blk_frozen BK278.out 0;have hfz13_1:=blk_frozen BK278.out 1))
 go_loopg [11] k (fun kq v11 w'=>∃ (x11_1 : Int) (x285000_1 : Int) (x285001_1 : List Int) (u285001 : Value),v11 = .int .i64 x11_1 ∧ Aside0 (impl_Crowd_form.l0 kq a0_0 x11_1 a0_0 l0_1 x285000_1 x285001_1 = some (r1,r2)) ∧ Aside0 (kq ≤ k) ∧ Aside0 (Kd.V (Kd.int .i64) 3 w' w.heap.size (fun k_=>(w.heap.size ≤ k_) ∧ k_ ≠ gb278 ∧ k_ ≠ gb279 ∧ k_ ≠ gb284) u285001 x285001_1) ∧ Aside0 (w'.heap[gb278]? = some (.cells #[.int .i64 a0_0,(.slice A0_1 l0_1.length c0_1)] 30 (0,0))) ∧ Aside0 (w'.heap[gb279]? = some (.cells #[.int .i64 0,(.slice none 0 0)] 30 (0,0))) ∧ Aside0 (w'.heap[gb284]? = some (.cells #[.int .i64 x285000_1,u285001] 30 (0,0))) ∧ Aside0 (Below w.heap.size w w'))
 case atStart=>exact ⟨(0),(t280),(t281),(.slice Ao12 t281.length co12),(by first|rfl|(simp;done)|(simp [*];done)),H',⟨Nat.le_refl _⟩,⟨R_V (by (with_reducible repeat (first|apply R_alloc|apply R_drewN|apply R_drew));exact R_mono (R_far (p:=⟨gb284,1,none⟩) (R_far (p:=⟨gb284,0,none⟩) (R_types (R_types (R_types (R_types HO283.out BK278.out (by decide)) BK279.out (by decide)) BK284.out (by decide)) BK284.out (by decide)) (fun _ hk=>hk.2) (.int .i64 t280)) (fun _ hk=>hk.2) (.slice Ao12 t281.length co12)) (fun _ hk=>⟨hk.1.1.1.1.1,⟨hk.1.1.1.2,⟨hk.1.1.2,hk.1.2⟩⟩⟩))⟩,⟨by (with_reducible repeat (first|apply blk_drewN|apply blk_drew|apply blk_alloc));refine blk_far ?_ NB278_284.out _;(with_reducible repeat (first|apply blk_drewN|apply blk_drew|apply blk_alloc));refine blk_far ?_ NB278_284.out _;(with_reducible repeat (first|apply blk_drewN|apply blk_drew|apply blk_alloc));exact BK278.out⟩,⟨by (with_reducible repeat (first|apply blk_drewN|apply blk_drew|apply blk_alloc));refine blk_far ?_ NB279_284.out _;(with_reducible repeat (first|apply blk_drewN|apply blk_drew|apply blk_alloc));refine blk_far ?_ NB279_284.out _;(with_reducible repeat (first|apply blk_drewN|apply blk_drew|apply blk_alloc));exact BK279.out⟩,⟨by (with_reducible repeat (first|apply blk_drewN|apply blk_drew|apply blk_alloc));refine blk_put (cs:=#[.int .i64 t280,.slice none 0 0]) ?_ 1 _ rfl;(with_reducible repeat (first|apply blk_drewN|apply blk_drew|apply blk_alloc));refine blk_put (cs:=#[.int .i64 0,.slice none 0 0]) ?_ 0 _ rfl;(with_reducible repeat (first|apply blk_drewN|apply blk_drew|apply blk_alloc));exact BK284.out⟩,⟨h3 HB.out GE278.out GE279.out GE284.out⟩⟩
 clear H'
 try clear c1
 try clear p2
 try clear c5
 try clear c6
 try clear c7
 try clear c9
 try clear c10
 try clear hcz11_0
 try clear hcz11_1
 try clear hcz13_0
 try clear hcz13_1
 try clear hcz6_0
 try clear hcz6_1
 try clear hfz11_0
 try clear hfz11_1
 try clear hfz13_0
 try clear hfz13_1
 try clear hfz6_0
 try clear hfz6_1
 obtain ⟨x11_1,x285000_1,x285001_1,u285001,rfl,HA,HK1,HO_285001,BK278,BK279,BK284,HB⟩:=hrel
 cases gk with
 | zero=>exact absurd HA.out (by simp [impl_Crowd_form.l0])
 | succ k1 =>
  have H:=HA.out
  clear HA
  simp only [impl_Crowd_form.l0] at H
  by_cases c14 : x11_1 < a0_0
  rotate_left
  ·rw [if_neg c14] at H
   have c14b0 : decide (x11_1 < a0_0) = false:=decide_eq_false c14
   clear c14
   simp only [Option.some.injEq,Prod.mk.injEq] at H
   obtain ⟨rfl,rfl⟩:=H
   have hnb51:=NB284_278.out
   have hnc51:=NB278_284.out
   have hnb52:=NB284_279.out
   have hnc52:=NB279_284.out
   have hcz53_0 : wr.cell? ⟨gb284,0,none⟩ = some (.int .i64 x285000_1):=(blk_cell BK284.out 0).trans rfl
   have hcz53_1 : wr.cell? ⟨gb284,1,none⟩ = some (u285001):=(blk_cell BK284.out 1).trans rfl
   have hfz53_0:=blk_frozen BK284.out 0
   have hfz53_1:=blk_frozen BK284.out 1
   have hnb54:=NB279_278.out
   have hnc54:=NB278_279.out
   have hcz55_0 : wr.cell? ⟨gb279,0,none⟩ = some (.int .i64 0):=(blk_cell BK279.out 0).trans rfl
   have hcz55_1 : wr.cell? ⟨gb279,1,none⟩ = some (.slice none 0 0):=(blk_cell BK279.out 1).trans rfl
   have hfz55_0:=blk_frozen BK279.out 0
   have hfz55_1:=blk_frozen BK279.out 1
   obtain ⟨Ao56,co56,eo56⟩:=Kd.V_slice HO_285001.out
   subst eo56
   go_wp2
   refine bodyPost_ret (results_cell_row rfl _ _ gb279 30 #[.int .i64 x285000_1,.slice Ao56 x285001_1.length co56] (0,0) _ rfl (by (with_reducible repeat (first|apply blk_drewN|apply blk_drew|apply blk_alloc));refine blk_put (cs:=#[.int .i64 x285000_1,.slice none 0 0]) ?_ 1 _ rfl;(with_reducible repeat (first|apply blk_drewN|apply blk_drew|apply blk_alloc));refine blk_put (cs:=#[.int .i64 0,.slice none 0 0]) ?_ 0 _ rfl;(with_reducible repeat (first|apply blk_drewN|apply blk_drew|apply blk_alloc));exact BK279.out) Try.underlying30 rfl (by kernel_rfl)) rfl ?_
   exact ⟨_,by first|rfl|(simp [errW_none,errW_some] <;> rfl)|(simp [*,errW_none,errW_some] <;> rfl),by (with_reducible repeat (first|apply Kd.V_alloc|apply Kd.V_drewN|apply Kd.V_drew));exact Kd.V_mono (Kd.V_far (p:=⟨gb279,1,none⟩) (Kd.V_far (p:=⟨gb279,0,none⟩) (Kd.V_mono HO_285001.out (fun k_ hk=>(⟨hk,hk.2.2.1⟩ : _ ∧ k_ ≠ gb279))) (fun _ hk=>hk.2) (.int .i64 x285000_1)) (fun _ hk=>hk.2) (.slice Ao56 x285001_1.length co56)) (fun _ hk=>hk.1.1),h3 HB.out GE278.out GE279.out GE284.out⟩
  rw [if_pos c14] at H
  have c14b0 : decide (x11_1 < a0_0) = true:=decide_eq_true c14
  clear c14
  replace H:=Option.bind_eq_some_iff.mp H
  obtain ⟨⟨t285,t286⟩,A150,H⟩:=H
  replace H : ((impl_Crowd_mirrored.f k1 a0_0 l0_1).bind fun bt289=>((impl_Crowd_turned.f k1 bt289.1 bt289.2 x11_1).bind fun bt293=>((some (([(⟨t285,t286⟩ : S30),(⟨bt293.1,bt293.2⟩ : S30)] : List (S30)) : List (S30))).bind fun y297=>(impl_Crowd_form.l1 k1 a0_0 x11_1 y297 (y297.length : Int) 0 a0_0 l0_1 x285000_1 x285001_1)))) = some (r1,r2):=H
  have A15:=Aside0.mk A150
  clear A150
  replace H:=Option.bind_eq_some_iff.mp H
  obtain ⟨⟨t289,t290⟩,A160,H⟩:=H
  replace H : ((impl_Crowd_turned.f k1 t289 t290 x11_1).bind fun bt293=>((some (([(⟨t285,t286⟩ : S30),(⟨bt293.1,bt293.2⟩ : S30)] : List (S30)) : List (S30))).bind fun y297=>(impl_Crowd_form.l1 k1 a0_0 x11_1 y297 (y297.length : Int) 0 a0_0 l0_1 x285000_1 x285001_1))) = some (r1,r2):=H
  have A16:=Aside0.mk A160
  clear A160
  replace H:=Option.bind_eq_some_iff.mp H
  obtain ⟨⟨t293,t294⟩,A170,H⟩:=H
  replace H : ((some (([(⟨t285,t286⟩ : S30),(⟨t293,t294⟩ : S30)] : List (S30)) : List (S30))).bind fun y297=>(impl_Crowd_form.l1 k1 a0_0 x11_1 y297 (y297.length : Int) 0 a0_0 l0_1 x285000_1 x285001_1)) = some (r1,r2):=H
  have A17:=Aside0.mk A170
  clear A170
  obtain ⟨y297,hy297⟩ : ∃ y_ : List (S30),y_ = (([(⟨t285,t286⟩ : S30),(⟨t293,t294⟩ : S30)] : List (S30))):=⟨_,rfl⟩
  replace H : (impl_Crowd_form.l1 k1 a0_0 x11_1 y297 (y297.length : Int) 0 a0_0 l0_1 x285000_1 x285001_1) = some (r1,r2):=by first|(rw [hy297];with_reducible exact H)|(have H2_:=(Option.bind_some _ _).symm.trans H;rw [hy297];with_reducible exact H2_)|(have H2_:=(Option.bind_some _ _).symm.trans H;with_reducible exact H2_)|with_reducible exact H|(rw [hy297];exact H)|exact H
  have Ny297:=Aside0.mk hy297
  clear hy297
  have H':=Aside0.mk H
  clear H
  try go_wp2
  have n0_:=Aside0.mk (Kd.V_drew HO_285001.out)
  have n1_:=Aside0.mk (blk_drew BK278.out)
  have n2_:=Aside0.mk (blk_drew BK279.out)
  have n3_:=Aside0.mk (blk_drew BK284.out)
  have n4_:=Aside0.mk (below_drew1 HB.out)
  clear HO_285001
  clear BK278
  clear BK279
  clear BK284
  clear HB
  have HO_285001:=n0_
  have BK278:=n1_
  have BK279:=n2_
  have BK284:=n3_
  have HB:=n4_
  clear n0_ n1_ n2_ n3_ n4_
  refine start_ (n:=10) (S:=fun w'=>w'.cell? ⟨gb278,0,none⟩ = some (.int .i64 a0_0) ∧ w'.cell? ⟨gb278,1,none⟩ = some (.slice A0_1 l0_1.length c0_1)) (ds:=[]) (lb 10 0) (by kernel_rfl) rfl rfl ⟨(blk_cell BK278.out 0).trans rfl,(blk_cell BK278.out 1).trans rfl⟩ (fun hHeld=>?_);refine with_tabW impl_Crowd_form.tab5 impl_Crowd_form.bits5 (fun HT_ HW_=>?_)
  generalize wr.drew = w18 at HO_285001 BK278 BK279 BK284 HB hHeld ⊢
  refine pu 1 (N:=some 15) (v:=?_) (a':=?_) (lb 10 2) HT_ (by kernel_rfl) rfl rfl rfl (fun _ _ _ h=>h) ?_ ?_ ?_
  rotate_left
  ·intro w'
   go_simp
   with_reducible rfl
  rotate_left
  ·simp only [ap]
   rfl
  refine pu 5 (N:=some 19) (v:=?_) (a':=?_) (lb 10 34) HT_ (by kernel_rfl) rfl rfl rfl (fun _ _ _ h=>h) ?_ ?_ ?_
  rotate_left
  ·intro w'
   go_simp
   with_reducible rfl
  rotate_left
  ·simp only [ap]
   rfl
  refine pu 9 (N:=some 23) (v:=?_) (a':=?_) (lb 10 546) HT_ (by kernel_rfl) rfl rfl rfl (fun _ _ _ h=>h) ?_ ?_ ?_
  rotate_left
  ·intro w'
   go_simp
   with_reducible rfl
  rotate_left
  ·simp only [ap]
   rfl
  refine take_ (i:=0) (N:=some 14) (v:=?_) (a':=?_) (lb 10 547) rfl rfl (take_ofW HT_.out HW_.out (by kernel_rfl)) (fun _ _ _ h=>h) (Or.inl ⟨by rfl,?_⟩) hHeld ?_ ?_
  rotate_left
  ·rintro w' ⟨s0,s1⟩
   go_simp
   with_reducible rfl
  rotate_left
  ·simp only [ap]
   rfl
  refine take_ (i:=3) (N:=some 17) (v:=?_) (a':=?_) (lb 10 555) rfl rfl (take_ofW HT_.out HW_.out (by kernel_rfl)) (fun _ _ _ h=>h) (Or.inl ⟨by rfl,?_⟩) hHeld ?_ ?_
  rotate_left
  ·rintro w' ⟨s0,s1⟩
   go_simp
   with_reducible rfl
  rotate_left
  ·simp only [ap]
   rfl
  refine one_ (i:=2) (N:=some 16) (lb 10 559) rfl rfl (one_of HT_.out (by kernel_rfl)) (by decide) (fun K hK=>?_)
  refine goes_ Try.func61 (by kernel_rfl) rfl #[.agg #[.int .i64 a0_0,.slice A0_1 l0_1.length c0_1],.int .i64 x11_1] (by rfl) rfl rfl (by (try simp only [List.map_toArray,List.map_cons,List.map_nil]);first|done|rfl|(simp only [List.length_drop,List.length_take];rfl)) ?_
  with_reducible refine (impl_Crowd_turned.calls k1 a0_0 _ _ l0_1 x11_1 t285 t286 _ ?side1 ?side2 A15.out).mono ?_
  (case side1=>exact cm (C_below HR0_1.out HB.out))
  (case side2=>exact HC0_1.out)
  rintro e w19 ⟨v287,rfl,ho0,hb⟩
  refine ⟨_,rfl,?_⟩
  have n0_:=Aside0.mk (Kd.V_elder' (vm HO_285001.out) (R_base ho0) hb)
  have n1_:=Aside0.mk (R_lower (R_newM (M:=fun k_=>(w.heap.size ≤ k_)) ho0 (below_size (h3 HB.out GE278.out GE279.out GE284.out)) (fun k_ h_=>h_)) (below_size (h3 HB.out GE278.out GE279.out GE284.out)))
  have n2_:=Aside0.mk (blk_below (g:=gb278) (o:=.cells #[.int .i64 a0_0,.slice A0_1 l0_1.length c0_1] 30 (0,0)) (bm BK278.out) hb)
  have n3_:=Aside0.mk (blk_below (g:=gb279) (o:=.cells #[.int .i64 0,.slice none 0 0] 30 (0,0)) (bm BK279.out) hb)
  have n4_:=Aside0.mk (blk_below (g:=gb284) (o:=.cells #[.int .i64 x285000_1,u285001] 30 (0,0)) (bm BK284.out) hb)
  have n5_:=Aside0.mk (below_step (h3 HB.out GE278.out GE279.out GE284.out) hb)
  clear HO_285001
  clear BK278
  clear BK279
  clear BK284
  clear HB
  have HO_285001:=n0_
  have HO288:=n1_
  have BK278:=n2_
  have BK279:=n3_
  have BK284:=n4_
  have HB:=n5_
  clear n0_ n1_ n2_ n3_ n4_ n5_
  (try clear hb)
  (try clear hb2)
  (try clear hk)
  (try clear hi)
  (try clear ho0)
  refine hK.out _ _ ⟨(blk_cell BK278.out 0).trans rfl,(blk_cell BK278.out 1).trans rfl⟩ (fun hHeld=>?_)
  clear hK K
  refine norm_ (a':=?_) ?_ ?_
  rotate_left
  ·show Act.put _ (some 16) _ = _
   simp only [ap]
   rfl
  refine one_ (i:=4) (N:=some 18) (lb 10 575) rfl rfl (one_of HT_.out (by kernel_rfl)) (by decide) (fun K hK=>?_)
  refine goes_ Try.func58 (by kernel_rfl) rfl #[.agg #[.int .i64 a0_0,.slice A0_1 l0_1.length c0_1]] (by rfl) rfl rfl (by (try simp only [List.map_toArray,List.map_cons,List.map_nil]);first|done|rfl|(simp only [List.length_drop,List.length_take];rfl)) ?_
  with_reducible refine (impl_Crowd_mirrored.calls k1 a0_0 _ _ l0_1 t289 t290 _ ?side1 ?side2 A16.out).mono ?_
  (case side1=>exact cm (C_below HR0_1.out HB.out))
  (case side2=>exact HC0_1.out)
  rintro e w20 ⟨v291,rfl,ho0,hb⟩
  refine ⟨_,rfl,?_⟩
  have n0_:=Aside0.mk (Kd.V_elder' (vm HO_285001.out) (R_base ho0) hb)
  have n1_:=Aside0.mk (R_elder' (rm HO288.out) (R_base ho0) hb)
  have n2_:=Aside0.mk (R_lower (R_new' (R_newM (M:=fun k_=>(w.heap.size ≤ k_)) ho0 (below_size (h3 HB.out GE278.out GE279.out GE284.out)) (fun k_ h_=>h_)) (R_lt (rm HO288.out))) (below_size (h3 HB.out GE278.out GE279.out GE284.out)))
  have n3_:=Aside0.mk (blk_below (g:=gb278) (o:=.cells #[.int .i64 a0_0,.slice A0_1 l0_1.length c0_1] 30 (0,0)) (bm BK278.out) hb)
  have n4_:=Aside0.mk (blk_below (g:=gb279) (o:=.cells #[.int .i64 0,.slice none 0 0] 30 (0,0)) (bm BK279.out) hb)
  have n5_:=Aside0.mk (blk_below (g:=gb284) (o:=.cells #[.int .i64 x285000_1,u285001] 30 (0,0)) (bm BK284.out) hb)
  have n6_:=Aside0.mk (below_step (h3 HB.out GE278.out GE279.out GE284.out) hb)
  clear HO_285001
  clear HO288
  clear BK278
  clear BK279
  clear BK284
  clear HB
  have HO_285001:=n0_
  have HO288:=n1_
  have HO292:=n2_
  have BK278:=n3_
  have BK279:=n4_
  have BK284:=n5_
  have HB:=n6_
  clear n0_ n1_ n2_ n3_ n4_ n5_ n6_
  (try clear hb)
  (try clear hb2)
  (try clear hk)
  (try clear hi)
  (try clear ho0)
  obtain ⟨Ao21,co21,eo21⟩:=R_slice HO292.out
  (first|subst eo21|(injection eo21 with f1_ f2_ f3_;have f4_:=f1_.symm;have f5_:=f3_.symm;clear f1_ f2_ f3_;subst f4_;subst f5_))
  refine hK.out _ _ ⟨(blk_cell BK278.out 0).trans rfl,(blk_cell BK278.out 1).trans rfl⟩ (fun hHeld=>?_)
  clear hK K
  refine norm_ (a':=?_) ?_ ?_
  rotate_left
  ·show Act.put _ (some 18) _ = _
   simp only [ap]
   rfl
  refine one_ (i:=6) (N:=some 20) (lb 10 639) rfl rfl (one_of HT_.out (by kernel_rfl)) (by decide) (fun K hK=>?_)
  refine goes_ Try.func61 (by kernel_rfl) rfl #[.agg #[.int .i64 t289,.slice Ao21 t290.length co21],.int .i64 x11_1] (by rfl) rfl rfl (by (try simp only [List.map_toArray,List.map_cons,List.map_nil]);first|done|rfl|(simp only [List.length_drop,List.length_take];rfl)) ?_
  with_reducible refine (impl_Crowd_turned.calls k1 t289 _ _ t290 x11_1 t293 t294 _ ?side1 ?side2 A17.out).mono ?_
  (case side1=>exact cm (R_reads' HO292.out).2.2)
  (case side2=>exact (R_reads' HO292.out).2.1)
  rintro e w22 ⟨v295,rfl,ho0,hb⟩
  refine ⟨_,rfl,?_⟩
  have n0_:=Aside0.mk (Kd.V_elder' (vm HO_285001.out) (R_base ho0) hb)
  have n1_:=Aside0.mk (R_elder' (rm HO288.out) (R_base ho0) hb)
  have n2_:=Aside0.mk (R_elder' (rm HO292.out) (R_base ho0) hb)
  have n3_:=Aside0.mk (R_lower (R_new' (R_new' (R_newM (M:=fun k_=>(w.heap.size ≤ k_)) ho0 (below_size (h3 HB.out GE278.out GE279.out GE284.out)) (fun k_ h_=>h_)) (R_lt (rm HO288.out))) (R_lt (rm HO292.out))) (below_size (h3 HB.out GE278.out GE279.out GE284.out)))
  have n4_:=Aside0.mk (blk_below (g:=gb278) (o:=.cells #[.int .i64 a0_0,.slice A0_1 l0_1.length c0_1] 30 (0,0)) (bm BK278.out) hb)
  have n5_:=Aside0.mk (blk_below (g:=gb279) (o:=.cells #[.int .i64 0,.slice none 0 0] 30 (0,0)) (bm BK279.out) hb)
  have n6_:=Aside0.mk (blk_below (g:=gb284) (o:=.cells #[.int .i64 x285000_1,u285001] 30 (0,0)) (bm BK284.out) hb)
  have n7_:=Aside0.mk (below_step (h3 HB.out GE278.out GE279.out GE284.out) hb)
  clear HO_285001
  clear HO288
  clear HO292
  clear BK278
  clear BK279
  clear BK284
  clear HB
  have HO_285001:=n0_
  have HO288:=n1_
  have HO292:=n2_
  have HO296:=n3_
  have BK278:=n4_
  have BK279:=n5_
  have BK284:=n6_
  have HB:=n7_
  clear n0_ n1_ n2_ n3_ n4_ n5_ n6_ n7_
  (try clear hb)
  (try clear hb2)
  (try clear hk)
  (try clear hi)
  (try clear ho0)
  obtain ⟨Ao23,co23,eo23⟩:=R_slice HO288.out
  (first|subst eo23|(injection eo23 with f1_ f2_ f3_;have f4_:=f1_.symm;have f5_:=f3_.symm;clear f1_ f2_ f3_;subst f4_;subst f5_))
  obtain ⟨Ao24,co24,eo24⟩:=R_slice HO296.out
  (first|subst eo24|(injection eo24 with f1_ f2_ f3_;have f4_:=f1_.symm;have f5_:=f3_.symm;clear f1_ f2_ f3_;subst f4_;subst f5_))
  refine hK.out _ _ ⟨(blk_cell BK278.out 0).trans rfl,(blk_cell BK278.out 1).trans rfl⟩ (fun hHeld=>?_)
  clear hK K
  refine norm_ (a':=?_) ?_ ?_
  rotate_left
  ·show Act.put _ (some 20) _ = _
   simp only [ap]
   rfl
  refine one_ (i:=7) (N:=some 21) (lb 10 767) rfl rfl (one_of HT_.out (by kernel_rfl)) (by decide) (fun K hK=>?_)
  refine Kd.N_lit_step k30 _ 30 ?hg (N':=21) ?hd (xs:=([(⟨t285,t286⟩ : S30),(⟨t293,t294⟩ : S30)] : List (S30))) (inner:=[.int .i64 t285,.slice Ao23 t286.length co23,.int .i64 t293,.slice Ao24 t294.length co24]) (ok:=(fun k_=>(w.heap.size ≤ k_) ∧ some k_ ≠ (.slice Ao21 t290.length co21 : Value).ownBlock ∧ k_ ≠ gb278 ∧ k_ ≠ gb279 ∧ k_ ≠ gb284)) (okp:=(fun k_=>(w.heap.size ≤ k_) ∧ some k_ ≠ (.slice Ao21 t290.length co21 : Value).ownBlock ∧ k_ ≠ gb278 ∧ k_ ≠ gb279 ∧ k_ ≠ gb284)) ?hr ?hp (fun _ hk=>hk) ((show ∀ k_,w22.heap.size ≤ k_ → (fun k_=>(w.heap.size ≤ k_) ∧ some k_ ≠ (.slice Ao21 t290.length co21 : Value).ownBlock ∧ k_ ≠ gb278 ∧ k_ ≠ gb279 ∧ k_ ≠ gb284) k_ from fun k_ hk=>⟨(Nat.le_trans (below_size (h3 HB.out GE278.out GE279.out GE284.out)) hk),Kd.fresh' (R_lt (rm HO292.out)) k_ hk,Kd.freshB (g:=gb278) (o:=.cells #[.int .i64 a0_0,.slice A0_1 l0_1.length c0_1] 30 (0,0)) (bm BK278.out) k_ hk,Kd.freshB (g:=gb279) (o:=.cells #[.int .i64 0,.slice none 0 0] 30 (0,0)) (bm BK279.out) k_ hk,Kd.freshB (g:=gb284) (o:=.cells #[.int .i64 x285000_1,u285001] 30 (0,0)) (bm BK284.out) k_ hk⟩) _ (Nat.le_refl _)) (Below.refl _ _) (Nat.le_refl _) (by simp) ?_;(case hd=>rfl);(case hg=>rfl);(case hr=>first|(go_simp;done)|(go_simp;rfl));(case hp=>exact (Reps.c2 (show Kd.FK k30 _ _ (⟨t285,t286⟩ : S30) [.int .i64 t285,.slice Ao23 t286.length co23] from (k30_mkF _ _ (⟨t285,t286⟩ : S30) (R_reads' (R_mono (ok':=(fun k_=>(w.heap.size ≤ k_) ∧ some k_ ≠ (.slice Ao21 t290.length co21 : Value).ownBlock ∧ k_ ≠ gb278 ∧ k_ ≠ gb279 ∧ k_ ≠ gb284)) (R_types (R_types (R_types (HO288.out) BK278.out (by decide)) BK279.out (by decide)) BK284.out (by decide)) (fun k_ hk=>⟨hk.1.1.1.1.1.1,⟨hk.1.1.1.1.2,⟨hk.1.1.2,⟨hk.1.2,hk.2⟩⟩⟩⟩))).2.1 (R_F (R_mono (ok':=(fun k_=>(w.heap.size ≤ k_) ∧ some k_ ≠ (.slice Ao21 t290.length co21 : Value).ownBlock ∧ k_ ≠ gb278 ∧ k_ ≠ gb279 ∧ k_ ≠ gb284)) (R_types (R_types (R_types (HO288.out) BK278.out (by decide)) BK279.out (by decide)) BK284.out (by decide)) (fun k_ hk=>⟨hk.1.1.1.1.1.1,⟨hk.1.1.1.1.2,⟨hk.1.1.2,⟨hk.1.2,hk.2⟩⟩⟩⟩))))) (Reps.c2 (show Kd.FK k30 _ _ (⟨t293,t294⟩ : S30) [.int .i64 t293,.slice Ao24 t294.length co24] from (k30_mkF _ _ (⟨t293,t294⟩ : S30) (R_reads' (R_mono (ok':=(fun k_=>(w.heap.size ≤ k_) ∧ some k_ ≠ (.slice Ao21 t290.length co21 : Value).ownBlock ∧ k_ ≠ gb278 ∧ k_ ≠ gb279 ∧ k_ ≠ gb284)) (R_types (R_types (R_types (HO296.out) BK278.out (by decide)) BK279.out (by decide)) BK284.out (by decide)) (fun k_ hk=>⟨hk.1.1.1.1.1.1,⟨hk.1.1.1.2,⟨hk.1.1.2,⟨hk.1.2,hk.2⟩⟩⟩⟩))).2.1 (R_F (R_mono (ok':=(fun k_=>(w.heap.size ≤ k_) ∧ some k_ ≠ (.slice Ao21 t290.length co21 : Value).ownBlock ∧ k_ ≠ gb278 ∧ k_ ≠ gb279 ∧ k_ ≠ gb284)) (R_types (R_types (R_types (HO296.out) BK278.out (by decide)) BK279.out (by decide)) BK284.out (by decide)) (fun k_ hk=>⟨hk.1.1.1.1.1.1,⟨hk.1.1.1.2,⟨hk.1.1.2,⟨hk.1.2,hk.2⟩⟩⟩⟩))))) (Reps.none _ _))))
  intro v298 w25 ho26 hb hg_ hnew_
  clear hg_ hnew_
  (first|rw [← Ny297.out] at ho26|(simp only [Int.reduceToNat] at ho26;rw [← Ny297.out] at ho26))
  have n0_:=Aside0.mk (Kd.V_elder' (vm HO_285001.out) (Kd.N_base ho26) hb)
  have n1_:=Aside0.mk (R_below (rm HO292.out) hb)
  have n2_:=Aside0.mk (Kd.N_lower ho26 (below_size (h3 HB.out GE278.out GE279.out GE284.out)))
  have n3_:=Aside0.mk (blk_below (g:=gb278) (o:=.cells #[.int .i64 a0_0,.slice A0_1 l0_1.length c0_1] 30 (0,0)) (bm BK278.out) hb)
  have n4_:=Aside0.mk (blk_below (g:=gb279) (o:=.cells #[.int .i64 0,.slice none 0 0] 30 (0,0)) (bm BK279.out) hb)
  have n5_:=Aside0.mk (blk_below (g:=gb284) (o:=.cells #[.int .i64 x285000_1,u285001] 30 (0,0)) (bm BK284.out) hb)
  have n6_:=Aside0.mk (below_step (h3 HB.out GE278.out GE279.out GE284.out) hb)
  clear HO_285001
  clear HO292
  clear BK278
  clear BK279
  clear BK284
  clear HB
  clear HO288
  clear HO296
  have HO_285001:=n0_
  have HO292:=n1_
  have HO299:=n2_
  have BK278:=n3_
  have BK279:=n4_
  have BK284:=n5_
  have HB:=n6_
  clear n0_ n1_ n2_ n3_ n4_ n5_ n6_
  clear hb ho26
  obtain ⟨Ao27,co27,eo27⟩:=Kd.N_slice HO299.out
  (first|subst eo27|(injection eo27 with f1_ f2_ f3_;have f4_:=f1_.symm;have f5_:=f3_.symm;clear f1_ f2_ f3_;subst f4_;subst f5_))
  refine hK.out _ _ ⟨(blk_cell BK278.out 0).trans rfl,(blk_cell BK278.out 1).trans rfl⟩ (fun hHeld=>?_)
  clear hK K
  refine norm_ (a':=?_) ?_ ?_
  rotate_left
  ·show Act.put _ (some 21) _ = _
   simp only [ap]
   rfl
  refine pu 8 (N:=some 22) (v:=?_) (a':=?_) (lb 10 1023) HT_ (by kernel_rfl) rfl rfl rfl (fun _ _ _ h=>h) ?_ ?_ ?_
  rotate_left
  ·intro w'
   go_simp
   with_reducible rfl
  rotate_left
  ·simp only [ap]
   rfl
  refine done_ (done_of HT_.out (by kernel_rfl)) ?_
  try go_wp2
  go_loopg [23] k1 (fun kq v23 w'=>∃ (x23_2 : Int) (x285000_2 : Int) (x285001_2 : List Int) (u285001 : Value),v23 = .int .i64 x23_2 ∧ Aside0 (impl_Crowd_form.l1 kq a0_0 x11_1 y297 (y297.length : Int) x23_2 a0_0 l0_1 x285000_2 x285001_2 = some (r1,r2)) ∧ Aside0 (kq ≤ k1) ∧ Aside0 (Kd.N k30 30 w' w.heap.size (fun k_=>(w.heap.size ≤ k_) ∧ k_ ≠ gb278 ∧ k_ ≠ gb279 ∧ k_ ≠ gb284) (.slice Ao27 y297.length co27) y297) ∧ Aside0 (Kd.V (Kd.int .i64) 3 w' w.heap.size (fun k_=>(w.heap.size ≤ k_) ∧ some k_ ≠ ((.slice Ao27 y297.length co27) : Value).ownBlock ∧ k_ ≠ gb278 ∧ k_ ≠ gb279 ∧ k_ ≠ gb284) u285001 x285001_2) ∧ Aside0 (w'.heap[gb278]? = some (.cells #[.int .i64 a0_0,(.slice A0_1 l0_1.length c0_1)] 30 (0,0))) ∧ Aside0 (w'.heap[gb279]? = some (.cells #[.int .i64 0,(.slice none 0 0)] 30 (0,0))) ∧ Aside0 (w'.heap[gb284]? = some (.cells #[.int .i64 x285000_2,u285001] 30 (0,0))) ∧ Aside0 (Below w.heap.size w w'))
  case atStart=>exact ⟨(0),(x285000_1),(x285001_1),(u285001),(by first|rfl|(simp;done)|(simp [*];done)),H',⟨Nat.le_refl _⟩,⟨nm (Kd.N_mono HO299.out (fun _ hk=>⟨hk.1,⟨hk.2.2.1,⟨hk.2.2.2.1,hk.2.2.2.2⟩⟩⟩))⟩,⟨vm (Kd.V_mono HO_285001.out (fun _ hk=>⟨hk.1.1.1.1.1,⟨hk.2,⟨hk.1.1.1.1.2.1,⟨hk.1.1.1.1.2.2.1,hk.1.1.1.1.2.2.2⟩⟩⟩⟩))⟩,⟨bm BK278.out⟩,⟨bm BK279.out⟩,⟨bm BK284.out⟩,⟨h3 HB.out GE278.out GE279.out GE284.out⟩⟩
  clear H'
  try clear c1
  try clear c2
  try clear p2
  try clear c5
  try clear c6
  try clear c7
  try clear c9
  try clear c10
  try clear c14
  try clear c14b0
  try clear hcz11_0
  try clear hcz11_1
  try clear hcz13_0
  try clear hcz13_1
  try clear hcz6_0
  try clear hcz6_1
  try clear hfz11_0
  try clear hfz11_1
  try clear hfz13_0
  try clear hfz13_1
  try clear hfz6_0
  try clear hfz6_1
  try clear p2
  obtain ⟨x23_2,x285000_2,x285001_2,u285001,rfl,HA,HK2,HO_21,HO_285001,BK278,BK279,BK284,HB⟩:=hrel
  cases gk with
  | zero=>exact absurd HA.out (by simp [impl_Crowd_form.l1])
  | succ k2 =>
   have H:=HA.out
   clear HA
   simp only [impl_Crowd_form.l1] at H
   by_cases c28 : x23_2 < (y297.length : Int)
   rotate_left
   ·rw [if_neg c28] at H
    have c28b0 : decide (x23_2 < (y297.length : Int)) = false:=decide_eq_false c28
    clear c28
    have H':=Aside0.mk H
    clear H
    go_wp2
    go_roundg k2
    case measure=>have:=HK1.out;have:=HK2.out;omega
    case rel=>exact ⟨(wrap64 (x11_1 + 1)),(x285000_2),(x285001_2),(u285001),(by first|rfl|(simp;done)|(simp [*];done)),H',⟨by have:=HK1.out;have:=HK2.out;omega⟩,⟨vm (Kd.V_mono HO_285001.out (fun _ hk=>⟨hk.1,⟨hk.2.2.1,⟨hk.2.2.2.1,hk.2.2.2.2⟩⟩⟩))⟩,⟨bm BK278.out⟩,⟨bm BK279.out⟩,⟨bm BK284.out⟩,⟨h3 HB.out GE278.out GE279.out GE284.out⟩⟩
   rw [if_pos c28] at H
   have c28b0 : decide (x23_2 < (y297.length : Int)) = true:=decide_eq_true c28
   clear c28
   by_cases c29 : 0 ≤ x23_2
   rotate_left
   ·rw [if_neg c29] at H
    exact absurd H (by simp)
   rw [if_pos c29] at H
   have c29b0 : decide (0 ≤ x23_2) = true:=decide_eq_true c29
   clear c29
   by_cases c30 : x23_2 < (y297.length : Int)
   rotate_left
   ·rw [if_neg c30] at H
    exact absurd H (by simp)
   rw [if_pos c30] at H
   have c30b0 : decide (x23_2 < (y297.length : Int)) = true:=decide_eq_true c30
   clear c30
   replace H:=Option.bind_eq_some_iff.mp H
   obtain ⟨t302,A310,H⟩:=H
   replace H : (if t302 < 0 then (impl_Crowd_form.l1 k2 a0_0 x11_1 y297 (y297.length : Int) (wrap64 (x23_2 + 1)) a0_0 l0_1 ((rd_T30 y297 x23_2).f0) ((rd_T30 y297 x23_2).f1)) else (impl_Crowd_form.l1 k2 a0_0 x11_1 y297 (y297.length : Int) (wrap64 (x23_2 + 1)) a0_0 l0_1 x285000_2 x285001_2)) = some (r1,r2):=H
   have A31:=Aside0.mk A310
   clear A310
   by_cases c32 : t302 < 0
   rotate_left
   ·rw [if_neg c32] at H
    have c32b0 : decide (t302 < 0) = false:=decide_eq_false c32
    clear c32
    have H':=Aside0.mk H
    clear H
    have p300 : 0 ≤ (x23_2 : Int):=od
    have q300 : x23_2 < (y297.length : Int):=od
    obtain ⟨ad300,A300_1,c300_1,e300,hx300_0,hx300_1,hl300_1,hi300_1⟩:=at_T30 (Kd.N_reads' HO_21.out).2.2 x23_2 p300 q300
    cases e300
    obtain ⟨ce300,hce300,hMe300,hcc300⟩:=Kd.N_get HO_21.out z30 x23_2 p300 (by first|exact q300|exact od|(have e_:=(Kd.N_reads' HO_21.out).1;omega))
    obtain ⟨ua300_1,uc300_1,rfl,ul300_1,ge300_1⟩:=k30_openF hMe300
    have hv300_1:=hcc300 1 _ rfl
    rw [add_field _ _ 1 (by omega)] at hv300_1
    replace hv300_1:=Option.some.inj (hv300_1.symm.trans hx300_1)
    injection hv300_1 with hva_ hvn_ hvc_
    rw [hva_] at ge300_1
    rw [hvc_] at ul300_1
    have HL300_1:=Aside0.mk (show Kd.V (Kd.int .i64) 3 _ w.heap.size _ _ ((rd_T30 y297 x23_2).f1) from Kd.V_mk ul300_1 ge300_1)
    clear hva_ hvn_ hvc_ ge300_1 ul300_1
    clear hcc300 hce300
    have HR300_1:=Aside0.mk hi300_1
    have HC300_1:=Aside0.mk hl300_1
    clear hi300_1 hl300_1
    replace p300:=eq_true p300
    replace q300:=eq_true q300
    go_wp2_with (first|((with_reducible refine gate_dst (N:=6) rfl ?_);refine box_event ?hg (N:=6) ?hd (cs:=#[.int .i64 0,.slice none 0 0]) (t:=30) ?hr ?_;(case hd=>rfl);(case hg=>rfl);(case hr=>first|(go_simp;done)|(go_simp;rfl));intro gb301 hg w42 hbox hb;have n0_:=Aside0.mk (Kd.N_below (Kd.N_elderB (nm HO_21.out) gb301 (Nat.le_of_eq hg.symm)) hb);have n1_:=Aside0.mk (Kd.V_below (Kd.V_elderB (vm HO_285001.out) gb301 (Nat.le_of_eq hg.symm)) hb);have n2_:=Aside0.mk (Kd.V_below (Kd.V_elderB (vm HL300_1.out) gb301 (Nat.le_of_eq hg.symm)) hb);have n3_:=Aside0.mk (blk_below (g:=gb278) (o:=.cells #[.int .i64 a0_0,.slice A0_1 l0_1.length c0_1] 30 (0,0)) (bm BK278.out) hb);have n4_:=Aside0.mk (blk_below (g:=gb279) (o:=.cells #[.int .i64 0,.slice none 0 0] 30 (0,0)) (bm BK279.out) hb);have n5_:=Aside0.mk (blk_below (g:=gb284) (o:=.cells #[.int .i64 x285000_2,u285001] 30 (0,0)) (bm BK284.out) hb);have n6_:=Aside0.mk (C_below (by repeat (first|(with_reducible exact HR300_1.out)|(with_reducible refine C_alloc ?_ _)|(with_reducible refine C_drewN ?_ _)|(with_reducible refine C_drew ?_)|exact HR300_1.out)) hb);have n7_:=Aside0.mk (below_step (h3 HB.out GE278.out GE279.out GE284.out) hb);have n8_:=Aside0.mk (hbox);have n9_:=Aside0.mk ((by rw [hg];exact (below_size (h3 HB.out GE278.out GE279.out GE284.out)) : w.heap.size ≤ gb301));have n10_:=Aside0.mk ((by rw [hg];exact (below_size (h3 HB.out GE278.out GE279.out GE284.out)) : w.heap.size ≤ gb301));have n11_:=Aside0.mk ((by rw [hg];exact Nat.ne_of_lt (blk_lt (g:=gb278) (bm BK278.out)) : gb278 ≠ gb301));have n12_:=Aside0.mk ((by rw [hg];exact Nat.ne_of_gt (blk_lt (g:=gb278) (bm BK278.out)) : gb301 ≠ gb278));have n13_:=Aside0.mk ((by rw [hg];exact Nat.ne_of_lt (blk_lt (g:=gb279) (bm BK279.out)) : gb279 ≠ gb301));have n14_:=Aside0.mk ((by rw [hg];exact Nat.ne_of_gt (blk_lt (g:=gb279) (bm BK279.out)) : gb301 ≠ gb279));have n15_:=Aside0.mk ((by rw [hg];exact Nat.ne_of_lt (blk_lt (g:=gb284) (bm BK284.out)) : gb284 ≠ gb301));have n16_:=Aside0.mk ((by rw [hg];exact Nat.ne_of_gt (blk_lt (g:=gb284) (bm BK284.out)) : gb301 ≠ gb284));clear HO_21;clear HO_285001;clear HL300_1;clear BK278;clear BK279;clear BK284;clear HR300_1;clear HB;have HO_21:=n0_;have HO_285001:=n1_;have HL300_1:=n2_;have BK278:=n3_;have BK279:=n4_;have BK284:=n5_;have HR300_1:=n6_;have HB:=n7_;have BK301:=n8_;have GW301:=n9_;have GE301:=n10_;have NB278_301:=n11_;have NB301_278:=n12_;have NB279_301:=n13_;have NB301_279:=n14_;have NB284_301:=n15_;have NB301_284:=n16_;clear n0_ n1_ n2_ n3_ n4_ n5_ n6_ n7_ n8_ n9_ n10_ n11_ n12_ n13_ n14_ n15_ n16_;clear hb hbox hg;have hnb43:=NB301_278.out;have hnc43:=NB278_301.out;have hnb44:=NB301_279.out;have hnc44:=NB279_301.out;have hnb45:=NB301_284.out;have hnc45:=NB284_301.out;have hcz46_0 : w42.cell? ⟨gb301,0,none⟩ = some (.int .i64 0):=(blk_cell BK301.out 0).trans rfl;have hcz46_1 : w42.cell? ⟨gb301,1,none⟩ = some (.slice none 0 0):=(blk_cell BK301.out 1).trans rfl;have hfz46_0:=blk_frozen BK301.out 0;have hfz46_1:=blk_frozen BK301.out 1;have hnb47:=NB284_278.out;have hnc47:=NB278_284.out;have hnb48:=NB284_279.out;have hnc48:=NB279_284.out;have hcz49_0 : w42.cell? ⟨gb284,0,none⟩ = some (.int .i64 x285000_2):=(blk_cell BK284.out 0).trans rfl;have hcz49_1 : w42.cell? ⟨gb284,1,none⟩ = some (u285001):=(blk_cell BK284.out 1).trans rfl;have hfz49_0:=blk_frozen BK284.out 0;have hfz49_1:=blk_frozen BK284.out 1;obtain ⟨Ao50,co50,eo50⟩:=Kd.V_slice HO_285001.out;subst eo50)|((with_reducible refine gate_callee (f:=73) rfl ?_);refine goesL_ (some 31) rfl rfl Try.func73 (by kernel_rfl) rfl #[.slice A300_1 ((rd_T30 y297 x23_2).f1).length c300_1,.slice Ao50 x285001_2.length co50] rfl (by (try simp only [List.map_toArray,List.map_cons,List.map_nil]);first|done|rfl|(simp only [List.length_drop,List.length_take];rfl)) ?_;(with_reducible refine (slices_Compare_int_int.calls k2 _ _ ((rd_T30 y297 x23_2).f1) _ _ x285001_2 t302 _ ?side1 ?side2 ?side3 ?side4 A31.out).mono ?_);(case side1=>repeat (first|exact ((Kd.V_reads' (by (with_reducible repeat (first|apply Kd.V_alloc|apply Kd.V_drewN|apply Kd.V_drew));exact (Kd.V_mono (Kd.V_far (p:=⟨gb301,1,none⟩) (Kd.V_far (p:=⟨gb301,0,none⟩) (Kd.V_mono HL300_1.out (fun k_ hk=>(⟨hk,hk.2⟩ : _ ∧ k_ ≠ gb301))) (fun _ hk=>hk.2) (.int .i64 ((rd_T30 y297 x23_2).f0))) (fun _ hk=>hk.2) (.slice A300_1 ((rd_T30 y297 x23_2).f1).length c300_1)) (fun _ h_=>h_.1)))).2.2)|(with_reducible refine C_alloc ?_ _)|(with_reducible refine C_drewN ?_ _)|(with_reducible refine C_drew ?_)));(case side2=>exact HC300_1.out);(case side3=>refine (Kd.V_reads' (e:=3) (base:=w.heap.size) (ok:=fun k_=>(((w.heap.size ≤ k_) ∧ (some k_ ≠ (.slice (some ad300) y297.length co27 : Value).ownBlock ∧ (k_ ≠ gb278 ∧ (k_ ≠ gb279 ∧ k_ ≠ gb284)))) ∧ k_ ≠ gb301)) (n:=x285001_2.length) (c:=co50) ?_).2.2;exact (by (with_reducible repeat (first|apply Kd.V_alloc|apply Kd.V_drewN|apply Kd.V_drew));exact (Kd.V_mono (Kd.V_far (p:=⟨gb301,1,none⟩) (Kd.V_far (p:=⟨gb301,0,none⟩) (Kd.V_mono HO_285001.out (fun k_ hk=>(⟨hk,hk.2⟩ : _ ∧ k_ ≠ gb301))) (fun _ hk=>hk.2) (.int .i64 ((rd_T30 y297 x23_2).f0))) (fun _ hk=>hk.2) (.slice A300_1 ((rd_T30 y297 x23_2).f1).length c300_1)) (fun _ h_=>h_.1))));(case side4=>exact (Kd.V_reads' HO_285001.out).2.1);rintro e w' ⟨rfl,⟨nd,rfl⟩⟩;refine ⟨_,rfl,?_⟩))
    go_roundg k2
    case measure=>have:=HK1.out;have:=HK2.out;omega
    case rel=>exact ⟨(wrap64 (x23_2 + 1)),(x285000_2),(x285001_2),(.slice Ao50 x285001_2.length co50),(by first|rfl|(simp;done)|(simp [*];done)),H',⟨by have:=HK1.out;have:=HK2.out;omega⟩,⟨by (with_reducible repeat (first|apply Kd.N_alloc|apply Kd.N_drewN|apply Kd.N_drew));exact Kd.N_mono (Kd.N_far (p:=⟨gb301,1,none⟩) (Kd.N_far (p:=⟨gb301,0,none⟩) (Kd.N_mono HO_21.out (fun k_ hk=>(⟨hk,hk.2⟩ : _ ∧ k_ ≠ gb301))) (fun _ hk=>hk.2) (.int .i64 ((rd_T30 y297 x23_2).f0))) (fun _ hk=>hk.2) (.slice A300_1 ((rd_T30 y297 x23_2).f1).length c300_1)) (fun _ hk=>⟨hk.1.1.1,⟨hk.1.1.2.1,⟨hk.1.1.2.2.1,hk.1.1.2.2.2⟩⟩⟩)⟩,⟨by (with_reducible repeat (first|apply Kd.V_alloc|apply Kd.V_drewN|apply Kd.V_drew));exact Kd.V_mono (Kd.V_far (p:=⟨gb301,1,none⟩) (Kd.V_far (p:=⟨gb301,0,none⟩) (Kd.V_mono HO_285001.out (fun k_ hk=>(⟨hk,hk.2⟩ : _ ∧ k_ ≠ gb301))) (fun _ hk=>hk.2) (.int .i64 ((rd_T30 y297 x23_2).f0))) (fun _ hk=>hk.2) (.slice A300_1 ((rd_T30 y297 x23_2).f1).length c300_1)) (fun _ hk=>⟨hk.1.1.1,⟨hk.1.1.2.1,⟨hk.1.1.2.2.1,⟨hk.1.1.2.2.2.1,hk.1.1.2.2.2.2⟩⟩⟩⟩)⟩,⟨by (with_reducible repeat (first|apply blk_drewN|apply blk_drew|apply blk_alloc));refine blk_far ?_ NB278_301.out _;(with_reducible repeat (first|apply blk_drewN|apply blk_drew|apply blk_alloc));refine blk_far ?_ NB278_301.out _;(with_reducible repeat (first|apply blk_drewN|apply blk_drew|apply blk_alloc));exact BK278.out⟩,⟨by (with_reducible repeat (first|apply blk_drewN|apply blk_drew|apply blk_alloc));refine blk_far ?_ NB279_301.out _;(with_reducible repeat (first|apply blk_drewN|apply blk_drew|apply blk_alloc));refine blk_far ?_ NB279_301.out _;(with_reducible repeat (first|apply blk_drewN|apply blk_drew|apply blk_alloc));exact BK279.out⟩,⟨by (with_reducible repeat (first|apply blk_drewN|apply blk_drew|apply blk_alloc));refine blk_far ?_ NB284_301.out _;(with_reducible repeat (first|apply blk_drewN|apply blk_drew|apply blk_alloc));refine blk_far ?_ NB284_301.out _;(with_reducible repeat (first|apply blk_drewN|apply blk_drew|apply blk_alloc));exact BK284.out⟩,⟨by repeat (first|(with_reducible first|exact HB.out|apply below_alloc|apply pw_below_drewN|apply below_drew1|refine below_set ?_ GE278.out|refine below_set ?_ GE279.out|refine below_set ?_ GE284.out|refine below_set ?_ GE301.out)|exact HB.out)⟩⟩
   rw [if_pos c32] at H
   have c32b0 : decide (t302 < 0) = true:=decide_eq_true c32
   clear c32
   have H':=Aside0.mk H
   clear H
   have p300 : 0 ≤ (x23_2 : Int):=od
   have q300 : x23_2 < (y297.length : Int):=od
   obtain ⟨ad300,A300_1,c300_1,e300,hx300_0,hx300_1,hl300_1,hi300_1⟩:=at_T30 (Kd.N_reads' HO_21.out).2.2 x23_2 p300 q300
   cases e300
   obtain ⟨ce300,hce300,hMe300,hcc300⟩:=Kd.N_get HO_21.out z30 x23_2 p300 (by first|exact q300|exact od|(have e_:=(Kd.N_reads' HO_21.out).1;omega))
   obtain ⟨ua300_1,uc300_1,rfl,ul300_1,ge300_1⟩:=k30_openF hMe300
   have hv300_1:=hcc300 1 _ rfl
   rw [add_field _ _ 1 (by omega)] at hv300_1
   replace hv300_1:=Option.some.inj (hv300_1.symm.trans hx300_1)
   injection hv300_1 with hva_ hvn_ hvc_
   rw [hva_] at ge300_1
   rw [hvc_] at ul300_1
   have HL300_1:=Aside0.mk (show Kd.V (Kd.int .i64) 3 _ w.heap.size _ _ ((rd_T30 y297 x23_2).f1) from Kd.V_mk ul300_1 ge300_1)
   clear hva_ hvn_ hvc_ ge300_1 ul300_1
   clear hcc300 hce300
   have HR300_1:=Aside0.mk hi300_1
   have HC300_1:=Aside0.mk hl300_1
   clear hi300_1 hl300_1
   replace p300:=eq_true p300
   replace q300:=eq_true q300
   go_wp2_with (first|((with_reducible refine gate_dst (N:=6) rfl ?_);refine box_event ?hg (N:=6) ?hd (cs:=#[.int .i64 0,.slice none 0 0]) (t:=30) ?hr ?_;(case hd=>rfl);(case hg=>rfl);(case hr=>first|(go_simp;done)|(go_simp;rfl));intro gb301 hg w33 hbox hb;have n0_:=Aside0.mk (Kd.N_below (Kd.N_elderB (nm HO_21.out) gb301 (Nat.le_of_eq hg.symm)) hb);have n1_:=Aside0.mk (Kd.V_below (Kd.V_elderB (vm HO_285001.out) gb301 (Nat.le_of_eq hg.symm)) hb);have n2_:=Aside0.mk (Kd.V_below (Kd.V_elderB (vm HL300_1.out) gb301 (Nat.le_of_eq hg.symm)) hb);have n3_:=Aside0.mk (blk_below (g:=gb278) (o:=.cells #[.int .i64 a0_0,.slice A0_1 l0_1.length c0_1] 30 (0,0)) (bm BK278.out) hb);have n4_:=Aside0.mk (blk_below (g:=gb279) (o:=.cells #[.int .i64 0,.slice none 0 0] 30 (0,0)) (bm BK279.out) hb);have n5_:=Aside0.mk (blk_below (g:=gb284) (o:=.cells #[.int .i64 x285000_2,u285001] 30 (0,0)) (bm BK284.out) hb);have n6_:=Aside0.mk (C_below (by repeat (first|(with_reducible exact HR300_1.out)|(with_reducible refine C_alloc ?_ _)|(with_reducible refine C_drewN ?_ _)|(with_reducible refine C_drew ?_)|exact HR300_1.out)) hb);have n7_:=Aside0.mk (below_step (h3 HB.out GE278.out GE279.out GE284.out) hb);have n8_:=Aside0.mk (hbox);have n9_:=Aside0.mk ((by rw [hg];exact (below_size (h3 HB.out GE278.out GE279.out GE284.out)) : w.heap.size ≤ gb301));have n10_:=Aside0.mk ((by rw [hg];exact (below_size (h3 HB.out GE278.out GE279.out GE284.out)) : w.heap.size ≤ gb301));have n11_:=Aside0.mk ((by rw [hg];exact Nat.ne_of_lt (blk_lt (g:=gb278) (bm BK278.out)) : gb278 ≠ gb301));have n12_:=Aside0.mk ((by rw [hg];exact Nat.ne_of_gt (blk_lt (g:=gb278) (bm BK278.out)) : gb301 ≠ gb278));have n13_:=Aside0.mk ((by rw [hg];exact Nat.ne_of_lt (blk_lt (g:=gb279) (bm BK279.out)) : gb279 ≠ gb301));have n14_:=Aside0.mk ((by rw [hg];exact Nat.ne_of_gt (blk_lt (g:=gb279) (bm BK279.out)) : gb301 ≠ gb279));have n15_:=Aside0.mk ((by rw [hg];exact Nat.ne_of_lt (blk_lt (g:=gb284) (bm BK284.out)) : gb284 ≠ gb301));have n16_:=Aside0.mk ((by rw [hg];exact Nat.ne_of_gt (blk_lt (g:=gb284) (bm BK284.out)) : gb301 ≠ gb284));clear HO_21;clear HO_285001;clear HL300_1;clear BK278;clear BK279;clear BK284;clear HR300_1;clear HB;have HO_21:=n0_;have HO_285001:=n1_;have HL300_1:=n2_;have BK278:=n3_;have BK279:=n4_;have BK284:=n5_;have HR300_1:=n6_;have HB:=n7_;have BK301:=n8_;have GW301:=n9_;have GE301:=n10_;have NB278_301:=n11_;have NB301_278:=n12_;have NB279_301:=n13_;have NB301_279:=n14_;have NB284_301:=n15_;have NB301_284:=n16_;clear n0_ n1_ n2_ n3_ n4_ n5_ n6_ n7_ n8_ n9_ n10_ n11_ n12_ n13_ n14_ n15_ n16_;clear hb hbox hg;have hnb34:=NB301_278.out;have hnc34:=NB278_301.out;have hnb35:=NB301_279.out;have hnc35:=NB279_301.out;have hnb36:=NB301_284.out;have hnc36:=NB284_301.out;have hcz37_0 : w33.cell? ⟨gb301,0,none⟩ = some (.int .i64 0):=(blk_cell BK301.out 0).trans rfl;have hcz37_1 : w33.cell? ⟨gb301,1,none⟩ = some (.slice none 0 0):=(blk_cell BK301.out 1).trans rfl;have hfz37_0:=blk_frozen BK301.out 0;have hfz37_1:=blk_frozen BK301.out 1;have hnb38:=NB284_278.out;have hnc38:=NB278_284.out;have hnb39:=NB284_279.out;have hnc39:=NB279_284.out;have hcz40_0 : w33.cell? ⟨gb284,0,none⟩ = some (.int .i64 x285000_2):=(blk_cell BK284.out 0).trans rfl;have hcz40_1 : w33.cell? ⟨gb284,1,none⟩ = some (u285001):=(blk_cell BK284.out 1).trans rfl;have hfz40_0:=blk_frozen BK284.out 0;have hfz40_1:=blk_frozen BK284.out 1;obtain ⟨Ao41,co41,eo41⟩:=Kd.V_slice HO_285001.out;subst eo41)|((with_reducible refine gate_callee (f:=73) rfl ?_);refine goesL_ (some 31) rfl rfl Try.func73 (by kernel_rfl) rfl #[.slice A300_1 ((rd_T30 y297 x23_2).f1).length c300_1,.slice Ao41 x285001_2.length co41] rfl (by (try simp only [List.map_toArray,List.map_cons,List.map_nil]);first|done|rfl|(simp only [List.length_drop,List.length_take];rfl)) ?_;(with_reducible refine (slices_Compare_int_int.calls k2 _ _ ((rd_T30 y297 x23_2).f1) _ _ x285001_2 t302 _ ?side1 ?side2 ?side3 ?side4 A31.out).mono ?_);(case side1=>repeat (first|exact ((Kd.V_reads' (by (with_reducible repeat (first|apply Kd.V_alloc|apply Kd.V_drewN|apply Kd.V_drew));exact (Kd.V_mono (Kd.V_far (p:=⟨gb301,1,none⟩) (Kd.V_far (p:=⟨gb301,0,none⟩) (Kd.V_mono HL300_1.out (fun k_ hk=>(⟨hk,hk.2⟩ : _ ∧ k_ ≠ gb301))) (fun _ hk=>hk.2) (.int .i64 ((rd_T30 y297 x23_2).f0))) (fun _ hk=>hk.2) (.slice A300_1 ((rd_T30 y297 x23_2).f1).length c300_1)) (fun _ h_=>h_.1)))).2.2)|(with_reducible refine C_alloc ?_ _)|(with_reducible refine C_drewN ?_ _)|(with_reducible refine C_drew ?_)));(case side2=>exact HC300_1.out);(case side3=>refine (Kd.V_reads' (e:=3) (base:=w.heap.size) (ok:=fun k_=>(((w.heap.size ≤ k_) ∧ (some k_ ≠ (.slice (some ad300) y297.length co27 : Value).ownBlock ∧ (k_ ≠ gb278 ∧ (k_ ≠ gb279 ∧ k_ ≠ gb284)))) ∧ k_ ≠ gb301)) (n:=x285001_2.length) (c:=co41) ?_).2.2;exact (by (with_reducible repeat (first|apply Kd.V_alloc|apply Kd.V_drewN|apply Kd.V_drew));exact (Kd.V_mono (Kd.V_far (p:=⟨gb301,1,none⟩) (Kd.V_far (p:=⟨gb301,0,none⟩) (Kd.V_mono HO_285001.out (fun k_ hk=>(⟨hk,hk.2⟩ : _ ∧ k_ ≠ gb301))) (fun _ hk=>hk.2) (.int .i64 ((rd_T30 y297 x23_2).f0))) (fun _ hk=>hk.2) (.slice A300_1 ((rd_T30 y297 x23_2).f1).length c300_1)) (fun _ h_=>h_.1))));(case side4=>exact (Kd.V_reads' HO_285001.out).2.1);rintro e w' ⟨rfl,⟨nd,rfl⟩⟩;refine ⟨_,rfl,?_⟩))
   go_roundg k2
   case measure=>have:=HK1.out;have:=HK2.out;omega
   case rel=>exact ⟨(wrap64 (x23_2 + 1)),((rd_T30 y297 x23_2).f0),((rd_T30 y297 x23_2).f1),(.slice A300_1 ((rd_T30 y297 x23_2).f1).length c300_1),(by first|rfl|(simp;done)|(simp [*];done)),H',⟨by have:=HK1.out;have:=HK2.out;omega⟩,⟨by (with_reducible repeat (first|apply Kd.N_alloc|apply Kd.N_drewN|apply Kd.N_drew));exact Kd.N_mono (Kd.N_far (p:=⟨gb284,1,none⟩) (Kd.N_far (p:=⟨gb284,0,none⟩) (Kd.N_far (p:=⟨gb301,1,none⟩) (Kd.N_far (p:=⟨gb301,0,none⟩) (Kd.N_mono (Kd.N_mono HO_21.out (fun k_ hk=>(⟨hk,hk.2⟩ : _ ∧ k_ ≠ gb301))) (fun k_ hk=>(⟨hk,hk.1.1.2.2.2⟩ : _ ∧ k_ ≠ gb284))) (fun _ hk=>hk.1.2) (.int .i64 ((rd_T30 y297 x23_2).f0))) (fun _ hk=>hk.1.2) (.slice A300_1 ((rd_T30 y297 x23_2).f1).length c300_1)) (fun _ hk=>hk.2) (.int .i64 ((rd_T30 y297 x23_2).f0))) (fun _ hk=>hk.2) (.slice A300_1 ((rd_T30 y297 x23_2).f1).length c300_1)) (fun _ hk=>⟨hk.1.1.1.1,⟨hk.1.1.1.2.1,⟨hk.1.1.1.2.2.1,hk.1.1.1.2.2.2⟩⟩⟩)⟩,⟨by (with_reducible repeat (first|apply Kd.V_alloc|apply Kd.V_drewN|apply Kd.V_drew));exact Kd.V_mono (Kd.V_far (p:=⟨gb284,1,none⟩) (Kd.V_far (p:=⟨gb284,0,none⟩) (Kd.V_far (p:=⟨gb301,1,none⟩) (Kd.V_far (p:=⟨gb301,0,none⟩) (Kd.V_mono (Kd.V_mono HL300_1.out (fun k_ hk=>(⟨hk,hk.2⟩ : _ ∧ k_ ≠ gb301))) (fun k_ hk=>(⟨hk,hk.1.1.1.2.2.2⟩ : _ ∧ k_ ≠ gb284))) (fun _ hk=>hk.1.2) (.int .i64 ((rd_T30 y297 x23_2).f0))) (fun _ hk=>hk.1.2) (.slice A300_1 ((rd_T30 y297 x23_2).f1).length c300_1)) (fun _ hk=>hk.2) (.int .i64 ((rd_T30 y297 x23_2).f0))) (fun _ hk=>hk.2) (.slice A300_1 ((rd_T30 y297 x23_2).f1).length c300_1)) (fun _ hk=>⟨hk.1.1.1.1.1,⟨hk.1.1.1.2,⟨hk.1.1.1.1.2.1,⟨hk.1.1.1.1.2.2.1,hk.1.1.1.1.2.2.2⟩⟩⟩⟩)⟩,⟨by (with_reducible repeat (first|apply blk_drewN|apply blk_drew|apply blk_alloc));refine blk_far ?_ NB278_284.out _;(with_reducible repeat (first|apply blk_drewN|apply blk_drew|apply blk_alloc));refine blk_far ?_ NB278_284.out _;(with_reducible repeat (first|apply blk_drewN|apply blk_drew|apply blk_alloc));refine blk_far ?_ NB278_301.out _;(with_reducible repeat (first|apply blk_drewN|apply blk_drew|apply blk_alloc));refine blk_far ?_ NB278_301.out _;(with_reducible repeat (first|apply blk_drewN|apply blk_drew|apply blk_alloc));exact BK278.out⟩,⟨by (with_reducible repeat (first|apply blk_drewN|apply blk_drew|apply blk_alloc));refine blk_far ?_ NB279_284.out _;(with_reducible repeat (first|apply blk_drewN|apply blk_drew|apply blk_alloc));refine blk_far ?_ NB279_284.out _;(with_reducible repeat (first|apply blk_drewN|apply blk_drew|apply blk_alloc));refine blk_far ?_ NB279_301.out _;(with_reducible repeat (first|apply blk_drewN|apply blk_drew|apply blk_alloc));refine blk_far ?_ NB279_301.out _;(with_reducible repeat (first|apply blk_drewN|apply blk_drew|apply blk_alloc));exact BK279.out⟩,⟨by (with_reducible repeat (first|apply blk_drewN|apply blk_drew|apply blk_alloc));refine blk_put (cs:=#[.int .i64 ((rd_T30 y297 x23_2).f0),.slice Ao41 x285001_2.length co41]) ?_ 1 _ rfl;(with_reducible repeat (first|apply blk_drewN|apply blk_drew|apply blk_alloc));refine blk_put (cs:=#[.int .i64 x285000_2,.slice Ao41 x285001_2.length co41]) ?_ 0 _ rfl;(with_reducible repeat (first|apply blk_drewN|apply blk_drew|apply blk_alloc));refine blk_far ?_ NB284_301.out _;(with_reducible repeat (first|apply blk_drewN|apply blk_drew|apply blk_alloc));refine blk_far ?_ NB284_301.out _;(with_reducible repeat (first|apply blk_drewN|apply blk_drew|apply blk_alloc));exact BK284.out⟩,⟨by repeat (first|(with_reducible first|exact HB.out|apply below_alloc|apply pw_below_drewN|apply below_drew1|refine below_set ?_ GE278.out|refine below_set ?_ GE279.out|refine below_set ?_ GE284.out|refine below_set ?_ GE301.out)|exact HB.out)⟩⟩

/-! ### impl_AreSameForm: function 44 -/
def impl_AreSameForm.j0 : Nat → Bool → Int → List Int → Int → List Int → Option (Bool × Bool)
 | 0,_,_,_,_,_=>none
 | k + 1,x13,x304000,x304001,x305000,x305001=>if x13 = true then (some (false,false)) else ((impl_Crowd_form.f k x304000 x304001).bind fun bt307=>((impl_Crowd_form.f k x305000 x305001).bind fun bt311=>((impl_Crowd_same.f k bt307.1 bt307.2 bt311.1 bt311.2).bind fun t315=>(some (t315,true)))))
def impl_AreSameForm.f (k : Nat) (a0_0 : Int) (l0_1 : List Int) (a1_0 : Int) (l1_1 : List Int) : Option (Bool × Bool):=(impl_IsCrowd.f k a0_0 l0_1).bind fun t305=>(if t305 = true then ((impl_IsCrowd.f k a1_0 l1_1).bind fun t306=>(impl_AreSameForm.j0 k (!t306) a0_0 l0_1 a1_0 l1_1)) else (impl_AreSameForm.j0 k true a0_0 l0_1 a1_0 l1_1))
theorem impl_AreSameForm.mono_l : ∀ k,(∀ y0 y1 y2 y3 y4,LeO (impl_AreSameForm.j0 k y0 y1 y2 y3 y4) (impl_AreSameForm.j0 (k + 1) y0 y1 y2 y3 y4))
 | 0=>fun _ _ _ _ _ r h=>by simp [impl_AreSameForm.j0] at h
 | k + 1=>by
  have ih0:=impl_AreSameForm.mono_l k
  ·intro y0 y1 y2 y3 y4
   unfold impl_AreSameForm.j0
   repeat' first
   | (with_reducible exact ih0 _ _ _ _ _)
   | (with_reducible exact impl_Crowd_form.mono _ _ _)
   | (with_reducible exact impl_Crowd_same.mono _ _ _ _ _)
   | (with_reducible exact impl_IsCrowd.mono _ _ _)
   | (with_reducible exact LeO.refl _)
   | (with_reducible exact LeO.none _)
   | (with_reducible refine LeO.ite ?_ ?_)
   | (with_reducible refine LeO.bind ?_ (fun _=>?_))
   | exact ih0 _ _ _ _ _
   | exact impl_Crowd_form.mono _ _ _
   | exact impl_Crowd_same.mono _ _ _ _ _
   | exact impl_IsCrowd.mono _ _ _
   | exact LeO.none _
   | refine LeO.ite ?_ ?_
   | refine LeO.bind ?_ (fun _=>?_)
theorem impl_AreSameForm.mono : ∀ a0 a1 a2 a3 k,LeO (impl_AreSameForm.f k a0 a1 a2 a3) (impl_AreSameForm.f (k + 1) a0 a1 a2 a3):=by
 intro a0 a1 a2 a3 k
 have ih0:=impl_AreSameForm.mono_l k
 unfold impl_AreSameForm.f
 repeat' first
   | (with_reducible exact ih0 _ _ _ _ _)
   | (with_reducible exact impl_Crowd_form.mono _ _ _)
   | (with_reducible exact impl_Crowd_same.mono _ _ _ _ _)
   | (with_reducible exact impl_IsCrowd.mono _ _ _)
   | (with_reducible exact LeO.refl _)
   | (with_reducible exact LeO.none _)
   | (with_reducible refine LeO.ite ?_ ?_)
   | (with_reducible refine LeO.bind ?_ (fun _=>?_))
   | exact ih0 _ _ _ _ _
   | exact impl_Crowd_form.mono _ _ _
   | exact impl_Crowd_same.mono _ _ _ _ _
   | exact impl_IsCrowd.mono _ _ _
   | exact LeO.none _
   | refine LeO.ite ?_ ?_
   | refine LeO.bind ?_ (fun _=>?_)
set_option maxHeartbeats 8000000 in
set_option maxRecDepth 100000 in
theorem impl_AreSameForm.calls (k : Nat) (a0_0 : Int) (A0_1 : Option Addr) (c0_1 : Nat) (l0_1 : List Int) (a1_0 : Int) (A1_1 : Option Addr) (c1_1 : Nat) (l1_1 : List Int) (r1 : Bool) (r2 : Bool) (w : World) (hr0_1 : Kd.C (Kd.int .i64) w A0_1 l0_1.length l0_1) (hc0_1 : l0_1.length ≤ c0_1) (hr1_1 : Kd.C (Kd.int .i64) w A1_1 l1_1.length l1_1) (hc1_1 : l1_1.length ≤ c1_1) (h : impl_AreSameForm.f k a0_0 l0_1 a1_0 l1_1 = some (r1,r2)) :
  Calls Try.prog 44 #[.agg #[.int .i64 a0_0,.slice A0_1 l0_1.length c0_1],.agg #[.int .i64 a1_0,.slice A1_1 l1_1.length c1_1]] w fun e w'=>e = .returned (.tuple #[.bool r1,.bool r2]) ∧ Below w.heap.size w w':=by
 have hu30:=Try.underlying30
 have HR0_1:=Aside0.mk hr0_1
 have HC0_1:=Aside0.mk hc0_1
 clear hr0_1 hc0_1
 have HR1_1:=Aside0.mk hr1_1
 have HC1_1:=Aside0.mk hc1_1
 clear hr1_1 hc1_1
 have HB:=Aside0.mk (Below.refl w.heap.size w)
 have H : ((impl_IsCrowd.f k a0_0 l0_1).bind fun t305=>(if t305 = true then ((impl_IsCrowd.f k a1_0 l1_1).bind fun t306=>(impl_AreSameForm.j0 k (!t306) a0_0 l0_1 a1_0 l1_1)) else (impl_AreSameForm.j0 k true a0_0 l0_1 a1_0 l1_1))) = some (r1,r2):=h
 clear h
 have HC3:=Aside0.mk H
 clear H
 go_enter Try.func44,Try.ntmps44
 go_upto_region 1 with (first|((with_reducible refine gate_dst (N:=2) rfl ?_);refine box_event ?hg (N:=2) ?hd (cs:=#[.int .i64 a0_0,.slice A0_1 l0_1.length c0_1]) (t:=30) ?hr ?_;(case hd=>rfl);(case hg=>rfl);(case hr=>first|(go_simp;done)|(go_simp;rfl));intro gb303 hg w4 hbox hb;have n0_:=Aside0.mk (below_step (hm HB.out) hb);have n1_:=Aside0.mk (hbox);have n2_:=Aside0.mk ((by rw [hg];exact (below_size (hm HB.out)) : w.heap.size ≤ gb303));have n3_:=Aside0.mk ((by rw [hg];exact (below_size (hm HB.out)) : w.heap.size ≤ gb303));clear HB;have HB:=n0_;have BK303:=n1_;have GW303:=n2_;have GE303:=n3_;clear n0_ n1_ n2_ n3_;clear hb hbox hg)|((with_reducible refine gate_dst (N:=3) rfl ?_);refine box_event ?hg (N:=3) ?hd (cs:=#[.int .i64 a1_0,.slice A1_1 l1_1.length c1_1]) (t:=30) ?hr ?_;(case hd=>rfl);(case hg=>rfl);(case hr=>first|(go_simp;done)|(go_simp;rfl));intro gb304 hg w5 hbox hb;have n0_:=Aside0.mk (blk_below (g:=gb303) (o:=.cells #[.int .i64 a0_0,.slice A0_1 l0_1.length c0_1] 30 (0,0)) (bm BK303.out) hb);have n1_:=Aside0.mk (below_step (h1 HB.out GE303.out) hb);have n2_:=Aside0.mk (hbox);have n3_:=Aside0.mk ((by rw [hg];exact (below_size (h1 HB.out GE303.out)) : w.heap.size ≤ gb304));have n4_:=Aside0.mk ((by rw [hg];exact (below_size (h1 HB.out GE303.out)) : w.heap.size ≤ gb304));have n5_:=Aside0.mk ((by rw [hg];exact Nat.ne_of_lt (blk_lt (g:=gb303) (bm BK303.out)) : gb303 ≠ gb304));have n6_:=Aside0.mk ((by rw [hg];exact Nat.ne_of_gt (blk_lt (g:=gb303) (bm BK303.out)) : gb304 ≠ gb303));clear BK303;clear HB;have BK303:=n0_;have HB:=n1_;have BK304:=n2_;have GW304:=n3_;have GE304:=n4_;have NB303_304:=n5_;have NB304_303:=n6_;clear n0_ n1_ n2_ n3_ n4_ n5_ n6_;clear hb hbox hg))
 (try simp only [ap])
 go_cut [13] (fun v13 wc=>∃ (kq : Nat) (x13_2 : Bool),v13 = .bool x13_2 ∧ Aside0 (impl_AreSameForm.j0 kq x13_2 a0_0 l0_1 a1_0 l1_1 = some (r1,r2)) ∧ Aside0 (kq ≤ k) ∧ Aside0 (wc.heap[gb303]? = some (.cells #[.int .i64 a0_0,(.slice A0_1 l0_1.length c0_1)] 30 (0,0))) ∧ Aside0 (wc.heap[gb304]? = some (.cells #[.int .i64 a1_0,(.slice A1_1 l1_1.length c1_1)] 30 (0,0))) ∧ Aside0 (Below w.heap.size w wc))
 case first =>
  have H:=HC3.out
  clear HC3
  replace H:=Option.bind_eq_some_iff.mp H
  obtain ⟨t305,A60,H⟩:=H
  replace H : (if t305 = true then ((impl_IsCrowd.f k a1_0 l1_1).bind fun t306=>(impl_AreSameForm.j0 k (!t306) a0_0 l0_1 a1_0 l1_1)) else (impl_AreSameForm.j0 k true a0_0 l0_1 a1_0 l1_1)) = some (r1,r2):=H
  have A6:=Aside0.mk A60
  clear A60
  by_cases c7 : t305 = true
  rotate_left
  ·replace c7:=Bool.eq_false_iff.mpr c7
   subst c7
   have H1 : (impl_AreSameForm.j0 k true a0_0 l0_1 a1_0 l1_1) = some (r1,r2):=by rw [if_neg (show ¬ (false = true) by decide)] at H;exact H
   clear H
   have H:=H1
   clear H1
   have H':=Aside0.mk H
   clear H
   have hnb14:=NB303_304.out
   have hnc14:=NB304_303.out
   have hcz15_0 : w5.cell? ⟨gb303,0,none⟩ = some (.int .i64 a0_0):=(blk_cell BK303.out 0).trans rfl
   have hcz15_1 : w5.cell? ⟨gb303,1,none⟩ = some (.slice A0_1 l0_1.length c0_1):=(blk_cell BK303.out 1).trans rfl
   have hfz15_0:=blk_frozen BK303.out 0
   have hfz15_1:=blk_frozen BK303.out 1
   go_wp2_with (first|((with_reducible refine gate_callee (f:=21) rfl ?_);refine goesL_ (some 7) rfl rfl Try.func21 (by kernel_rfl) rfl #[.agg #[.int .i64 a0_0,.slice A0_1 l0_1.length c0_1]] rfl (by (try simp only [List.map_toArray,List.map_cons,List.map_nil]);first|done|rfl|(simp only [List.length_drop,List.length_take];rfl)) ?_;(with_reducible refine (impl_IsCrowd.calls k a0_0 _ _ l0_1 false _ ?side1 ?side2 A6.out).mono ?_);(case side1=>exact cm (C_below HR0_1.out HB.out));(case side2=>exact HC0_1.out);rintro e w16 ⟨rfl,hb⟩;refine ⟨_,rfl,?_⟩;have n0_:=Aside0.mk (blk_below (g:=gb303) (o:=.cells #[.int .i64 a0_0,.slice A0_1 l0_1.length c0_1] 30 (0,0)) (bm BK303.out) hb);have n1_:=Aside0.mk (blk_below (g:=gb304) (o:=.cells #[.int .i64 a1_0,.slice A1_1 l1_1.length c1_1] 30 (0,0)) (bm BK304.out) hb);have n2_:=Aside0.mk (below_step (h2 HB.out GE303.out GE304.out) hb);clear BK303;clear BK304;clear HB;have BK303:=n0_;have BK304:=n1_;have HB:=n2_;clear n0_ n1_ n2_;(try clear hb);(try clear hb2);(try clear hk);(try clear hi)))
   go_meet
   case rel=>exact ⟨_,(true),(by first|rfl|(simp;done)|(simp [*];done)),H',⟨by first|omega|exact Nat.le_refl _⟩,⟨bm BK303.out⟩,⟨bm BK304.out⟩,⟨h2 HB.out GE303.out GE304.out⟩⟩
  subst c7
  have H1 : ((impl_IsCrowd.f k a1_0 l1_1).bind fun t306=>(impl_AreSameForm.j0 k (!t306) a0_0 l0_1 a1_0 l1_1)) = some (r1,r2):=by rw [if_pos rfl] at H;exact H
  clear H
  have H:=H1
  clear H1
  replace H:=Option.bind_eq_some_iff.mp H
  obtain ⟨t306,A80,H⟩:=H
  replace H : (impl_AreSameForm.j0 k (!t306) a0_0 l0_1 a1_0 l1_1) = some (r1,r2):=H
  have A8:=Aside0.mk A80
  clear A80
  have H':=Aside0.mk H
  clear H
  have hnb9:=NB303_304.out
  have hnc9:=NB304_303.out
  have hcz10_0 : w5.cell? ⟨gb303,0,none⟩ = some (.int .i64 a0_0):=(blk_cell BK303.out 0).trans rfl
  have hcz10_1 : w5.cell? ⟨gb303,1,none⟩ = some (.slice A0_1 l0_1.length c0_1):=(blk_cell BK303.out 1).trans rfl
  have hfz10_0:=blk_frozen BK303.out 0
  have hfz10_1:=blk_frozen BK303.out 1
  go_wp2_with (first|((with_reducible refine gate_callee (f:=21) rfl ?_);refine goesL_ (some 7) rfl rfl Try.func21 (by kernel_rfl) rfl #[.agg #[.int .i64 a0_0,.slice A0_1 l0_1.length c0_1]] rfl (by (try simp only [List.map_toArray,List.map_cons,List.map_nil]);first|done|rfl|(simp only [List.length_drop,List.length_take];rfl)) ?_;(with_reducible refine (impl_IsCrowd.calls k a0_0 _ _ l0_1 true _ ?side1 ?side2 A6.out).mono ?_);(case side1=>exact cm (C_below HR0_1.out HB.out));(case side2=>exact HC0_1.out);rintro e w11 ⟨rfl,hb⟩;refine ⟨_,rfl,?_⟩;have n0_:=Aside0.mk (blk_below (g:=gb303) (o:=.cells #[.int .i64 a0_0,.slice A0_1 l0_1.length c0_1] 30 (0,0)) (bm BK303.out) hb);have n1_:=Aside0.mk (blk_below (g:=gb304) (o:=.cells #[.int .i64 a1_0,.slice A1_1 l1_1.length c1_1] 30 (0,0)) (bm BK304.out) hb);have n2_:=Aside0.mk (below_step (h2 HB.out GE303.out GE304.out) hb);clear BK303;clear BK304;clear HB;have BK303:=n0_;have BK304:=n1_;have HB:=n2_;clear n0_ n1_ n2_;(try clear hb);(try clear hb2);(try clear hk);(try clear hi);have hcz12_0 : w11.cell? ⟨gb304,0,none⟩ = some (.int .i64 a1_0):=(blk_cell BK304.out 0).trans rfl;have hcz12_1 : w11.cell? ⟨gb304,1,none⟩ = some (.slice A1_1 l1_1.length c1_1):=(blk_cell BK304.out 1).trans rfl;have hfz12_0:=blk_frozen BK304.out 0;have hfz12_1:=blk_frozen BK304.out 1)|(go_at_call 21;(with_reducible refine (impl_IsCrowd.calls k a1_0 _ _ l1_1 t306 _ ?side1 ?side2 A8.out).mono ?_);(case side1=>exact cm (C_below HR1_1.out HB.out));(case side2=>exact HC1_1.out);rintro e w13 ⟨rfl,hb⟩;have n0_:=Aside0.mk (blk_below (g:=gb303) (o:=.cells #[.int .i64 a0_0,.slice A0_1 l0_1.length c0_1] 30 (0,0)) (bm BK303.out) hb);have n1_:=Aside0.mk (blk_below (g:=gb304) (o:=.cells #[.int .i64 a1_0,.slice A1_1 l1_1.length c1_1] 30 (0,0)) (bm BK304.out) hb);have n2_:=Aside0.mk (below_step (h2 HB.out GE303.out GE304.out) hb);clear BK303;clear BK304;clear HB;have BK303:=n0_;have BK304:=n1_;have HB:=n2_;clear n0_ n1_ n2_;(try clear hb);(try clear hb2);(try clear hk);(try clear hi)))
  go_meet
  case rel=>exact ⟨_,(!t306),(by first|rfl|(simp;done)|(simp [*];done)),H',⟨by first|omega|exact Nat.le_refl _⟩,⟨bm BK303.out⟩,⟨bm BK304.out⟩,⟨h2 HB.out GE303.out GE304.out⟩⟩
 clear HC3
 try clear c1
 try clear c2
 try clear p2
 try clear c4
 try clear c7
 try clear c9
 try clear c14
 try clear hcz10_0
 try clear hcz10_1
 try clear hcz12_0
 try clear hcz12_1
 try clear hcz15_0
 try clear hcz15_1
 try clear hfz10_0
 try clear hfz10_1
 try clear hfz12_0
 try clear hfz12_1
 try clear hfz15_0
 try clear hfz15_1
 obtain ⟨kq,x13_2,rfl,HA,HJ2,BK303,BK304,HB⟩:=hcut
 cases kq with
 | zero=>exact absurd HA.out (by simp [impl_AreSameForm.j0])
 | succ kj2 =>
  have H:=HA.out
  clear HA
  simp only [impl_AreSameForm.j0] at H
  by_cases c17 : x13_2 = true
  ·subst c17
   have H1 : (some (false,false)) = some (r1,r2):=by rw [if_pos rfl] at H;exact H
   clear H
   have H:=H1
   clear H1
   simp only [Option.some.injEq,Prod.mk.injEq] at H
   obtain ⟨rfl,rfl⟩:=H
   go_wp2
   go_ret2
   exact ⟨by first|rfl|(simp [errW_none,errW_some] <;> rfl)|(simp [*,errW_none,errW_some] <;> rfl),h2 HB.out GE303.out GE304.out⟩
  replace c17:=Bool.eq_false_iff.mpr c17
  subst c17
  have H1 : ((impl_Crowd_form.f kj2 a0_0 l0_1).bind fun bt307=>((impl_Crowd_form.f kj2 a1_0 l1_1).bind fun bt311=>((impl_Crowd_same.f kj2 bt307.1 bt307.2 bt311.1 bt311.2).bind fun t315=>(some (t315,true))))) = some (r1,r2):=by rw [if_neg (show ¬ (false = true) by decide)] at H;exact H
  clear H
  have H:=H1
  clear H1
  replace H:=Option.bind_eq_some_iff.mp H
  obtain ⟨⟨t307,t308⟩,A180,H⟩:=H
  replace H : ((impl_Crowd_form.f kj2 a1_0 l1_1).bind fun bt311=>((impl_Crowd_same.f kj2 t307 t308 bt311.1 bt311.2).bind fun t315=>(some (t315,true)))) = some (r1,r2):=H
  have A18:=Aside0.mk A180
  clear A180
  replace H:=Option.bind_eq_some_iff.mp H
  obtain ⟨⟨t311,t312⟩,A190,H⟩:=H
  replace H : ((impl_Crowd_same.f kj2 t307 t308 t311 t312).bind fun t315=>(some (t315,true))) = some (r1,r2):=H
  have A19:=Aside0.mk A190
  clear A190
  replace H:=Option.bind_eq_some_iff.mp H
  obtain ⟨t315,A200,H⟩:=H
  replace H : (some (t315,true)) = some (r1,r2):=H
  have A20:=Aside0.mk A200
  clear A200
  simp only [Option.some.injEq,Prod.mk.injEq] at H
  obtain ⟨rfl,rfl⟩:=H
  try go_wp2
  have n0_:=Aside0.mk (blk_drew BK303.out)
  have n1_:=Aside0.mk (blk_drew BK304.out)
  have n2_:=Aside0.mk (below_drew1 HB.out)
  clear BK303
  clear BK304
  clear HB
  have BK303:=n0_
  have BK304:=n1_
  have HB:=n2_
  clear n0_ n1_ n2_
  refine start_ (n:=7) (S:=fun w'=>w'.cell? ⟨gb303,0,none⟩ = some (.int .i64 a0_0) ∧ w'.cell? ⟨gb303,1,none⟩ = some (.slice A0_1 l0_1.length c0_1) ∧ w'.cell? ⟨gb304,0,none⟩ = some (.int .i64 a1_0) ∧ w'.cell? ⟨gb304,1,none⟩ = some (.slice A1_1 l1_1.length c1_1)) (ds:=[]) (lb 7 0) (by kernel_rfl) rfl rfl ⟨(blk_cell BK303.out 0).trans rfl,(blk_cell BK303.out 1).trans rfl,(blk_cell BK304.out 0).trans rfl,(blk_cell BK304.out 1).trans rfl⟩ (fun hHeld=>?_)
  generalize wc.drew = w21 at BK303 BK304 HB hHeld ⊢
  refine take_ (i:=0) (N:=some 14) (v:=?_) (a':=?_) (lb 7 1) rfl rfl (by kernel_rfl) (fun _ _ _ h=>h) (Or.inl ⟨by rfl,?_⟩) hHeld ?_ ?_
  rotate_left
  ·rintro w' ⟨s0,s1,s2,s3⟩
   go_simp
   with_reducible rfl
  rotate_left
  ·simp only [ap]
   rfl
  refine take_ (i:=2) (N:=some 16) (v:=?_) (a':=?_) (lb 7 5) rfl rfl (by kernel_rfl) (fun _ _ _ h=>h) (Or.inl ⟨by rfl,?_⟩) hHeld ?_ ?_
  rotate_left
  ·rintro w' ⟨s0,s1,s2,s3⟩
   go_simp
   with_reducible rfl
  rotate_left
  ·simp only [ap]
   rfl
  refine one_ (i:=1) (N:=some 15) (lb 7 7) rfl rfl (by kernel_rfl) (by decide) (fun K hK=>?_)
  refine goes_ Try.func70 (by kernel_rfl) rfl #[.agg #[.int .i64 a0_0,.slice A0_1 l0_1.length c0_1]] (by rfl) rfl rfl (by (try simp only [List.map_toArray,List.map_cons,List.map_nil]);first|done|rfl|(simp only [List.length_drop,List.length_take];rfl)) ?_
  with_reducible refine (impl_Crowd_form.calls kj2 a0_0 _ _ l0_1 t307 t308 _ ?side1 ?side2 A18.out).mono ?_
  (case side1=>exact cm (C_below HR0_1.out HB.out))
  (case side2=>exact HC0_1.out)
  rintro e w22 ⟨v309,rfl,ho0,hb⟩
  refine ⟨_,rfl,?_⟩
  have n0_:=Aside0.mk (Kd.V_lower (Kd.V_mono (ok':=fun k_=>k_ ≠ gb303 ∧ k_ ≠ gb304) ho0 (fun k_ hk_=>⟨(Kd.freshB (g:=gb303) (o:=.cells #[.int .i64 a0_0,.slice A0_1 l0_1.length c0_1] 30 (0,0)) (bm BK303.out) k_ hk_),(Kd.freshB (g:=gb304) (o:=.cells #[.int .i64 a1_0,.slice A1_1 l1_1.length c1_1] 30 (0,0)) (bm BK304.out) k_ hk_)⟩)) (below_size (h2 HB.out GE303.out GE304.out)))
  have n1_:=Aside0.mk (blk_below (g:=gb303) (o:=.cells #[.int .i64 a0_0,.slice A0_1 l0_1.length c0_1] 30 (0,0)) (bm BK303.out) hb)
  have n2_:=Aside0.mk (blk_below (g:=gb304) (o:=.cells #[.int .i64 a1_0,.slice A1_1 l1_1.length c1_1] 30 (0,0)) (bm BK304.out) hb)
  have n3_:=Aside0.mk (below_step (h2 HB.out GE303.out GE304.out) hb)
  clear BK303
  clear BK304
  clear HB
  have HO310:=n0_
  have BK303:=n1_
  have BK304:=n2_
  have HB:=n3_
  clear n0_ n1_ n2_ n3_
  (try clear hb)
  (try clear hb2)
  (try clear hk)
  (try clear hi)
  (try clear ho0)
  refine hK.out _ _ ⟨(blk_cell BK303.out 0).trans rfl,(blk_cell BK303.out 1).trans rfl,(blk_cell BK304.out 0).trans rfl,(blk_cell BK304.out 1).trans rfl⟩ (fun hHeld=>?_)
  clear hK K
  refine norm_ (a':=?_) ?_ ?_
  rotate_left
  ·show Act.put _ (some 15) _ = _
   simp only [ap]
   rfl
  refine one_ (i:=3) (N:=some 17) (lb 7 15) rfl rfl (by kernel_rfl) (by decide) (fun K hK=>?_)
  refine goes_ Try.func70 (by kernel_rfl) rfl #[.agg #[.int .i64 a1_0,.slice A1_1 l1_1.length c1_1]] (by rfl) rfl rfl (by (try simp only [List.map_toArray,List.map_cons,List.map_nil]);first|done|rfl|(simp only [List.length_drop,List.length_take];rfl)) ?_
  with_reducible refine (impl_Crowd_form.calls kj2 a1_0 _ _ l1_1 t311 t312 _ ?side1 ?side2 A19.out).mono ?_
  (case side1=>exact cm (C_below HR1_1.out HB.out))
  (case side2=>exact HC1_1.out)
  rintro e w23 ⟨v313,rfl,ho0,hb⟩
  refine ⟨_,rfl,?_⟩
  have n0_:=Aside0.mk (Kd.V_below (vm HO310.out) hb)
  have n1_:=Aside0.mk (Kd.V_lower (Kd.V_mono (ok':=fun k_=>k_ ≠ gb303 ∧ k_ ≠ gb304) ho0 (fun k_ hk_=>⟨(Kd.freshB (g:=gb303) (o:=.cells #[.int .i64 a0_0,.slice A0_1 l0_1.length c0_1] 30 (0,0)) (bm BK303.out) k_ hk_),(Kd.freshB (g:=gb304) (o:=.cells #[.int .i64 a1_0,.slice A1_1 l1_1.length c1_1] 30 (0,0)) (bm BK304.out) k_ hk_)⟩)) (below_size (h2 HB.out GE303.out GE304.out)))
  have n2_:=Aside0.mk (blk_below (g:=gb303) (o:=.cells #[.int .i64 a0_0,.slice A0_1 l0_1.length c0_1] 30 (0,0)) (bm BK303.out) hb)
  have n3_:=Aside0.mk (blk_below (g:=gb304) (o:=.cells #[.int .i64 a1_0,.slice A1_1 l1_1.length c1_1] 30 (0,0)) (bm BK304.out) hb)
  have n4_:=Aside0.mk (below_step (h2 HB.out GE303.out GE304.out) hb)
  clear HO310
  clear BK303
  clear BK304
  clear HB
  have HO310:=n0_
  have HO314:=n1_
  have BK303:=n2_
  have BK304:=n3_
  have HB:=n4_
  clear n0_ n1_ n2_ n3_ n4_
  (try clear hb)
  (try clear hb2)
  (try clear hk)
  (try clear hi)
  (try clear ho0)
  obtain ⟨Ao24,co24,eo24⟩:=Kd.V_slice HO310.out
  (first|subst eo24|(injection eo24 with f1_ f2_ f3_;have f4_:=f1_.symm;have f5_:=f3_.symm;clear f1_ f2_ f3_;subst f4_;subst f5_))
  obtain ⟨Ao25,co25,eo25⟩:=Kd.V_slice HO314.out
  (first|subst eo25|(injection eo25 with f1_ f2_ f3_;have f4_:=f1_.symm;have f5_:=f3_.symm;clear f1_ f2_ f3_;subst f4_;subst f5_))
  refine hK.out _ _ ⟨(blk_cell BK303.out 0).trans rfl,(blk_cell BK303.out 1).trans rfl,(blk_cell BK304.out 0).trans rfl,(blk_cell BK304.out 1).trans rfl⟩ (fun hHeld=>?_)
  clear hK K
  refine norm_ (a':=?_) ?_ ?_
  rotate_left
  ·show Act.put _ (some 17) _ = _
   simp only [ap]
   rfl
  refine one_ (i:=4) (N:=some 18) (lb 7 31) rfl rfl (by kernel_rfl) (by decide) (fun K hK=>?_)
  refine goes_ Try.func69 (by kernel_rfl) rfl #[.agg #[.int .i64 t307,.slice Ao24 t308.length co24],.agg #[.int .i64 t311,.slice Ao25 t312.length co25]] (by rfl) rfl rfl (by (try simp only [List.map_toArray,List.map_cons,List.map_nil]);first|done|rfl|(simp only [List.length_drop,List.length_take];rfl)) ?_
  with_reducible refine (impl_Crowd_same.calls kj2 t307 _ _ t308 t311 _ _ t312 t315 _ ?side1 ?side2 ?side3 ?side4 A20.out).mono ?_
  (case side1=>exact cm (Kd.V_reads' HO310.out).2.2)
  (case side2=>exact (Kd.V_reads' HO310.out).2.1)
  (case side3=>exact cm (Kd.V_reads' HO314.out).2.2)
  (case side4=>exact (Kd.V_reads' HO314.out).2.1)
  rintro e w26 ⟨rfl,hb⟩
  refine ⟨_,rfl,?_⟩
  have n0_:=Aside0.mk (Kd.V_below (vm HO310.out) hb)
  have n1_:=Aside0.mk (Kd.V_below (vm HO314.out) hb)
  have n2_:=Aside0.mk (blk_below (g:=gb303) (o:=.cells #[.int .i64 a0_0,.slice A0_1 l0_1.length c0_1] 30 (0,0)) (bm BK303.out) hb)
  have n3_:=Aside0.mk (blk_below (g:=gb304) (o:=.cells #[.int .i64 a1_0,.slice A1_1 l1_1.length c1_1] 30 (0,0)) (bm BK304.out) hb)
  have n4_:=Aside0.mk (below_step (h2 HB.out GE303.out GE304.out) hb)
  clear HO310
  clear HO314
  clear BK303
  clear BK304
  clear HB
  have HO310:=n0_
  have HO314:=n1_
  have BK303:=n2_
  have BK304:=n3_
  have HB:=n4_
  clear n0_ n1_ n2_ n3_ n4_
  (try clear hb)
  (try clear hb2)
  (try clear hk)
  (try clear hi)
  refine hK.out _ _ ⟨(blk_cell BK303.out 0).trans rfl,(blk_cell BK303.out 1).trans rfl,(blk_cell BK304.out 0).trans rfl,(blk_cell BK304.out 1).trans rfl⟩ (fun hHeld=>?_)
  clear hK K
  refine norm_ (a':=?_) ?_ ?_
  rotate_left
  ·show Act.put _ (some 18) _ = _
   simp only [ap]
   rfl
  refine pure_ (i:=5) (N:=some 4) (v:=?_) (a':=?_) (lb 7 63) rfl rfl (by kernel_rfl) (fun _ _ _ h=>h) (Or.inl ⟨by rfl,?_⟩) ?_ ?_
  rotate_left
  ·intro w'
   go_simp
   with_reducible rfl
  rotate_left
  ·simp only [ap]
   rfl
  refine pure_ (i:=6) (N:=some 5) (v:=?_) (a':=?_) (lb 7 127) rfl rfl (by kernel_rfl) (fun _ _ _ h=>h) (Or.inl ⟨by rfl,?_⟩) ?_ ?_
  rotate_left
  ·intro w'
   go_simp
   with_reducible rfl
  rotate_left
  ·simp only [ap]
   rfl
  refine done_ (by kernel_rfl) ?_
  try go_wp2
  go_ret2
  exact ⟨by first|rfl|(simp [errW_none,errW_some] <;> rfl)|(simp [*,errW_none,errW_some] <;> rfl),h2 HB.out GE303.out GE304.out⟩


end
end Go.Proofs.Ytjmpanikfomgeaa.QFnExactAreSameForm
