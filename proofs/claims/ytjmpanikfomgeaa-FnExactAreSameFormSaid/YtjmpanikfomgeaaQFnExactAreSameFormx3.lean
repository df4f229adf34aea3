/- Functions that the law FnExactAreSameForm comes to, as Lean functions, with the proof that the Go code does what they say: written by a program of this session over the kit's print. No condition but those named. -/
import Derived.Test.YtjmpanikfomgeaaQFnExactAreSameFormx0
import Derived.Test.YtjmpanikfomgeaaQFnExactAreSameFormx2
namespace Go.Proofs.Ytjmpanikfomgeaa.QFnExactAreSameForm
open Go.RowKit Go.Proofs.YtjmpanikfomgeaaW.PrintWords Go.Proofs.YtjmpanikfomgeaaW.PrintLast Go.Proofs.YtjmpanikfomgeaaW.PrintMore Go.Proofs.Ytjmpanikfomgeaa.Short
attribute [local go_sem] max2_int min2_int max_two min_two max_three min_three max_four min_four   -- for this text's walks alone
set_option linter.unusedVariables false
set_option linter.unusedSimpArgs false

/-! ### spec_l10Mirror: function 57 -/
section
open Kd
def spec_l10Mirror.l0 : Nat → Int → Int → Int → List Int → Int → List Int → Option (Int × List Int)
 | 0,_,_,_,_,_,_=>none
 | k + 1,x1,x6,x166000,x166001,x171000,x171001=>if x6 < (x166001.length : Int) then (if 0 ≤ x6 then (if x166000 = 0 then (none) else ((spec_l1Put.f k x171001 (Int.tmod (wrap64 ((wrap64 (x1 - (rd x166001 x6))) + x166000)) x166000)).bind fun t172=>(spec_l10Mirror.l0 k x1 (wrap64 (x6 + 1)) x166000 x166001 x171000 t172))) else (none)) else (some (x171000,x171001))
def spec_l10Mirror.f (k : Nat) (a0_0 : Int) (l0_1 : List Int) (a1 : Int) : Option (Int × List Int):=spec_l10Mirror.l0 k a1 0 a0_0 l0_1 a0_0 (([] : List Int))
theorem spec_l10Mirror.mono_l : ∀ k,(∀ y0 y1 y2 y3 y4 y5,LeO (spec_l10Mirror.l0 k y0 y1 y2 y3 y4 y5) (spec_l10Mirror.l0 (k + 1) y0 y1 y2 y3 y4 y5))
 | 0=>fun _ _ _ _ _ _ r h=>by simp [spec_l10Mirror.l0] at h
 | k + 1=>by
  have ih0:=spec_l10Mirror.mono_l k
  ·intro y0 y1 y2 y3 y4 y5
   unfold spec_l10Mirror.l0
   repeat' first
   | (with_reducible exact ih0 _ _ _ _ _ _)
   | (with_reducible exact spec_l1Put.mono _ _ _)
   | (with_reducible exact LeO.refl _)
   | (with_reducible exact LeO.none _)
   | (with_reducible refine LeO.ite ?_ ?_)
   | (with_reducible refine LeO.bind ?_ (fun _=>?_))
   | exact ih0 _ _ _ _ _ _
   | exact spec_l1Put.mono _ _ _
   | exact LeO.none _
   | refine LeO.ite ?_ ?_
   | refine LeO.bind ?_ (fun _=>?_)
theorem spec_l10Mirror.mono : ∀ a0 a1 a2 k,LeO (spec_l10Mirror.f k a0 a1 a2) (spec_l10Mirror.f (k + 1) a0 a1 a2):=by
 intro a0 a1 a2 k
 have ih0:=spec_l10Mirror.mono_l k
 unfold spec_l10Mirror.f
 repeat' first
   | (with_reducible exact ih0 _ _ _ _ _ _)
   | (with_reducible exact spec_l1Put.mono _ _ _)
   | (with_reducible exact LeO.refl _)
   | (with_reducible exact LeO.none _)
   | (with_reducible refine LeO.ite ?_ ?_)
   | (with_reducible refine LeO.bind ?_ (fun _=>?_))
   | exact ih0 _ _ _ _ _ _
   | exact spec_l1Put.mono _ _ _
   | exact LeO.none _
   | refine LeO.ite ?_ ?_
   | refine LeO.bind ?_ (fun _=>?_)
def spec_l10Mirror.T5 : Bool × List (List Nat × List Nat):=(true,[([],[]),([0],[0]),([],[]),([],[]),([3],[3]),([],[]),([4,5],[4,5]),([6],[6]),([2,7],[2,7]),([],[]),([9],[9]),([8,10],[8,10]),([],[]),([12],[12]),([11,13],[11,13]),([1,14],[1,14]),([0,1,2,3,4,5,6,7,8,9,10,11,12,13,14,15],[]),([16,15,15,0,1,2,3,4,5,6,7,8,9,10,11,12,13,14,15],[15,16])])
def spec_l10Mirror.B5 : List Nat:=[0,1,0,0,8,0,56,120,252,0,512,2044,0,4096,16380,32767,65535,131071]
theorem spec_l10Mirror.tab5 : rtab .any (opsOf Try.f57 5) = spec_l10Mirror.T5:=by kernel_rfl
theorem spec_l10Mirror.bits5 : waitsOk spec_l10Mirror.T5.2 spec_l10Mirror.B5 = true:=by kernel_rfl
set_option maxHeartbeats 8000000 in
set_option maxRecDepth 100000 in
theorem spec_l10Mirror.calls (k : Nat) (a0_0 : Int) (A0_1 : Option Addr) (c0_1 : Nat) (l0_1 : List Int) (a1 : Int) (r1 : Int) (r2 : List Int) (w : World) (hr0_1 : Kd.C (Kd.int .i64) w A0_1 l0_1.length l0_1) (hc0_1 : l0_1.length ≤ c0_1) (h : spec_l10Mirror.f k a0_0 l0_1 a1 = some (r1,r2)) :
  Calls Try.prog 57 #[.agg #[.int .i64 a0_0,.slice A0_1 l0_1.length c0_1],.int .i64 a1] w fun e w'=>∃ v1_ : Value,e = .returned (.agg #[.int .i64 r1,v1_]) ∧ Kd.R (Kd.int .i64) 3 w' w.heap.size (fun _=>True) v1_ r2 ∧ Below w.heap.size w w':=by
 have hu30:=Try.underlying30
 have HR0_1:=Aside0.mk hr0_1
 have HC0_1:=Aside0.mk hc0_1
 clear hr0_1 hc0_1
 have HB:=Aside0.mk (Below.refl w.heap.size w)
 have H : (spec_l10Mirror.l0 k a1 0 a0_0 l0_1 a0_0 (([] : List Int))) = some (r1,r2):=h
 clear h
 obtain ⟨y167,hy167⟩ : ∃ y_ : List Int,y_ = (([] : List Int)):=⟨_,rfl⟩
 replace H : (spec_l10Mirror.l0 k a1 0 a0_0 l0_1 a0_0 y167) = some (r1,r2):=by first|(rw [hy167];with_reducible exact H)|(have H2_:=(Option.bind_some _ _).symm.trans H;rw [hy167];with_reducible exact H2_)|(have H2_:=(Option.bind_some _ _).symm.trans H;with_reducible exact H2_)|with_reducible exact H|(rw [hy167];exact H)|exact H
 have Ny167:=Aside0.mk hy167
 clear hy167
 have H':=Aside0.mk H
 clear H
 go_enter Try.func57,Try.ntmps57
 go_wp2_with (first|((with_reducible refine gate_dst (N:=2) rfl ?_);refine box_event ?hg (N:=2) ?hd (cs:=#[.int .i64 a0_0,.slice A0_1 l0_1.length c0_1]) (t:=30) ?hr ?_;(case hd=>rfl);(case hg=>rfl);(case hr=>first|(go_simp;done)|(go_simp;rfl));intro gb165 hg w3 hbox hb;have n0_:=Aside0.mk (below_step (hm HB.out) hb);have n1_:=Aside0.mk (hbox);have n2_:=Aside0.mk ((by rw [hg];exact (below_size (hm HB.out)) : w.heap.size ≤ gb165));have n3_:=Aside0.mk ((by rw [hg];exact (below_size (hm HB.out)) : w.heap.size ≤ gb165));clear HB;have HB:=n0_;have BK165:=n1_;have GW165:=n2_;have GE165:=n3_;clear n0_ n1_ n2_ n3_;clear hb hbox hg)|((with_reducible refine gate_dst (N:=4) rfl ?_);refine box_event ?hg (N:=4) ?hd (cs:=#[.int .i64 0,.slice none 0 0]) (t:=30) ?hr ?_;(case hd=>rfl);(case hg=>rfl);(case hr=>first|(go_simp;done)|(go_simp;rfl));intro gb166 hg w4 hbox hb;have n0_:=Aside0.mk (blk_below (g:=gb165) (o:=.cells #[.int .i64 a0_0,.slice A0_1 l0_1.length c0_1] 30 (0,0)) (bm BK165.out) hb);have n1_:=Aside0.mk (below_step (h1 HB.out GE165.out) hb);have n2_:=Aside0.mk (hbox);have n3_:=Aside0.mk ((by rw [hg];exact (below_size (h1 HB.out GE165.out)) : w.heap.size ≤ gb166));have n4_:=Aside0.mk ((by rw [hg];exact (below_size (h1 HB.out GE165.out)) : w.heap.size ≤ gb166));have n5_:=Aside0.mk ((by rw [hg];exact Nat.ne_of_lt (blk_lt (g:=gb165) (bm BK165.out)) : gb165 ≠ gb166));have n6_:=Aside0.mk ((by rw [hg];exact Nat.ne_of_gt (blk_lt (g:=gb165) (bm BK165.out)) : gb166 ≠ gb165));clear BK165;clear HB;have BK165:=n0_;have HB:=n1_;have BK166:=n2_;have GW166:=n3_;have GE166:=n4_;have NB165_166:=n5_;have NB166_165:=n6_;clear n0_ n1_ n2_ n3_ n4_ n5_ n6_;clear hb hbox hg;have hnb5:=NB165_166.out;have hnc5:=NB166_165.out;have hcz6_0 : w4.cell? ⟨gb165,0,none⟩ = some (.int .i64 a0_0):=(blk_cell BK165.out 0).trans rfl;have hcz6_1 : w4.cell? ⟨gb165,1,none⟩ = some (.slice A0_1 l0_1.length c0_1):=(blk_cell BK165.out 1).trans rfl;have hfz6_0:=blk_frozen BK165.out 0;have hfz6_1:=blk_frozen BK165.out 1)|((with_reducible refine gate_dst (N:=9) rfl ?_);refine R_lit (Kd.int .i64) _ 3 ?hg (N:=9) ?hd (xs:=([] : List Int)) (inner:=[]) (ok:=fun _=>True) (okp:=fun _=>True) ?hr ?hp (fun _ hk=>hk) trivial (Below.refl _ _) (Nat.le_refl _) (by simp) ?_;(case hd=>rfl);(case hg=>rfl);(case hr=>first|(go_simp;done)|(go_simp;rfl));(case hp=>exact (Reps.none _ _));intro v168 w7 ho8 hb hg_ hnew_;clear hg_ hnew_;(first|rw [← Ny167.out] at ho8|(simp only [Int.reduceToNat] at ho8;rw [← Ny167.out] at ho8));have n0_:=Aside0.mk (R_lower ho8 (below_size (h2 HB.out GE165.out GE166.out)));have n1_:=Aside0.mk (blk_below (g:=gb165) (o:=.cells #[.int .i64 a0_0,.slice A0_1 l0_1.length c0_1] 30 (0,0)) (bm BK165.out) hb);have n2_:=Aside0.mk (blk_below (g:=gb166) (o:=.cells #[.int .i64 0,.slice none 0 0] 30 (0,0)) (bm BK166.out) hb);have n3_:=Aside0.mk (below_step (h2 HB.out GE165.out GE166.out) hb);clear BK165;clear BK166;clear HB;have HO169:=n0_;have BK165:=n1_;have BK166:=n2_;have HB:=n3_;clear n0_ n1_ n2_ n3_;clear hb ho8;obtain ⟨Ao9,co9,eo9⟩:=R_slice HO169.out;subst eo9)|((with_reducible refine gate_dst (N:=5) rfl ?_);refine box_event ?hg (N:=5) ?hd (cs:=#[.int .i64 0,.slice none 0 0]) (t:=30) ?hr ?_;(case hd=>rfl);(case hg=>rfl);(case hr=>first|(go_simp;done)|(go_simp;rfl));intro gb170 hg w10 hbox hb;have n0_:=Aside0.mk (R_below (rm HO169.out) hb);have n1_:=Aside0.mk (blk_below (g:=gb165) (o:=.cells #[.int .i64 a0_0,.slice A0_1 l0_1.length c0_1] 30 (0,0)) (bm BK165.out) hb);have n2_:=Aside0.mk (blk_below (g:=gb166) (o:=.cells #[.int .i64 0,.slice none 0 0] 30 (0,0)) (bm BK166.out) hb);have n3_:=Aside0.mk (below_step (h2 HB.out GE165.out GE166.out) hb);have n4_:=Aside0.mk (hbox);have n5_:=Aside0.mk ((by rw [hg];exact (below_size (h2 HB.out GE165.out GE166.out)) : w.heap.size ≤ gb170));have n6_:=Aside0.mk ((by rw [hg];exact (below_size (h2 HB.out GE165.out GE166.out)) : w.heap.size ≤ gb170));have n7_:=Aside0.mk ((by rw [hg];exact Nat.ne_of_lt (blk_lt (g:=gb165) (bm BK165.out)) : gb165 ≠ gb170));have n8_:=Aside0.mk ((by rw [hg];exact Nat.ne_of_gt (blk_lt (g:=gb165) (bm BK165.out)) : gb170 ≠ gb165));have n9_:=Aside0.mk ((by rw [hg];exact Nat.ne_of_lt (blk_lt (g:=gb166) (bm BK166.out)) : gb166 ≠ gb170));have n10_:=Aside0.mk ((by rw [hg];exact Nat.ne_of_gt (blk_lt (g:=gb166) (bm BK166.out)) : gb170 ≠ gb166));clear HO169;clear BK165;clear BK166;clear HB;have HO169:=n0_;have BK165:=n1_;have BK166:=n2_;have HB:=n3_;have BK170:=n4_;have GW170:=n5_;have GE170:=n6_;have NB165_170:=n7_;have NB170_165:=n8_;have NB166_170:=n9_;have NB170_166:=n10_;clear n0_ n1_ n2_ n3_ n4_ n5_ n6_ n7_ n8_ n9_ n10_;clear hb hbox hg;have hnb11:=NB170_165.out;have hnc11:=NB165_170.out;have hnb12:=NB170_166.out;have hnc12:=NB166_170.out;have hcz13_0 : w10.cell? ⟨gb170,0,none⟩ = some (.int .i64 0):=(blk_cell BK170.out 0).trans rfl;have hcz13_1 : w10.cell? ⟨gb170,1,none⟩ = some (.slice none 0 0):=(blk_cell BK170.out 1).trans rfl;have hfz13_0:=blk_frozen BK170.out 0;have hfz13_1:=blk_frozen BK170.out 1))
 go_loopg [6] k (fun kq v6 w'=>∃ (x6_1 : Int) (x171001_1 : List Int) (u171001 : Value),v6 = .int .i64 x6_1 ∧ Aside0 (spec_l10Mirror.l0 kq a1 x6_1 a0_0 l0_1 a0_0 x171001_1 = some (r1,r2)) ∧ Aside0 (kq ≤ k) ∧ Aside0 (Kd.R (Kd.int .i64) 3 w' w.heap.size (fun _=>True) u171001 x171001_1) ∧ Aside0 (w'.heap[gb165]? = some (.cells #[.int .i64 a0_0,(.slice A0_1 l0_1.length c0_1)] 30 (0,0))) ∧ Aside0 (w'.heap[gb166]? = some (.cells #[.int .i64 0,(.slice none 0 0)] 30 (0,0))) ∧ Aside0 (w'.heap[gb170]? = some (.cells #[.int .i64 a0_0,u171001] 30 (0,0))) ∧ Aside0 (Below w.heap.size w w'))
 case atStart=>exact ⟨(0),(y167),(.slice Ao9 y167.length co9),(by first|rfl|(simp;done)|(simp [*];done)),H',⟨Nat.le_refl _⟩,⟨by (with_reducible repeat (first|apply R_alloc|apply R_drewN|apply R_drew));exact R_mono (R_far (p:=⟨gb170,1,none⟩) (R_far (p:=⟨gb170,0,none⟩) (R_types HO169.out BK170.out (by decide)) (fun _ hk=>hk.2) (.int .i64 a0_0)) (fun _ hk=>hk.2) (.slice Ao9 y167.length co9)) (fun _ hk=>trivial)⟩,⟨by (with_reducible repeat (first|apply blk_drewN|apply blk_drew|apply blk_alloc));refine blk_far ?_ NB165_170.out _;(with_reducible repeat (first|apply blk_drewN|apply blk_drew|apply blk_alloc));refine blk_far ?_ NB165_170.out _;(with_reducible repeat (first|apply blk_drewN|apply blk_drew|apply blk_alloc));exact BK165.out⟩,⟨by (with_reducible repeat (first|apply blk_drewN|apply blk_drew|apply blk_alloc));refine blk_far ?_ NB166_170.out _;(with_reducible repeat (first|apply blk_drewN|apply blk_drew|apply blk_alloc));refine blk_far ?_ NB166_170.out _;(with_reducible repeat (first|apply blk_drewN|apply blk_drew|apply blk_alloc));exact BK166.out⟩,⟨by (with_reducible repeat (first|apply blk_drewN|apply blk_drew|apply blk_alloc));refine blk_put (cs:=#[.int .i64 a0_0,.slice none 0 0]) ?_ 1 _ rfl;(with_reducible repeat (first|apply blk_drewN|apply blk_drew|apply blk_alloc));refine blk_put (cs:=#[.int .i64 0,.slice none 0 0]) ?_ 0 _ rfl;(with_reducible repeat (first|apply blk_drewN|apply blk_drew|apply blk_alloc));exact BK170.out⟩,⟨h3 HB.out GE165.out GE166.out GE170.out⟩⟩
 clear H'
 try clear c1
 try clear p2
 try clear c5
 try clear c11
 try clear c12
 try clear hcz13_0
 try clear hcz13_1
 try clear hcz6_0
 try clear hcz6_1
 try clear hfz13_0
 try clear hfz13_1
 try clear hfz6_0
 try clear hfz6_1
 obtain ⟨x6_1,x171001_1,u171001,rfl,HA,HK1,HO_171001,BK165,BK166,BK170,HB⟩:=hrel
 cases gk with
 | zero=>exact absurd HA.out (by simp [spec_l10Mirror.l0])
 | succ k1 =>
  have H:=HA.out
  clear HA
  simp only [spec_l10Mirror.l0] at H
  by_cases c14 : x6_1 < (l0_1.length : Int)
  rotate_left
  ·rw [if_neg c14] at H
   have c14b0 : decide (x6_1 < (l0_1.length : Int)) = false:=decide_eq_false c14
   clear c14
   simp only [Option.some.injEq,Prod.mk.injEq] at H
   obtain ⟨rfl,rfl⟩:=H
   have hnb26:=NB165_166.out
   have hnc26:=NB166_165.out
   have hnb27:=NB165_170.out
   have hnc27:=NB170_165.out
   have hcz28_0 : wr.cell? ⟨gb165,0,none⟩ = some (.int .i64 a0_0):=(blk_cell BK165.out 0).trans rfl
   have hcz28_1 : wr.cell? ⟨gb165,1,none⟩ = some (.slice A0_1 l0_1.length c0_1):=(blk_cell BK165.out 1).trans rfl
   have hfz28_0:=blk_frozen BK165.out 0
   have hfz28_1:=blk_frozen BK165.out 1
   have hnb29:=NB170_166.out
   have hnc29:=NB166_170.out
   have hcz30_0 : wr.cell? ⟨gb170,0,none⟩ = some (.int .i64 a0_0):=(blk_cell BK170.out 0).trans rfl
   have hcz30_1 : wr.cell? ⟨gb170,1,none⟩ = some (u171001):=(blk_cell BK170.out 1).trans rfl
   have hfz30_0:=blk_frozen BK170.out 0
   have hfz30_1:=blk_frozen BK170.out 1
   have hcz31_0 : wr.cell? ⟨gb166,0,none⟩ = some (.int .i64 0):=(blk_cell BK166.out 0).trans rfl
   have hcz31_1 : wr.cell? ⟨gb166,1,none⟩ = some (.slice none 0 0):=(blk_cell BK166.out 1).trans rfl
   have hfz31_0:=blk_frozen BK166.out 0
   have hfz31_1:=blk_frozen BK166.out 1
   obtain ⟨Ao32,co32,eo32⟩:=R_slice HO_171001.out
   subst eo32
   go_wp2
   refine bodyPost_ret (results_cell_row rfl _ _ gb166 30 #[.int .i64 a0_0,.slice Ao32 x171001_1.length co32] (0,0) _ rfl (by (with_reducible repeat (first|apply blk_drewN|apply blk_drew|apply blk_alloc));refine blk_put (cs:=#[.int .i64 a0_0,.slice none 0 0]) ?_ 1 _ rfl;(with_reducible repeat (first|apply blk_drewN|apply blk_drew|apply blk_alloc));refine blk_put (cs:=#[.int .i64 0,.slice none 0 0]) ?_ 0 _ rfl;(with_reducible repeat (first|apply blk_drewN|apply blk_drew|apply blk_alloc));exact BK166.out) Try.underlying30 rfl (by kernel_rfl)) rfl ?_
   exact ⟨_,by first|rfl|(simp [errW_none,errW_some] <;> rfl)|(simp [*,errW_none,errW_some] <;> rfl),by (with_reducible repeat (first|apply R_alloc|apply R_drewN|apply R_drew));exact R_mono (R_far (p:=⟨gb166,1,none⟩) (R_far (p:=⟨gb166,0,none⟩) (R_types HO_171001.out BK166.out (by decide)) (fun _ hk=>hk.2) (.int .i64 a0_0)) (fun _ hk=>hk.2) (.slice Ao32 x171001_1.length co32)) (fun _ hk=>trivial),h3 HB.out GE165.out GE166.out GE170.out⟩
  rw [if_pos c14] at H
  have c14b0 : decide (x6_1 < (l0_1.length : Int)) = true:=decide_eq_true c14
  clear c14
  by_cases c15 : 0 ≤ x6_1
  rotate_left
  ·rw [if_neg c15] at H
   exact absurd H (by simp)
  rw [if_pos c15] at H
  have c15b0 : decide (0 ≤ x6_1) = true:=decide_eq_true c15
  clear c15
  by_cases c16 : a0_0 = 0
  ·rw [if_pos c16] at H
   exact absurd H (by simp)
  rw [if_neg c16] at H
  have c16b0 : (a0_0 == 0) = false:=beq_eq_false_iff_ne.mpr c16
  have c16b1 : (a0_0 != 0) = true:=bne_iff_ne.mpr c16
  replace H:=Option.bind_eq_some_iff.mp H
  obtain ⟨t172,A170,H⟩:=H
  replace H : (spec_l10Mirror.l0 k1 a1 (wrap64 (x6_1 + 1)) a0_0 l0_1 a0_0 t172) = some (r1,r2):=H
  have A17:=Aside0.mk A170
  clear A170
  have H':=Aside0.mk H
  clear H
  have hnb18:=NB165_166.out
  have hnc18:=NB166_165.out
  have hnb19:=NB165_170.out
  have hnc19:=NB170_165.out
  have hcz20_0 : wr.cell? ⟨gb165,0,none⟩ = some (.int .i64 a0_0):=(blk_cell BK165.out 0).trans rfl
  have hcz20_1 : wr.cell? ⟨gb165,1,none⟩ = some (.slice A0_1 l0_1.length c0_1):=(blk_cell BK165.out 1).trans rfl
  have hfz20_0:=blk_frozen BK165.out 0
  have hfz20_1:=blk_frozen BK165.out 1
  try go_wp2
  have n0_:=Aside0.mk (R_drew HO_171001.out)
  have n1_:=Aside0.mk (blk_drew BK165.out)
  have n2_:=Aside0.mk (blk_drew BK166.out)
  have n3_:=Aside0.mk (blk_drew BK170.out)
  have n4_:=Aside0.mk (below_drew1 HB.out)
  clear HO_171001
  clear BK165
  clear BK166
  clear BK170
  clear HB
  have HO_171001:=n0_
  have BK165:=n1_
  have BK166:=n2_
  have BK170:=n3_
  have HB:=n4_
  clear n0_ n1_ n2_ n3_ n4_
  have p171 : 0 ≤ (x6_1 : Int):=od
  have q171 : x6_1 < (l0_1.length : Int):=od
  obtain ⟨ad171,e171,hx171_0⟩:=Kd.at_int HR0_1.out x6_1 p171 q171
  have hw171_0:=hx171_0
  cases e171
  replace hx171_0:=(HB.out.cell (World.block_lt_of_cell? w _ hx171_0)).trans hx171_0
  replace p171:=eq_true p171
  replace q171:=eq_true q171
  obtain ⟨Ao22,co22,eo22⟩:=R_slice HO_171001.out
  (first|subst eo22|(injection eo22 with f1_ f2_ f3_;have f4_:=f1_.symm;have f5_:=f3_.symm;clear f1_ f2_ f3_;subst f4_;subst f5_))
  refine start_ (n:=18) (S:=fun w'=>w'.cell? ⟨gb170,0,none⟩ = some (.int .i64 a0_0) ∧ w'.cell? ⟨gb170,1,none⟩ = some (.slice Ao22 x171001_1.length co22) ∧ w'.cell? ⟨gb165,0,none⟩ = some (.int .i64 a0_0) ∧ w'.cell? ⟨gb165,1,none⟩ = some (.slice (some ad171) l0_1.length c0_1) ∧ w'.cell? (ad171.add (x6_1).toNat) = some (.int .i64 (rd l0_1 x6_1))) (ds:=[17]) (lb 18 0) (by kernel_rfl) rfl rfl ⟨(blk_cell BK170.out 0).trans rfl,(blk_cell BK170.out 1).trans rfl,(blk_cell BK165.out 0).trans rfl,(blk_cell BK165.out 1).trans rfl,((HB.out.cell (World.block_lt_of_cell? w _ hw171_0)).trans hw171_0)⟩ (fun hHeld=>?_);refine with_tabW spec_l10Mirror.tab5 spec_l10Mirror.bits5 (fun HT_ HW_=>?_)
  generalize wr.drew = w21 at HO_171001 BK165 BK166 BK170 HB hx171_0 hHeld ⊢
  refine pu 0 (N:=some 18) (v:=?_) (a':=?_) (lb 18 1) HT_ (by kernel_rfl) rfl rfl rfl (fun _ _ _ h=>h) ?_ ?_ ?_
  rotate_left
  ·intro w'
   go_simp
   with_reducible rfl
  rotate_left
  ·simp only [ap]
   rfl
  refine pu 2 (N:=some 20) (v:=?_) (a':=?_) (lb 18 5) HT_ (by kernel_rfl) rfl rfl rfl (fun _ _ _ h=>h) ?_ ?_ ?_
  rotate_left
  ·intro w'
   go_simp
   with_reducible rfl
  rotate_left
  ·simp only [ap]
   rfl
  refine pu 3 (N:=some 21) (v:=?_) (a':=?_) (lb 18 13) HT_ (by kernel_rfl) rfl rfl rfl (fun _ _ _ h=>h) ?_ ?_ ?_
  rotate_left
  ·intro w'
   go_simp
   with_reducible rfl
  rotate_left
  ·simp only [ap]
   rfl
  refine pu 5 (N:=some 23) (v:=?_) (a':=?_) (lb 18 45) HT_ (by kernel_rfl) rfl rfl rfl (fun _ _ _ h=>h) ?_ ?_ ?_
  rotate_left
  ·intro w'
   go_simp
   with_reducible rfl
  rotate_left
  ·simp only [ap]
   rfl
  refine pu 9 (N:=some 27) (v:=?_) (a':=?_) (lb 18 557) HT_ (by kernel_rfl) rfl rfl rfl (fun _ _ _ h=>h) ?_ ?_ ?_
  rotate_left
  ·intro w'
   go_simp
   with_reducible rfl
  rotate_left
  ·simp only [ap]
   rfl
  refine pu 12 (N:=some 30) (v:=?_) (a':=?_) (lb 18 4653) HT_ (by kernel_rfl) rfl rfl rfl (fun _ _ _ h=>h) ?_ ?_ ?_
  rotate_left
  ·intro w'
   go_simp
   with_reducible rfl
  rotate_left
  ·simp only [ap]
   rfl
  refine take_ (i:=1) (N:=some 19) (v:=?_) (a':=?_) (lb 18 4655) rfl rfl (take_ofW HT_.out HW_.out (by kernel_rfl)) (fun _ _ _ h=>h) (Or.inl ⟨by rfl,?_⟩) hHeld ?_ ?_
  rotate_left
  ·rintro w' ⟨s0,s1,s2,s3,s4⟩
   go_simp
   with_reducible rfl
  rotate_left
  ·simp only [ap]
   rfl
  refine take_ (i:=4) (N:=some 22) (v:=?_) (a':=?_) (lb 18 4671) rfl rfl (take_ofW HT_.out HW_.out (by kernel_rfl)) (fun _ _ _ h=>h) (Or.inl ⟨by rfl,?_⟩) hHeld ?_ ?_
  rotate_left
  ·rintro w' ⟨s0,s1,s2,s3,s4⟩
   go_simp
   with_reducible rfl
  rotate_left
  ·simp only [ap]
   rfl
  refine pu 6 (N:=some 24) (v:=?_) (a':=?_) (lb 18 4735) HT_ (by kernel_rfl) rfl rfl rfl (fun _ _ _ h=>h) ?_ ?_ ?_
  rotate_left
  ·intro w'
   go_simp
   with_reducible rfl
  rotate_left
  ·simp only [ap]
   rfl
  refine take_ (i:=7) (N:=some 25) (v:=?_) (a':=?_) (lb 18 4863) rfl rfl (take_ofW HT_.out HW_.out (by kernel_rfl)) (fun _ _ _ h=>h) (Or.inl ⟨by rfl,?_⟩) hHeld ?_ ?_
  rotate_left
  ·rintro w' ⟨s0,s1,s2,s3,s4⟩
   go_simp
   with_reducible rfl
  rotate_left
  ·simp only [ap]
   rfl
  refine pu 8 (N:=some 26) (v:=?_) (a':=?_) (lb 18 5119) HT_ (by kernel_rfl) rfl rfl rfl (fun _ _ _ h=>h) ?_ ?_ ?_
  rotate_left
  ·intro w'
   go_simp
   with_reducible rfl
  rotate_left
  ·simp only [ap]
   rfl
  refine take_ (i:=10) (N:=some 28) (v:=?_) (a':=?_) (lb 18 6143) rfl rfl (take_ofW HT_.out HW_.out (by kernel_rfl)) (fun _ _ _ h=>h) (Or.inl ⟨by rfl,?_⟩) hHeld ?_ ?_
  rotate_left
  ·rintro w' ⟨s0,s1,s2,s3,s4⟩
   go_simp
   with_reducible rfl
  rotate_left
  ·simp only [ap]
   rfl
  refine pu 11 (N:=some 29) (v:=?_) (a':=?_) (lb 18 8191) HT_ (by kernel_rfl) rfl rfl rfl (fun _ _ _ h=>h) ?_ ?_ ?_
  rotate_left
  ·intro w'
   go_simp
   with_reducible rfl
  rotate_left
  ·simp only [ap]
   rfl
  refine take_ (i:=13) (N:=some 31) (v:=?_) (a':=?_) (lb 18 16383) rfl rfl (take_ofW HT_.out HW_.out (by kernel_rfl)) (fun _ _ _ h=>h) (Or.inl ⟨by rfl,?_⟩) hHeld ?_ ?_
  rotate_left
  ·rintro w' ⟨s0,s1,s2,s3,s4⟩
   go_simp
   with_reducible rfl
  rotate_left
  ·simp only [ap]
   rfl
  refine pu 14 (N:=some 32) (v:=?_) (a':=?_) (lb 18 32767) HT_ (by kernel_rfl) rfl rfl rfl (fun _ _ _ h=>h) ?_ ?_ ?_
  rotate_left
  ·intro w'
   go_simp
   with_reducible rfl
  rotate_left
  ·simp only [ap]
   rfl
  refine one_ (i:=15) (N:=some 33) (lb 18 65535) rfl rfl (one_of HT_.out (by kernel_rfl)) (by decide) (fun K hK=>?_)
  refine goes_ Try.func74 (by kernel_rfl) rfl #[.slice Ao22 x171001_1.length co22,.int .i64 (Int.tmod (wrap64 ((wrap64 (a1 - (rd l0_1 x6_1))) + a0_0)) a0_0)] (by rfl) rfl rfl (by (try simp only [List.map_toArray,List.map_cons,List.map_nil]);first|done|rfl|(simp only [List.length_drop,List.length_take];rfl)) ?_
  with_reducible refine (spec_l1Put.calls k1 _ _ x171001_1 (Int.tmod (wrap64 ((wrap64 (a1 - (rd l0_1 x6_1))) + a0_0)) a0_0) t172 _ ?side1 ?side2 A17.out).mono ?_
  (case side1=>exact cm (R_reads' HO_171001.out).2.2)
  (case side2=>exact (R_reads' HO_171001.out).2.1)
  rintro e w23 ⟨v173,rfl,ho0,hb⟩
  refine ⟨_,rfl,?_⟩
  have n0_:=Aside0.mk (R_elder' (rm HO_171001.out) (R_base ho0) hb)
  have n1_:=Aside0.mk (R_lower (R_new' ho0 (R_lt (rm HO_171001.out))) (below_size (h3 HB.out GE165.out GE166.out GE170.out)))
  have n2_:=Aside0.mk (blk_below (g:=gb165) (o:=.cells #[.int .i64 a0_0,.slice (some ad171) l0_1.length c0_1] 30 (0,0)) (bm BK165.out) hb)
  have n3_:=Aside0.mk (blk_below (g:=gb166) (o:=.cells #[.int .i64 0,.slice none 0 0] 30 (0,0)) (bm BK166.out) hb)
  have n4_:=Aside0.mk (blk_below (g:=gb170) (o:=.cells #[.int .i64 a0_0,.slice Ao22 x171001_1.length co22] 30 (0,0)) (bm BK170.out) hb)
  have n5_:=Aside0.mk (below_step (h3 HB.out GE165.out GE166.out GE170.out) hb)
  clear HO_171001
  clear BK165
  clear BK166
  clear BK170
  clear HB
  have HO_171001:=n0_
  have HO174:=n1_
  have BK165:=n2_
  have BK166:=n3_
  have BK170:=n4_
  have HB:=n5_
  clear n0_ n1_ n2_ n3_ n4_ n5_
  (try clear hb)
  (try clear hb2)
  (try clear hk)
  (try clear hi)
  (try clear ho0)
  obtain ⟨Ao24,co24,eo24⟩:=R_slice HO174.out
  (first|subst eo24|(injection eo24 with f1_ f2_ f3_;have f4_:=f1_.symm;have f5_:=f3_.symm;clear f1_ f2_ f3_;subst f4_;subst f5_))
  refine hK.out _ _ ⟨(blk_cell BK170.out 0).trans rfl,(blk_cell BK170.out 1).trans rfl,(blk_cell BK165.out 0).trans rfl,(blk_cell BK165.out 1).trans rfl,((HB.out.cell (World.block_lt_of_cell? w _ hw171_0)).trans hw171_0)⟩ (fun hHeld=>?_)
  clear hK K
  refine norm_ (a':=?_) ?_ ?_
  rotate_left
  ·show Act.put _ (some 33) _ = _
   simp only [ap]
   rfl
  refine pu 16 (N:=some 34) (v:=?_) (a':=?_) (lb 18 131071) HT_ (by kernel_rfl) rfl rfl rfl (fun _ _ _ h=>h) ?_ ?_ ?_
  rotate_left
  ·intro w'
   go_simp
   with_reducible rfl
  rotate_left
  ·simp only [ap]
   rfl
  refine last_ (i:=17) (N:=none) (lb 18 262143) rfl rfl (one_of HT_.out (by kernel_rfl)) (by decide) (fun K hK=>?_)
  have hs25 : w23.cell? ⟨gb170,1,none⟩ = some (.slice Ao22 x171001_1.length co22):=(blk_cell BK170.out 1).trans rfl
  have hfs25:=blk_frozen BK170.out 1
  have hns25_0:=NB165_170.out
  have hns25_1:=NB166_170.out
  have hms25_0:=NB170_165.out
  have hms25_1:=NB170_166.out
  refine skip_ (w1:=?_) (by rfl) rfl ?_ ?_
  rotate_left
  ·go_simp
   rfl
  refine hK.out _ _ ?_
  clear hK K
  refine done_ (done_of HT_.out (by kernel_rfl)) ?_
  try go_wp2
  go_roundg k1
  case measure=>have:=HK1.out;omega
  case rel=>exact ⟨(wrap64 (x6_1 + 1)),(t172),(.slice Ao24 t172.length co24),(by first|rfl|(simp;done)|(simp [*];done)),H',⟨by have:=HK1.out;omega⟩,⟨by (with_reducible repeat (first|apply R_alloc|apply R_drewN|apply R_drew));exact R_mono (R_far (p:=⟨gb170,1,none⟩) (R_types HO174.out BK170.out (by decide)) (fun _ hk=>hk.2) (.slice Ao24 t172.length co24)) (fun _ hk=>trivial)⟩,⟨by (with_reducible repeat (first|apply blk_drewN|apply blk_drew|apply blk_alloc));refine blk_far ?_ NB165_170.out _;(with_reducible repeat (first|apply blk_drewN|apply blk_drew|apply blk_alloc));exact BK165.out⟩,⟨by (with_reducible repeat (first|apply blk_drewN|apply blk_drew|apply blk_alloc));refine blk_far ?_ NB166_170.out _;(with_reducible repeat (first|apply blk_drewN|apply blk_drew|apply blk_alloc));exact BK166.out⟩,⟨by (with_reducible repeat (first|apply blk_drewN|apply blk_drew|apply blk_alloc));refine blk_put (cs:=#[.int .i64 a0_0,.slice Ao22 x171001_1.length co22]) ?_ 1 _ rfl;(with_reducible repeat (first|apply blk_drewN|apply blk_drew|apply blk_alloc));exact BK170.out⟩,⟨h3 HB.out GE165.out GE166.out GE170.out⟩⟩

/-! ### spec_l10Turned: function 60 -/
def spec_l10Turned.l0 : Nat → Int → Int → Int → List Int → Int → List Int → Option (Int × List Int)
 | 0,_,_,_,_,_,_=>none
 | k + 1,x1,x6,x176000,x176001,x181000,x181001=>if x6 < (x176001.length : Int) then (if 0 ≤ x6 then (if x176000 = 0 then (none) else ((spec_l1Put.f k x181001 (Int.tmod (wrap64 ((rd x176001 x6) + x1)) x176000)).bind fun t182=>(spec_l10Turned.l0 k x1 (wrap64 (x6 + 1)) x176000 x176001 x181000 t182))) else (none)) else (some (x181000,x181001))
def spec_l10Turned.f (k : Nat) (a0_0 : Int) (l0_1 : List Int) (a1 : Int) : Option (Int × List Int):=spec_l10Turned.l0 k a1 0 a0_0 l0_1 a0_0 (([] : List Int))
theorem spec_l10Turned.mono_l : ∀ k,(∀ y0 y1 y2 y3 y4 y5,LeO (spec_l10Turned.l0 k y0 y1 y2 y3 y4 y5) (spec_l10Turned.l0 (k + 1) y0 y1 y2 y3 y4 y5))
 | 0=>fun _ _ _ _ _ _ r h=>by simp [spec_l10Turned.l0] at h
 | k + 1=>by
  have ih0:=spec_l10Turned.mono_l k
  ·intro y0 y1 y2 y3 y4 y5
   unfold spec_l10Turned.l0
   repeat' first
   | (with_reducible exact ih0 _ _ _ _ _ _)
   | (with_reducible exact spec_l1Put.mono _ _ _)
   | (with_reducible exact LeO.refl _)
   | (with_reducible exact LeO.none _)
   | (with_reducible refine LeO.ite ?_ ?_)
   | (with_reducible refine LeO.bind ?_ (fun _=>?_))
   | exact ih0 _ _ _ _ _ _
   | exact spec_l1Put.mono _ _ _
   | exact LeO.none _
   | refine LeO.ite ?_ ?_
   | refine LeO.bind ?_ (fun _=>?_)
theorem spec_l10Turned.mono : ∀ a0 a1 a2 k,LeO (spec_l10Turned.f k a0 a1 a2) (spec_l10Turned.f (k + 1) a0 a1 a2):=by
 intro a0 a1 a2 k
 have ih0:=spec_l10Turned.mono_l k
 unfold spec_l10Turned.f
 repeat' first
   | (with_reducible exact ih0 _ _ _ _ _ _)
   | (with_reducible exact spec_l1Put.mono _ _ _)
   | (with_reducible exact LeO.refl _)
   | (with_reducible exact LeO.none _)
   | (with_reducible refine LeO.ite ?_ ?_)
   | (with_reducible refine LeO.bind ?_ (fun _=>?_))
   | exact ih0 _ _ _ _ _ _
   | exact spec_l1Put.mono _ _ _
   | exact LeO.none _
   | refine LeO.ite ?_ ?_
   | refine LeO.bind ?_ (fun _=>?_)
def spec_l10Turned.T5 : Bool × List (List Nat × List Nat):=(true,[([],[]),([0],[0]),([],[]),([2],[2]),([],[]),([3,4],[3,4]),([5],[5]),([],[]),([6,7],[6,7]),([],[]),([9],[9]),([8,10],[8,10]),([1,11],[1,11]),([0,1,2,3,4,5,6,7,8,9,10,11,12],[]),([13,12,12,0,1,2,3,4,5,6,7,8,9,10,11,12],[12,13])])
def spec_l10Turned.B5 : List Nat:=[0,1,0,4,0,28,60,0,252,0,512,2044,4095,8191,16383]
theorem spec_l10Turned.tab5 : rtab .any (opsOf Try.f60 5) = spec_l10Turned.T5:=by kernel_rfl
theorem spec_l10Turned.bits5 : waitsOk spec_l10Turned.T5.2 spec_l10Turned.B5 = true:=by kernel_rfl
set_option maxHeartbeats 8000000 in
set_option maxRecDepth 100000 in
theorem spec_l10Turned.calls (k : Nat) (a0_0 : Int) (A0_1 : Option Addr) (c0_1 : Nat) (l0_1 : List Int) (a1 : Int) (r1 : Int) (r2 : List Int) (w : World) (hr0_1 : Kd.C (Kd.int .i64) w A0_1 l0_1.length l0_1) (hc0_1 : l0_1.length ≤ c0_1) (h : spec_l10Turned.f k a0_0 l0_1 a1 = some (r1,r2)) :
  Calls Try.prog 60 #[.agg #[.int .i64 a0_0,.slice A0_1 l0_1.length c0_1],.int .i64 a1] w fun e w'=>∃ v1_ : Value,e = .returned (.agg #[.int .i64 r1,v1_]) ∧ Kd.R (Kd.int .i64) 3 w' w.heap.size (fun _=>True) v1_ r2 ∧ Below w.heap.size w w':=by
 have hu30:=Try.underlying30
 have HR0_1:=Aside0.mk hr0_1
 have HC0_1:=Aside0.mk hc0_1
 clear hr0_1 hc0_1
 have HB:=Aside0.mk (Below.refl w.heap.size w)
 have H : (spec_l10Turned.l0 k a1 0 a0_0 l0_1 a0_0 (([] : List Int))) = some (r1,r2):=h
 clear h
 obtain ⟨y177,hy177⟩ : ∃ y_ : List Int,y_ = (([] : List Int)):=⟨_,rfl⟩
 replace H : (spec_l10Turned.l0 k a1 0 a0_0 l0_1 a0_0 y177) = some (r1,r2):=by first|(rw [hy177];with_reducible exact H)|(have H2_:=(Option.bind_some _ _).symm.trans H;rw [hy177];with_reducible exact H2_)|(have H2_:=(Option.bind_some _ _).symm.trans H;with_reducible exact H2_)|with_reducible exact H|(rw [hy177];exact H)|exact H
 have Ny177:=Aside0.mk hy177
 clear hy177
 have H':=Aside0.mk H
 clear H
 go_enter Try.func60,Try.ntmps60
 go_wp2_with (first|((with_reducible refine gate_dst (N:=2) rfl ?_);refine box_event ?hg (N:=2) ?hd (cs:=#[.int .i64 a0_0,.slice A0_1 l0_1.length c0_1]) (t:=30) ?hr ?_;(case hd=>rfl);(case hg=>rfl);(case hr=>first|(go_simp;done)|(go_simp;rfl));intro gb175 hg w3 hbox hb;have n0_:=Aside0.mk (below_step (hm HB.out) hb);have n1_:=Aside0.mk (hbox);have n2_:=Aside0.mk ((by rw [hg];exact (below_size (hm HB.out)) : w.heap.size ≤ gb175));have n3_:=Aside0.mk ((by rw [hg];exact (below_size (hm HB.out)) : w.heap.size ≤ gb175));clear HB;have HB:=n0_;have BK175:=n1_;have GW175:=n2_;have GE175:=n3_;clear n0_ n1_ n2_ n3_;clear hb hbox hg)|((with_reducible refine gate_dst (N:=4) rfl ?_);refine box_event ?hg (N:=4) ?hd (cs:=#[.int .i64 0,.slice none 0 0]) (t:=30) ?hr ?_;(case hd=>rfl);(case hg=>rfl);(case hr=>first|(go_simp;done)|(go_simp;rfl));intro gb176 hg w4 hbox hb;have n0_:=Aside0.mk (blk_below (g:=gb175) (o:=.cells #[.int .i64 a0_0,.slice A0_1 l0_1.length c0_1] 30 (0,0)) (bm BK175.out) hb);have n1_:=Aside0.mk (below_step (h1 HB.out GE175.out) hb);have n2_:=Aside0.mk (hbox);have n3_:=Aside0.mk ((by rw [hg];exact (below_size (h1 HB.out GE175.out)) : w.heap.size ≤ gb176));have n4_:=Aside0.mk ((by rw [hg];exact (below_size (h1 HB.out GE175.out)) : w.heap.size ≤ gb176));have n5_:=Aside0.mk ((by rw [hg];exact Nat.ne_of_lt (blk_lt (g:=gb175) (bm BK175.out)) : gb175 ≠ gb176));have n6_:=Aside0.mk ((by rw [hg];exact Nat.ne_of_gt (blk_lt (g:=gb175) (bm BK175.out)) : gb176 ≠ gb175));clear BK175;clear HB;have BK175:=n0_;have HB:=n1_;have BK176:=n2_;have GW176:=n3_;have GE176:=n4_;have NB175_176:=n5_;have NB176_175:=n6_;clear n0_ n1_ n2_ n3_ n4_ n5_ n6_;clear hb hbox hg;have hnb5:=NB175_176.out;have hnc5:=NB176_175.out;have hcz6_0 : w4.cell? ⟨gb175,0,none⟩ = some (.int .i64 a0_0):=(blk_cell BK175.out 0).trans rfl;have hcz6_1 : w4.cell? ⟨gb175,1,none⟩ = some (.slice A0_1 l0_1.length c0_1):=(blk_cell BK175.out 1).trans rfl;have hfz6_0:=blk_frozen BK175.out 0;have hfz6_1:=blk_frozen BK175.out 1)|((with_reducible refine gate_dst (N:=9) rfl ?_);refine R_lit (Kd.int .i64) _ 3 ?hg (N:=9) ?hd (xs:=([] : List Int)) (inner:=[]) (ok:=fun _=>True) (okp:=fun _=>True) ?hr ?hp (fun _ hk=>hk) trivial (Below.refl _ _) (Nat.le_refl _) (by simp) ?_;(case hd=>rfl);(case hg=>rfl);(case hr=>first|(go_simp;done)|(go_simp;rfl));(case hp=>exact (Reps.none _ _));intro v178 w7 ho8 hb hg_ hnew_;clear hg_ hnew_;(first|rw [← Ny177.out] at ho8|(simp only [Int.reduceToNat] at ho8;rw [← Ny177.out] at ho8));have n0_:=Aside0.mk (R_lower ho8 (below_size (h2 HB.out GE175.out GE176.out)));have n1_:=Aside0.mk (blk_below (g:=gb175) (o:=.cells #[.int .i64 a0_0,.slice A0_1 l0_1.length c0_1] 30 (0,0)) (bm BK175.out) hb);have n2_:=Aside0.mk (blk_below (g:=gb176) (o:=.cells #[.int .i64 0,.slice none 0 0] 30 (0,0)) (bm BK176.out) hb);have n3_:=Aside0.mk (below_step (h2 HB.out GE175.out GE176.out) hb);clear BK175;clear BK176;clear HB;have HO179:=n0_;have BK175:=n1_;have BK176:=n2_;have HB:=n3_;clear n0_ n1_ n2_ n3_;clear hb ho8;obtain ⟨Ao9,co9,eo9⟩:=R_slice HO179.out;subst eo9)|((with_reducible refine gate_dst (N:=5) rfl ?_);refine box_event ?hg (N:=5) ?hd (cs:=#[.int .i64 0,.slice none 0 0]) (t:=30) ?hr ?_;(case hd=>rfl);(case hg=>rfl);(case hr=>first|(go_simp;done)|(go_simp;rfl));intro gb180 hg w10 hbox hb;have n0_:=Aside0.mk (R_below (rm HO179.out) hb);have n1_:=Aside0.mk (blk_below (g:=gb175) (o:=.cells #[.int .i64 a0_0,.slice A0_1 l0_1.length c0_1] 30 (0,0)) (bm BK175.out) hb);have n2_:=Aside0.mk (blk_below (g:=gb176) (o:=.cells #[.int .i64 0,.slice none 0 0] 30 (0,0)) (bm BK176.out) hb);have n3_:=Aside0.mk (below_step (h2 HB.out GE175.out GE176.out) hb);have n4_:=Aside0.mk (hbox);have n5_:=Aside0.mk ((by rw [hg];exact (below_size (h2 HB.out GE175.out GE176.out)) : w.heap.size ≤ gb180));have n6_:=Aside0.mk ((by rw [hg];exact (below_size (h2 HB.out GE175.out GE176.out)) : w.heap.size ≤ gb180));have n7_:=Aside0.mk ((by rw [hg];exact Nat.ne_of_lt (blk_lt (g:=gb175) (bm BK175.out)) : gb175 ≠ gb180));have n8_:=Aside0.mk ((by rw [hg];exact Nat.ne_of_gt (blk_lt (g:=gb175) (bm BK175.out)) : gb180 ≠ gb175));have n9_:=Aside0.mk ((by rw [hg];exact Nat.ne_of_lt (blk_lt (g:=gb176) (bm BK176.out)) : gb176 ≠ gb180));have n10_:=Aside0.mk ((by rw [hg];exact Nat.ne_of_gt (blk_lt (g:=gb176) (bm BK176.out)) : gb180 ≠ gb176));clear HO179;clear BK175;clear BK176;clear HB;have HO179:=n0_;have BK175:=n1_;have BK176:=n2_;have HB:=n3_;have BK180:=n4_;have GW180:=n5_;have GE180:=n6_;have NB175_180:=n7_;have NB180_175:=n8_;have NB176_180:=n9_;have NB180_176:=n10_;clear n0_ n1_ n2_ n3_ n4_ n5_ n6_ n7_ n8_ n9_ n10_;clear hb hbox hg;have hnb11:=NB180_175.out;have hnc11:=NB175_180.out;have hnb12:=NB180_176.out;have hnc12:=NB176_180.out;have hcz13_0 : w10.cell? ⟨gb180,0,none⟩ = some (.int .i64 0):=(blk_cell BK180.out 0).trans rfl;have hcz13_1 : w10.cell? ⟨gb180,1,none⟩ = some (.slice none 0 0):=(blk_cell BK180.out 1).trans rfl;have hfz13_0:=blk_frozen BK180.out 0;have hfz13_1:=blk_frozen BK180.out 1))
 go_loopg [6] k (fun kq v6 w'=>∃ (x6_1 : Int) (x181001_1 : List Int) (u181001 : Value),v6 = .int .i64 x6_1 ∧ Aside0 (spec_l10Turned.l0 kq a1 x6_1 a0_0 l0_1 a0_0 x181001_1 = some (r1,r2)) ∧ Aside0 (kq ≤ k) ∧ Aside0 (Kd.R (Kd.int .i64) 3 w' w.heap.size (fun _=>True) u181001 x181001_1) ∧ Aside0 (w'.heap[gb175]? = some (.cells #[.int .i64 a0_0,(.slice A0_1 l0_1.length c0_1)] 30 (0,0))) ∧ Aside0 (w'.heap[gb176]? = some (.cells #[.int .i64 0,(.slice none 0 0)] 30 (0,0))) ∧ Aside0 (w'.heap[gb180]? = some (.cells #[.int .i64 a0_0,u181001] 30 (0,0))) ∧ Aside0 (Below w.heap.size w w'))
 case atStart=>exact ⟨(0),(y177),(.slice Ao9 y177.length co9),(by first|rfl|(simp;done)|(simp [*];done)),H',⟨Nat.le_refl _⟩,⟨by (with_reducible repeat (first|apply R_alloc|apply R_drewN|apply R_drew));exact R_mono (R_far (p:=⟨gb180,1,none⟩) (R_far (p:=⟨gb180,0,none⟩) (R_types HO179.out BK180.out (by decide)) (fun _ hk=>hk.2) (.int .i64 a0_0)) (fun _ hk=>hk.2) (.slice Ao9 y177.length co9)) (fun _ hk=>trivial)⟩,⟨by (with_reducible repeat (first|apply blk_drewN|apply blk_drew|apply blk_alloc));refine blk_far ?_ NB175_180.out _;(with_reducible repeat (first|apply blk_drewN|apply blk_drew|apply blk_alloc));refine blk_far ?_ NB175_180.out _;(with_reducible repeat (first|apply blk_drewN|apply blk_drew|apply blk_alloc));exact BK175.out⟩,⟨by (with_reducible repeat (first|apply blk_drewN|apply blk_drew|apply blk_alloc));refine blk_far ?_ NB176_180.out _;(with_reducible repeat (first|apply blk_drewN|apply blk_drew|apply blk_alloc));refine blk_far ?_ NB176_180.out _;(with_reducible repeat (first|apply blk_drewN|apply blk_drew|apply blk_alloc));exact BK176.out⟩,⟨by (with_reducible repeat (first|apply blk_drewN|apply blk_drew|apply blk_alloc));refine blk_put (cs:=#[.int .i64 a0_0,.slice none 0 0]) ?_ 1 _ rfl;(with_reducible repeat (first|apply blk_drewN|apply blk_drew|apply blk_alloc));refine blk_put (cs:=#[.int .i64 0,.slice none 0 0]) ?_ 0 _ rfl;(with_reducible repeat (first|apply blk_drewN|apply blk_drew|apply blk_alloc));exact BK180.out⟩,⟨h3 HB.out GE175.out GE176.out GE180.out⟩⟩
 clear H'
 try clear c1
 try clear p2
 try clear c5
 try clear c6
 try clear c11
 try clear c12
 try clear hcz13_0
 try clear hcz13_1
 try clear hcz6_0
 try clear hcz6_1
 try clear hfz13_0
 try clear hfz13_1
 try clear hfz6_0
 try clear hfz6_1
 obtain ⟨x6_1,x181001_1,u181001,rfl,HA,HK1,HO_181001,BK175,BK176,BK180,HB⟩:=hrel
 cases gk with
 | zero=>exact absurd HA.out (by simp [spec_l10Turned.l0])
 | succ k1 =>
  have H:=HA.out
  clear HA
  simp only [spec_l10Turned.l0] at H
  by_cases c14 : x6_1 < (l0_1.length : Int)
  rotate_left
  ·rw [if_neg c14] at H
   have c14b0 : decide (x6_1 < (l0_1.length : Int)) = false:=decide_eq_false c14
   clear c14
   simp only [Option.some.injEq,Prod.mk.injEq] at H
   obtain ⟨rfl,rfl⟩:=H
   have hnb26:=NB175_176.out
   have hnc26:=NB176_175.out
   have hnb27:=NB175_180.out
   have hnc27:=NB180_175.out
   have hcz28_0 : wr.cell? ⟨gb175,0,none⟩ = some (.int .i64 a0_0):=(blk_cell BK175.out 0).trans rfl
   have hcz28_1 : wr.cell? ⟨gb175,1,none⟩ = some (.slice A0_1 l0_1.length c0_1):=(blk_cell BK175.out 1).trans rfl
   have hfz28_0:=blk_frozen BK175.out 0
   have hfz28_1:=blk_frozen BK175.out 1
   have hnb29:=NB180_176.out
   have hnc29:=NB176_180.out
   have hcz30_0 : wr.cell? ⟨gb180,0,none⟩ = some (.int .i64 a0_0):=(blk_cell BK180.out 0).trans rfl
   have hcz30_1 : wr.cell? ⟨gb180,1,none⟩ = some (u181001):=(blk_cell BK180.out 1).trans rfl
   have hfz30_0:=blk_frozen BK180.out 0
   have hfz30_1:=blk_frozen BK180.out 1
   have hcz31_0 : wr.cell? ⟨gb176,0,none⟩ = some (.int .i64 0):=(blk_cell BK176.out 0).trans rfl
   have hcz31_1 : wr.cell? ⟨gb176,1,none⟩ = some (.slice none 0 0):=(blk_cell BK176.out 1).trans rfl
   have hfz31_0:=blk_frozen BK176.out 0
   have hfz31_1:=blk_frozen BK176.out 1
   obtain ⟨Ao32,co32,eo32⟩:=R_slice HO_181001.out
   subst eo32
   go_wp2
   refine bodyPost_ret (results_cell_row rfl _ _ gb176 30 #[.int .i64 a0_0,.slice Ao32 x181001_1.length co32] (0,0) _ rfl (by (with_reducible repeat (first|apply blk_drewN|apply blk_drew|apply blk_alloc));refine blk_put (cs:=#[.int .i64 a0_0,.slice none 0 0]) ?_ 1 _ rfl;(with_reducible repeat (first|apply blk_drewN|apply blk_drew|apply blk_alloc));refine blk_put (cs:=#[.int .i64 0,.slice none 0 0]) ?_ 0 _ rfl;(with_reducible repeat (first|apply blk_drewN|apply blk_drew|apply blk_alloc));exact BK176.out) Try.underlying30 rfl (by kernel_rfl)) rfl ?_
   exact ⟨_,by first|rfl|(simp [errW_none,errW_some] <;> rfl)|(simp [*,errW_none,errW_some] <;> rfl),by (with_reducible repeat (first|apply R_alloc|apply R_drewN|apply R_drew));exact R_mono (R_far (p:=⟨gb176,1,none⟩) (R_far (p:=⟨gb176,0,none⟩) (R_types HO_181001.out BK176.out (by decide)) (fun _ hk=>hk.2) (.int .i64 a0_0)) (fun _ hk=>hk.2) (.slice Ao32 x181001_1.length co32)) (fun _ hk=>trivial),h3 HB.out GE175.out GE176.out GE180.out⟩
  rw [if_pos c14] at H
  have c14b0 : decide (x6_1 < (l0_1.length : Int)) = true:=decide_eq_true c14
  clear c14
  by_cases c15 : 0 ≤ x6_1
  rotate_left
  ·rw [if_neg c15] at H
   exact absurd H (by simp)
  rw [if_pos c15] at H
  have c15b0 : decide (0 ≤ x6_1) = true:=decide_eq_true c15
  clear c15
  by_cases c16 : a0_0 = 0
  ·rw [if_pos c16] at H
   exact absurd H (by simp)
  rw [if_neg c16] at H
  have c16b0 : (a0_0 == 0) = false:=beq_eq_false_iff_ne.mpr c16
  have c16b1 : (a0_0 != 0) = true:=bne_iff_ne.mpr c16
  replace H:=Option.bind_eq_some_iff.mp H
  obtain ⟨t182,A170,H⟩:=H
  replace H : (spec_l10Turned.l0 k1 a1 (wrap64 (x6_1 + 1)) a0_0 l0_1 a0_0 t182) = some (r1,r2):=H
  have A17:=Aside0.mk A170
  clear A170
  have H':=Aside0.mk H
  clear H
  have hnb18:=NB175_176.out
  have hnc18:=NB176_175.out
  have hnb19:=NB175_180.out
  have hnc19:=NB180_175.out
  have hcz20_0 : wr.cell? ⟨gb175,0,none⟩ = some (.int .i64 a0_0):=(blk_cell BK175.out 0).trans rfl
  have hcz20_1 : wr.cell? ⟨gb175,1,none⟩ = some (.slice A0_1 l0_1.length c0_1):=(blk_cell BK175.out 1).trans rfl
  have hfz20_0:=blk_frozen BK175.out 0
  have hfz20_1:=blk_frozen BK175.out 1
  try go_wp2
  have n0_:=Aside0.mk (R_drew HO_181001.out)
  have n1_:=Aside0.mk (blk_drew BK175.out)
  have n2_:=Aside0.mk (blk_drew BK176.out)
  have n3_:=Aside0.mk (blk_drew BK180.out)
  have n4_:=Aside0.mk (below_drew1 HB.out)
  clear HO_181001
  clear BK175
  clear BK176
  clear BK180
  clear HB
  have HO_181001:=n0_
  have BK175:=n1_
  have BK176:=n2_
  have BK180:=n3_
  have HB:=n4_
  clear n0_ n1_ n2_ n3_ n4_
  have p181 : 0 ≤ (x6_1 : Int):=od
  have q181 : x6_1 < (l0_1.length : Int):=od
  obtain ⟨ad181,e181,hx181_0⟩:=Kd.at_int HR0_1.out x6_1 p181 q181
  have hw181_0:=hx181_0
  cases e181
  replace hx181_0:=(HB.out.cell (World.block_lt_of_cell? w _ hx181_0)).trans hx181_0
  replace p181:=eq_true p181
  replace q181:=eq_true q181
  obtain ⟨Ao22,co22,eo22⟩:=R_slice HO_181001.out
  (first|subst eo22|(injection eo22 with f1_ f2_ f3_;have f4_:=f1_.symm;have f5_:=f3_.symm;clear f1_ f2_ f3_;subst f4_;subst f5_))
  refine start_ (n:=15) (S:=fun w'=>w'.cell? ⟨gb180,0,none⟩ = some (.int .i64 a0_0) ∧ w'.cell? ⟨gb180,1,none⟩ = some (.slice Ao22 x181001_1.length co22) ∧ w'.cell? ⟨gb175,0,none⟩ = some (.int .i64 a0_0) ∧ w'.cell? ⟨gb175,1,none⟩ = some (.slice (some ad181) l0_1.length c0_1) ∧ w'.cell? (ad181.add (x6_1).toNat) = some (.int .i64 (rd l0_1 x6_1))) (ds:=[14]) (lb 15 0) (by kernel_rfl) rfl rfl ⟨(blk_cell BK180.out 0).trans rfl,(blk_cell BK180.out 1).trans rfl,(blk_cell BK175.out 0).trans rfl,(blk_cell BK175.out 1).trans rfl,((HB.out.cell (World.block_lt_of_cell? w _ hw181_0)).trans hw181_0)⟩ (fun hHeld=>?_);refine with_tabW spec_l10Turned.tab5 spec_l10Turned.bits5 (fun HT_ HW_=>?_)
  generalize wr.drew = w21 at HO_181001 BK175 BK176 BK180 HB hx181_0 hHeld ⊢
  refine pu 0 (N:=some 18) (v:=?_) (a':=?_) (lb 15 1) HT_ (by kernel_rfl) rfl rfl rfl (fun _ _ _ h=>h) ?_ ?_ ?_
  rotate_left
  ·intro w'
   go_simp
   with_reducible rfl
  rotate_left
  ·simp only [ap]
   rfl
  refine pu 2 (N:=some 20) (v:=?_) (a':=?_) (lb 15 5) HT_ (by kernel_rfl) rfl rfl rfl (fun _ _ _ h=>h) ?_ ?_ ?_
  rotate_left
  ·intro w'
   go_simp
   with_reducible rfl
  rotate_left
  ·simp only [ap]
   rfl
  refine pu 4 (N:=some 22) (v:=?_) (a':=?_) (lb 15 21) HT_ (by kernel_rfl) rfl rfl rfl (fun _ _ _ h=>h) ?_ ?_ ?_
  rotate_left
  ·intro w'
   go_simp
   with_reducible rfl
  rotate_left
  ·simp only [ap]
   rfl
  refine pu 7 (N:=some 25) (v:=?_) (a':=?_) (lb 15 149) HT_ (by kernel_rfl) rfl rfl rfl (fun _ _ _ h=>h) ?_ ?_ ?_
  rotate_left
  ·intro w'
   go_simp
   with_reducible rfl
  rotate_left
  ·simp only [ap]
   rfl
  refine pu 9 (N:=some 27) (v:=?_) (a':=?_) (lb 15 661) HT_ (by kernel_rfl) rfl rfl rfl (fun _ _ _ h=>h) ?_ ?_ ?_
  rotate_left
  ·intro w'
   go_simp
   with_reducible rfl
  rotate_left
  ·simp only [ap]
   rfl
  refine take_ (i:=1) (N:=some 19) (v:=?_) (a':=?_) (lb 15 663) rfl rfl (take_ofW HT_.out HW_.out (by kernel_rfl)) (fun _ _ _ h=>h) (Or.inl ⟨by rfl,?_⟩) hHeld ?_ ?_
  rotate_left
  ·rintro w' ⟨s0,s1,s2,s3,s4⟩
   go_simp
   with_reducible rfl
  rotate_left
  ·simp only [ap]
   rfl
  refine take_ (i:=3) (N:=some 21) (v:=?_) (a':=?_) (lb 15 671) rfl rfl (take_ofW HT_.out HW_.out (by kernel_rfl)) (fun _ _ _ h=>h) (Or.inl ⟨by rfl,?_⟩) hHeld ?_ ?_
  rotate_left
  ·rintro w' ⟨s0,s1,s2,s3,s4⟩
   go_simp
   with_reducible rfl
  rotate_left
  ·simp only [ap]
   rfl
  refine pu 5 (N:=some 23) (v:=?_) (a':=?_) (lb 15 703) HT_ (by kernel_rfl) rfl rfl rfl (fun _ _ _ h=>h) ?_ ?_ ?_
  rotate_left
  ·intro w'
   go_simp
   with_reducible rfl
  rotate_left
  ·simp only [ap]
   rfl
  refine take_ (i:=6) (N:=some 24) (v:=?_) (a':=?_) (lb 15 767) rfl rfl (take_ofW HT_.out HW_.out (by kernel_rfl)) (fun _ _ _ h=>h) (Or.inl ⟨by rfl,?_⟩) hHeld ?_ ?_
  rotate_left
  ·rintro w' ⟨s0,s1,s2,s3,s4⟩
   go_simp
   with_reducible rfl
  rotate_left
  ·simp only [ap]
   rfl
  refine pu 8 (N:=some 26) (v:=?_) (a':=?_) (lb 15 1023) HT_ (by kernel_rfl) rfl rfl rfl (fun _ _ _ h=>h) ?_ ?_ ?_
  rotate_left
  ·intro w'
   go_simp
   with_reducible rfl
  rotate_left
  ·simp only [ap]
   rfl
  refine take_ (i:=10) (N:=some 28) (v:=?_) (a':=?_) (lb 15 2047) rfl rfl (take_ofW HT_.out HW_.out (by kernel_rfl)) (fun _ _ _ h=>h) (Or.inl ⟨by rfl,?_⟩) hHeld ?_ ?_
  rotate_left
  ·rintro w' ⟨s0,s1,s2,s3,s4⟩
   go_simp
   with_reducible rfl
  rotate_left
  ·simp only [ap]
   rfl
  refine pu 11 (N:=some 29) (v:=?_) (a':=?_) (lb 15 4095) HT_ (by kernel_rfl) rfl rfl rfl (fun _ _ _ h=>h) ?_ ?_ ?_
  rotate_left
  ·intro w'
   go_simp
   with_reducible rfl
  rotate_left
  ·simp only [ap]
   rfl
  refine one_ (i:=12) (N:=some 30) (lb 15 8191) rfl rfl (one_of HT_.out (by kernel_rfl)) (by decide) (fun K hK=>?_)
  refine goes_ Try.func74 (by kernel_rfl) rfl #[.slice Ao22 x181001_1.length co22,.int .i64 (Int.tmod (wrap64 ((rd l0_1 x6_1) + a1)) a0_0)] (by rfl) rfl rfl (by (try simp only [List.map_toArray,List.map_cons,List.map_nil]);first|done|rfl|(simp only [List.length_drop,List.length_take];rfl)) ?_
  with_reducible refine (spec_l1Put.calls k1 _ _ x181001_1 (Int.tmod (wrap64 ((rd l0_1 x6_1) + a1)) a0_0) t182 _ ?side1 ?side2 A17.out).mono ?_
  (case side1=>exact cm (R_reads' HO_181001.out).2.2)
  (case side2=>exact (R_reads' HO_181001.out).2.1)
  rintro e w23 ⟨v183,rfl,ho0,hb⟩
  refine ⟨_,rfl,?_⟩
  have n0_:=Aside0.mk (R_elder' (rm HO_181001.out) (R_base ho0) hb)
  have n1_:=Aside0.mk (R_lower (R_new' ho0 (R_lt (rm HO_181001.out))) (below_size (h3 HB.out GE175.out GE176.out GE180.out)))
  have n2_:=Aside0.mk (blk_below (g:=gb175) (o:=.cells #[.int .i64 a0_0,.slice (some ad181) l0_1.length c0_1] 30 (0,0)) (bm BK175.out) hb)
  have n3_:=Aside0.mk (blk_below (g:=gb176) (o:=.cells #[.int .i64 0,.slice none 0 0] 30 (0,0)) (bm BK176.out) hb)
  have n4_:=Aside0.mk (blk_below (g:=gb180) (o:=.cells #[.int .i64 a0_0,.slice Ao22 x181001_1.length co22] 30 (0,0)) (bm BK180.out) hb)
  have n5_:=Aside0.mk (below_step (h3 HB.out GE175.out GE176.out GE180.out) hb)
  clear HO_181001
  clear BK175
  clear BK176
  clear BK180
  clear HB
  have HO_181001:=n0_
  have HO184:=n1_
  have BK175:=n2_
  have BK176:=n3_
  have BK180:=n4_
  have HB:=n5_
  clear n0_ n1_ n2_ n3_ n4_ n5_
  (try clear hb)
  (try clear hb2)
  (try clear hk)
  (try clear hi)
  (try clear ho0)
  obtain ⟨Ao24,co24,eo24⟩:=R_slice HO184.out
  (first|subst eo24|(injection eo24 with f1_ f2_ f3_;have f4_:=f1_.symm;have f5_:=f3_.symm;clear f1_ f2_ f3_;subst f4_;subst f5_))
  refine hK.out _ _ ⟨(blk_cell BK180.out 0).trans rfl,(blk_cell BK180.out 1).trans rfl,(blk_cell BK175.out 0).trans rfl,(blk_cell BK175.out 1).trans rfl,((HB.out.cell (World.block_lt_of_cell? w _ hw181_0)).trans hw181_0)⟩ (fun hHeld=>?_)
  clear hK K
  refine norm_ (a':=?_) ?_ ?_
  rotate_left
  ·show Act.put _ (some 30) _ = _
   simp only [ap]
   rfl
  refine pu 13 (N:=some 31) (v:=?_) (a':=?_) (lb 15 16383) HT_ (by kernel_rfl) rfl rfl rfl (fun _ _ _ h=>h) ?_ ?_ ?_
  rotate_left
  ·intro w'
   go_simp
   with_reducible rfl
  rotate_left
  ·simp only [ap]
   rfl
  refine last_ (i:=14) (N:=none) (lb 15 32767) rfl rfl (one_of HT_.out (by kernel_rfl)) (by decide) (fun K hK=>?_)
  have hs25 : w23.cell? ⟨gb180,1,none⟩ = some (.slice Ao22 x181001_1.length co22):=(blk_cell BK180.out 1).trans rfl
  have hfs25:=blk_frozen BK180.out 1
  have hns25_0:=NB175_180.out
  have hns25_1:=NB176_180.out
  have hms25_0:=NB180_175.out
  have hms25_1:=NB180_176.out
  refine skip_ (w1:=?_) (by rfl) rfl ?_ ?_
  rotate_left
  ·go_simp
   rfl
  refine hK.out _ _ ?_
  clear hK K
  refine done_ (done_of HT_.out (by kernel_rfl)) ?_
  try go_wp2
  go_roundg k1
  case measure=>have:=HK1.out;omega
  case rel=>exact ⟨(wrap64 (x6_1 + 1)),(t182),(.slice Ao24 t182.length co24),(by first|rfl|(simp;done)|(simp [*];done)),H',⟨by have:=HK1.out;omega⟩,⟨by (with_reducible repeat (first|apply R_alloc|apply R_drewN|apply R_drew));exact R_mono (R_far (p:=⟨gb180,1,none⟩) (R_types HO184.out BK180.out (by decide)) (fun _ hk=>hk.2) (.slice Ao24 t182.length co24)) (fun _ hk=>trivial)⟩,⟨by (with_reducible repeat (first|apply blk_drewN|apply blk_drew|apply blk_alloc));refine blk_far ?_ NB175_180.out _;(with_reducible repeat (first|apply blk_drewN|apply blk_drew|apply blk_alloc));exact BK175.out⟩,⟨by (with_reducible repeat (first|apply blk_drewN|apply blk_drew|apply blk_alloc));refine blk_far ?_ NB176_180.out _;(with_reducible repeat (first|apply blk_drewN|apply blk_drew|apply blk_alloc));exact BK176.out⟩,⟨by (with_reducible repeat (first|apply blk_drewN|apply blk_drew|apply blk_alloc));refine blk_put (cs:=#[.int .i64 a0_0,.slice Ao22 x181001_1.length co22]) ?_ 1 _ rfl;(with_reducible repeat (first|apply blk_drewN|apply blk_drew|apply blk_alloc));exact BK180.out⟩,⟨h3 HB.out GE175.out GE176.out GE180.out⟩⟩

/-! ### spec_l10Less: function 72 -/
def spec_l10Less.l0 : Nat → List Int → List Int → Int → Option (Bool)
 | 0,_,_,_=>none
 | k + 1,x0,x1,x5=>if x5 < (x0.length : Int) then (if 0 ≤ x5 then (if x5 < (x1.length : Int) then (if (rd x0 x5) = (rd x1 x5) then (spec_l10Less.l0 k x0 x1 (wrap64 (x5 + 1))) else (some (decide ((rd x0 x5) < (rd x1 x5))))) else (none)) else (none)) else (some false)
def spec_l10Less.f (k : Nat) (l0 : List Int) (l1 : List Int) : Option (Bool):=spec_l10Less.l0 k l0 l1 0
theorem spec_l10Less.mono_l : ∀ k,(∀ y0 y1 y2,LeO (spec_l10Less.l0 k y0 y1 y2) (spec_l10Less.l0 (k + 1) y0 y1 y2))
 | 0=>fun _ _ _ r h=>by simp [spec_l10Less.l0] at h
 | k + 1=>by
  have ih0:=spec_l10Less.mono_l k
  ·intro y0 y1 y2
   unfold spec_l10Less.l0
   repeat' first
   | (with_reducible exact ih0 _ _ _)
   | (with_reducible exact LeO.refl _)
   | (with_reducible exact LeO.none _)
   | (with_reducible refine LeO.ite ?_ ?_)
   | (with_reducible refine LeO.bind ?_ (fun _=>?_))
   | exact ih0 _ _ _
   | exact LeO.none _
   | refine LeO.ite ?_ ?_
   | refine LeO.bind ?_ (fun _=>?_)
theorem spec_l10Less.mono : ∀ a0 a1 k,LeO (spec_l10Less.f k a0 a1) (spec_l10Less.f (k + 1) a0 a1):=by
 intro a0 a1 k
 have ih0:=spec_l10Less.mono_l k
 unfold spec_l10Less.f
 repeat' first
   | (with_reducible exact ih0 _ _ _)
   | (with_reducible exact LeO.refl _)
   | (with_reducible exact LeO.none _)
   | (with_reducible refine LeO.ite ?_ ?_)
   | (with_reducible refine LeO.bind ?_ (fun _=>?_))
   | exact ih0 _ _ _
   | exact LeO.none _
   | refine LeO.ite ?_ ?_
   | refine LeO.bind ?_ (fun _=>?_)
set_option maxHeartbeats 8000000 in
set_option maxRecDepth 100000 in
theorem spec_l10Less.calls (k : Nat) (A0 : Option Addr) (c0 : Nat) (l0 : List Int) (A1 : Option Addr) (c1 : Nat) (l1 : List Int) (r : Bool) (w : World) (hr0 : Kd.C (Kd.int .i64) w A0 l0.length l0) (hc0 : l0.length ≤ c0) (hr1 : Kd.C (Kd.int .i64) w A1 l1.length l1) (hc1 : l1.length ≤ c1) (h : spec_l10Less.f k l0 l1 = some r) :
  Calls Try.prog 72 #[.slice A0 l0.length c0,.slice A1 l1.length c1] w fun e w'=>e = .returned (.bool r) ∧ Drawn0 w w':=by
 have HR0:=Aside0.mk hr0
 have HC0:=Aside0.mk hc0
 clear hr0 hc0
 have HR1:=Aside0.mk hr1
 have HC1:=Aside0.mk hc1
 clear hr1 hc1
 have H : (spec_l10Less.l0 k l0 l1 0) = some r:=h
 clear h
 have H':=Aside0.mk H
 clear H
 go_enter Try.func72,Try.ntmps72
 go_wp2
 repeat (go_quiet (fail);try go_wp2)
 go_loopg [5] k (fun kq v5 w'=>∃ (x5_1 : Int),v5 = .int .i64 x5_1 ∧ Aside0 (spec_l10Less.l0 kq l0 l1 x5_1 = some r) ∧ Aside0 (kq ≤ k) ∧ Drawn0 w w')
 case atStart=>exact ⟨(0),(by first|rfl|(simp;done)|(simp [*];done)),H',⟨Nat.le_refl _⟩,by repeat (first|exact Drawn0.refl _|apply Drawn0.step)⟩
 clear H'
 try clear c1
 try clear p2
 obtain ⟨x5_1,rfl,HA,HK1,⟨m1,rfl⟩⟩:=hrel
 cases gk with
 | zero=>exact absurd HA.out (by simp [spec_l10Less.l0])
 | succ k1 =>
  have H:=HA.out
  clear HA
  simp only [spec_l10Less.l0] at H
  by_cases c3 : x5_1 < (l0.length : Int)
  rotate_left
  ·rw [if_neg c3] at H
   have c3b0 : decide (x5_1 < (l0.length : Int)) = false:=decide_eq_false c3
   clear c3
   obtain rfl:=Option.some.inj H
   go_wp2
   repeat (go_quiet (fail);try go_wp2)
   go_ret
   exact ⟨by first|rfl|(simp;done)|(simp [*];done),by repeat (first|exact Drawn0.refl _|apply Drawn0.step)⟩
  rw [if_pos c3] at H
  have c3b0 : decide (x5_1 < (l0.length : Int)) = true:=decide_eq_true c3
  clear c3
  by_cases c4 : 0 ≤ x5_1
  rotate_left
  ·rw [if_neg c4] at H
   exact absurd H (by simp)
  rw [if_pos c4] at H
  have c4b0 : decide (0 ≤ x5_1) = true:=decide_eq_true c4
  clear c4
  by_cases c5 : x5_1 < (l1.length : Int)
  rotate_left
  ·rw [if_neg c5] at H
   exact absurd H (by simp)
  rw [if_pos c5] at H
  have c5b0 : decide (x5_1 < (l1.length : Int)) = true:=decide_eq_true c5
  clear c5
  by_cases c6 : (rd l0 x5_1) = (rd l1 x5_1)
  ·rw [if_pos c6] at H
   have c6b0 : ((rd l0 x5_1) == (rd l1 x5_1)) = true:=beq_iff_eq.mpr c6
   have c6b1 : ((rd l0 x5_1) != (rd l1 x5_1)) = false:=bne_eq_false_iff_eq.mpr c6
   clear c6
   have H':=Aside0.mk H
   clear H
   have p185 : 0 ≤ (x5_1 : Int):=od
   have q185 : x5_1 < (l0.length : Int):=od
   obtain ⟨ad185,e185,hx185_0⟩:=Kd.at_int HR0.out x5_1 p185 q185
   cases e185
   replace p185:=eq_true p185
   replace q185:=eq_true q185
   have p186 : 0 ≤ (x5_1 : Int):=od
   have q186 : x5_1 < (l1.length : Int):=od
   obtain ⟨ad186,e186,hx186_0⟩:=Kd.at_int HR1.out x5_1 p186 q186
   cases e186
   replace p186:=eq_true p186
   replace q186:=eq_true q186
   go_wp2
   repeat (go_quiet (fail);try go_wp2)
   go_roundg k1
   case measure=>have:=HK1.out;omega
   case rel=>exact ⟨(wrap64 (x5_1 + 1)),(by first|rfl|(simp;done)|(simp [*];done)),H',⟨by have:=HK1.out;omega⟩,by repeat (first|exact Drawn0.refl _|apply Drawn0.step)⟩
  rw [if_neg c6] at H
  have c6b0 : ((rd l0 x5_1) == (rd l1 x5_1)) = false:=beq_eq_false_iff_ne.mpr c6
  have c6b1 : ((rd l0 x5_1) != (rd l1 x5_1)) = true:=bne_iff_ne.mpr c6
  obtain rfl:=Option.some.inj H
  have p185 : 0 ≤ (x5_1 : Int):=od
  have q185 : x5_1 < (l0.length : Int):=od
  obtain ⟨ad185,e185,hx185_0⟩:=Kd.at_int HR0.out x5_1 p185 q185
  cases e185
  replace p185:=eq_true p185
  replace q185:=eq_true q185
  have p186 : 0 ≤ (x5_1 : Int):=od
  have q186 : x5_1 < (l1.length : Int):=od
  obtain ⟨ad186,e186,hx186_0⟩:=Kd.at_int HR1.out x5_1 p186 q186
  cases e186
  replace p186:=eq_true p186
  replace q186:=eq_true q186
  have p187 : 0 ≤ (x5_1 : Int):=od
  have q187 : x5_1 < (l0.length : Int):=od
  obtain ⟨ad187,e187,hx187_0⟩:=Kd.at_int HR0.out x5_1 p187 q187
  obtain rfl : ad185 = ad187:=(by injection e187)
  replace p187:=eq_true p187
  replace q187:=eq_true q187
  have p188 : 0 ≤ (x5_1 : Int):=od
  have q188 : x5_1 < (l1.length : Int):=od
  obtain ⟨ad188,e188,hx188_0⟩:=Kd.at_int HR1.out x5_1 p188 q188
  obtain rfl : ad186 = ad188:=(by injection e188)
  replace p188:=eq_true p188
  replace q188:=eq_true q188
  go_wp2
  repeat (go_quiet (fail);try go_wp2)
  go_ret
  exact ⟨by first|rfl|(simp;done)|(simp [*];done),by repeat (first|exact Drawn0.refl _|apply Drawn0.step)⟩

/-! ### spec_l1Own: function 79 -/
def spec_l1Own.f (l0 : List Int) : Option (List Int):=(some (([] : List Int) : List Int)).bind fun y189=>(if y189.length + l0.length < 17592186044416 then (some (y189 ++ l0)) else (none))
set_option maxHeartbeats 8000000 in
set_option maxRecDepth 100000 in
theorem spec_l1Own.calls (A0 : Option Addr) (c0 : Nat) (l0 : List Int) (r : List Int) (w : World) (hr0 : Kd.C (Kd.int .i64) w A0 l0.length l0) (hc0 : l0.length ≤ c0) (h : spec_l1Own.f l0 = some r) :
  Calls Try.prog 79 #[.slice A0 l0.length c0] w fun e w'=>∃ v0_ : Value,e = .returned (v0_) ∧ Kd.R (Kd.int .i64) 3 w' w.heap.size (fun _=>True) v0_ r ∧ Below w.heap.size w w':=by
 have HR0:=Aside0.mk hr0
 have HC0:=Aside0.mk hc0
 clear hr0 hc0
 have HB:=Aside0.mk (Below.refl w.heap.size w)
 have H : ((some (([] : List Int) : List Int)).bind fun y189=>(if y189.length + l0.length < 17592186044416 then (some (y189 ++ l0)) else (none))) = some r:=h
 clear h
 obtain ⟨y189,hy189⟩ : ∃ y_ : List Int,y_ = (([] : List Int)):=⟨_,rfl⟩
 replace H : (if y189.length + l0.length < 17592186044416 then (some (y189 ++ l0)) else (none)) = some r:=by first|(rw [hy189];with_reducible exact H)|(have H2_:=(Option.bind_some _ _).symm.trans H;rw [hy189];with_reducible exact H2_)|(have H2_:=(Option.bind_some _ _).symm.trans H;with_reducible exact H2_)|with_reducible exact H|(rw [hy189];exact H)|exact H
 have Ny189:=Aside0.mk hy189
 clear hy189
 by_cases c2 : y189.length + l0.length < 17592186044416
 rotate_left
 ·rw [if_neg c2] at H
  exact absurd H (by simp)
 rw [if_pos c2] at H
 have LMc2:=Aside0.mk c2
 clear c2
 obtain ⟨y192,hy192⟩ : ∃ y_ : List Int,y_ = (y189 ++ l0):=⟨_,rfl⟩
 replace H : (some y192) = some r:=by first|(rw [hy192];with_reducible exact H)|(have H2_:=(Option.bind_some _ _).symm.trans H;rw [hy192];with_reducible exact H2_)|(have H2_:=(Option.bind_some _ _).symm.trans H;with_reducible exact H2_)|with_reducible exact H|(rw [hy192];exact H)|exact H
 have Ny192:=Aside0.mk hy192
 clear hy192
 obtain rfl:=Option.some.inj H
 go_enter Try.func79,Try.ntmps79
 go_wp2_with (first|((with_reducible refine gate_dst (N:=3) rfl ?_);refine R_lit (Kd.int .i64) _ 3 ?hg (N:=3) ?hd (xs:=([] : List Int)) (inner:=[]) (ok:=fun _=>True) (okp:=fun _=>True) ?hr ?hp (fun _ hk=>hk) trivial (Below.refl _ _) (Nat.le_refl _) (by simp) ?_;(case hd=>rfl);(case hg=>rfl);(case hr=>first|(go_simp;done)|(go_simp;rfl));(case hp=>exact (Reps.none _ _));intro v190 w3 ho4 hb hg_ hnew_;clear hg_ hnew_;(first|rw [← Ny189.out] at ho4|(simp only [Int.reduceToNat] at ho4;rw [← Ny189.out] at ho4));have n0_:=Aside0.mk (R_lower ho4 (below_size (hm HB.out)));have n1_:=Aside0.mk (below_step (hm HB.out) hb);clear HB;have HO191:=n0_;have HB:=n1_;clear n0_ n1_;clear hb ho4)|((with_reducible refine gate_builtin (b:=.append) (xs:=#[.tmp 3,.tmp 4]) rfl ?_);at_builtin;refine R_append_rows (Kd.int .i64) (w0:=w) w.heap.size rfl (.tmp 3) (.tmp 4) 22 3 (.int .i64 0) 8 rfl Try.underlying22 info3 rfl (by decide) (by omega) v190 y189 l0 _ _ _ (fun _=>True) (fun _=>False) rfl rfl ?aO ?aR (fun _ _ h=>h) (fun _ h=>h.elim) ?aF ?aB ?aS ?aL ?_;(case aR=>exact cm (C_below HR0.out HB.out));(case aB=>exact (hm HB.out));(case aF=>exact (fun _ _=>trivial));(case aO=>exact (rm HO191.out));(case aS=>exact (below_size (hm HB.out)));(case aL=>have:=LMc2.out;omega);intro v193 w5 ho hb hg hat;rw [← Ny192.out] at ho;have n0_:=Aside0.mk (hb);have n1_:=Aside0.mk (ho);clear HB;clear HO191;have HB:=n0_;have HO194:=n1_;clear n0_ n1_;clear ho hb hg hat))
 go_ret
 exact ⟨_,by first|rfl|(simp [errW_none,errW_some] <;> rfl)|(simp [*,errW_none,errW_some] <;> rfl),rm HO194.out,hm HB.out⟩


end
end Go.Proofs.Ytjmpanikfomgeaa.QFnExactAreSameForm
