/- Functions that the law FnWires comes to, and their walks: no condition but those named. -/
import Derived.Test.YtciihopkgblpkaaQFnWiresx0
import Derived.Test.YtciihopkgblpkaaQFnWiresx2
namespace Go.Proofs.Ytciihopkgblpkaa.QFnWires
open Go.RowKit Go.Proofs.YtciihopkgblpkaaW.PrintWords Go.Proofs.YtciihopkgblpkaaW.PrintLast Go.Proofs.YtciihopkgblpkaaW.PrintMore Go.Proofs.Ytciihopkgblpkaa.Short
attribute [local go_sem] max2_int min2_int max_two min_two max_three min_three max_four min_four
set_option linter.unusedVariables false
set_option linter.unusedSimpArgs false

section
open Kd
/-! ### spec_MirrorWire: function 26 -/
def spec_MirrorWire.l0 : Nat → Int → Int → List Int → List Int → Int → List Int → List Int → Option (Int × List Int × List Int × Bool)
 | 0,_,_,_,_,_,_,_=>none
 | k + 1,x5,x185000,x185001,x185002,x194000,x194001,x194002=>if x5 ≥ 0 then (if 0 ≤ x5 then (if x5 < (x185001.length : Int) then (if x194001.length < 17592186044416 then (if x5 < (x185002.length : Int) then (if x194002.length < 17592186044416 then (spec_MirrorWire.l0 k (wrap64 (x5 - 1)) x185000 x185001 x185002 x194000 (x194001 ++ [wrap64 (x185000 - (rd x185001 x5))]) (x194002 ++ [wrap64 (-(rd x185002 x5))])) else (none)) else (none)) else (none)) else (none)) else (none)) else (some (x194000,x194001,x194002,true))
def spec_MirrorWire.f (k : Nat) (a0_0 : Int) (l0_1 : List Int) (l0_2 : List Int) : Option (Int × List Int × List Int × Bool):=(spec_l8Wire.f k a0_0 l0_1 l0_2).bind fun t186=>(if t186 = true then (spec_MirrorWire.l0 k (wrap64 ((l0_1.length : Int) - 1)) a0_0 l0_1 l0_2 a0_0 (([] : List Int)) (([] : List Int))) else (some (0,([] : List Int),([] : List Int),false)))
theorem spec_MirrorWire.mono_l : ∀ k,(∀ y0 y1 y2 y3 y4 y5 y6,LeO (spec_MirrorWire.l0 k y0 y1 y2 y3 y4 y5 y6) (spec_MirrorWire.l0 (k + 1) y0 y1 y2 y3 y4 y5 y6))
 | 0=>by
  refine ?_<;>(intros;intro r h;simp [spec_MirrorWire.l0] at h)
 | k + 1=>by
  have ih0:=spec_MirrorWire.mono_l k
  refine ?_<;>intros<;>(first|unfold spec_MirrorWire.l0)<;>(repeat' first|(with_reducible exact ih0 ..)|(with_reducible exact spec_l8Wire.mono _ _ _ _)|(with_reducible exact LeO.refl _)|(with_reducible exact LeO.none _)|(with_reducible refine LeO.ite ?_ ?_)|(with_reducible refine LeO.bind ?_ (fun _=>?_))|exact ih0 ..|exact spec_l8Wire.mono _ _ _ _|exact LeO.none _|refine LeO.ite ?_ ?_|refine LeO.bind ?_ (fun _=>?_))
theorem spec_MirrorWire.mono : ∀ a0 a1 a2 k,LeO (spec_MirrorWire.f k a0 a1 a2) (spec_MirrorWire.f (k + 1) a0 a1 a2):=by
 intro a0 a1 a2 k
 have ih0:=spec_MirrorWire.mono_l k
 unfold spec_MirrorWire.f
 repeat' first
   | (with_reducible exact ih0 _ _ _ _ _ _ _)
   | (with_reducible exact spec_l8Wire.mono _ _ _ _)
   | (with_reducible exact LeO.refl _)
   | (with_reducible exact LeO.none _)
   | (with_reducible refine LeO.ite ?_ ?_)
   | (with_reducible refine LeO.bind ?_ (fun _=>?_))
   | exact ih0 _ _ _ _ _ _ _
   | exact spec_l8Wire.mono _ _ _ _
   | exact LeO.none _
   | refine LeO.ite ?_ ?_
   | refine LeO.bind ?_ (fun _=>?_)
def spec_MirrorWire.T7 : Bool × List (List Nat × List Nat):=(true,[([],[]),([0],[0]),([],[]),([2],[2]),([],[]),([4],[4]),([],[]),([5,6],[5,6]),([7],[7]),([3,8],[3,8]),([9],[9]),([1,10],[1,10]),([0,1,2,3,4,5,6,7,8,9,10,11],[]),([12,11,11,0,1,2,3,4,5,6,7,8,9,10,11],[11,12])])
def spec_MirrorWire.B7 : List Nat:=[0,1,0,4,0,16,0,112,240,508,1020,2047,4095,8191]
theorem spec_MirrorWire.tab7 : rtab .any (opsOf Try.f26 7) = spec_MirrorWire.T7:=by kernel_rfl
theorem spec_MirrorWire.bits7 : waitsOk spec_MirrorWire.T7.2 spec_MirrorWire.B7 = true:=by kernel_rfl
def spec_MirrorWire.T8 : Bool × List (List Nat × List Nat):=(true,[([],[]),([0],[0]),([],[]),([2],[2]),([],[]),([3,4],[3,4]),([5],[5]),([6],[6]),([7],[7]),([1,8],[1,8]),([0,1,2,3,4,5,6,7,8,9],[]),([10,9,9,0,1,2,3,4,5,6,7,8,9],[9,10])])
def spec_MirrorWire.B8 : List Nat:=[0,1,0,4,0,28,60,124,252,511,1023,2047]
theorem spec_MirrorWire.tab8 : rtab .any (opsOf Try.f26 8) = spec_MirrorWire.T8:=by kernel_rfl
theorem spec_MirrorWire.bits8 : waitsOk spec_MirrorWire.T8.2 spec_MirrorWire.B8 = true:=by kernel_rfl
set_option maxHeartbeats 8000000 in
set_option maxRecDepth 100000 in
theorem spec_MirrorWire.calls (k : Nat) (a0_0 : Int) (A0_1 : Option Addr) (c0_1 : Nat) (l0_1 : List Int) (A0_2 : Option Addr) (c0_2 : Nat) (l0_2 : List Int) (r1 : Int) (r2 : List Int) (r3 : List Int) (r4 : Bool) (w : World) (hr0_1 : Kd.C (Kd.int .i64) w A0_1 l0_1.length l0_1) (hc0_1 : l0_1.length ≤ c0_1) (hr0_2 : Kd.C (Kd.int .i64) w A0_2 l0_2.length l0_2) (hc0_2 : l0_2.length ≤ c0_2) (h : spec_MirrorWire.f k a0_0 l0_1 l0_2 = some (r1,r2,r3,r4)) :
  Calls Try.prog 26 #[.agg #[.int .i64 a0_0,.slice A0_1 l0_1.length c0_1,.slice A0_2 l0_2.length c0_2]] w fun e w'=>∃ v1_ v2_ : Value,e = .returned (.tuple #[.agg #[.int .i64 r1,v1_,v2_],.bool r4]) ∧ Kd.R (Kd.int .i64) 3 w' w.heap.size (fun k_=>ob k_ v2_) v1_ r2 ∧ Kd.R (Kd.int .i64) 3 w' w.heap.size (fun k_=>ob k_ v1_) v2_ r3 ∧ Below w.heap.size w w':=by
 have hu27:=Try.underlying27
 have HR0_1:=Aside0.mk hr0_1
 have HC0_1:=Aside0.mk hc0_1
 clear hr0_1 hc0_1
 have HR0_2:=Aside0.mk hr0_2
 have HC0_2:=Aside0.mk hc0_2
 clear hr0_2 hc0_2
 have HB:=Aside0.mk (Below.refl w.heap.size w)
 have H : ((spec_l8Wire.f k a0_0 l0_1 l0_2).bind fun t186=>(if t186 = true then (spec_MirrorWire.l0 k (wrap64 ((l0_1.length : Int) - 1)) a0_0 l0_1 l0_2 a0_0 (([] : List Int)) (([] : List Int))) else (some (0,([] : List Int),([] : List Int),false)))) = some (r1,r2,r3,r4):=h
 clear h
 replace H:=Option.bind_eq_some_iff.mp H
 obtain ⟨t186,A20,H⟩:=H
 have A2:=Aside0.mk A20
 clear A20
 by_cases c3 : t186 = true
 rotate_left
 ·replace c3:=Bool.eq_false_iff.mpr c3
  subst c3
  rw [if_neg (show ¬ (false = true) by decide)] at H
  simp only [Option.some.injEq,Prod.mk.injEq] at H
  obtain ⟨rfl,rfl,rfl,rfl⟩:=H
  go_enter Try.func26,Try.ntmps26
  go_wp2_with (first|((with_reducible refine gate_dst (N:=1) rfl ?_);refine box_event ?hg (N:=1) ?hd (cs:=#[.int .i64 a0_0,.slice A0_1 l0_1.length c0_1,.slice A0_2 l0_2.length c0_2]) (t:=27) ?hr ?_;(case hd=>rfl);(case hg=>rfl);(case hr=>first|(go_simp;done)|(go_simp;rfl));intro gb184 hg w43 hbox hb;have BK184:=ak hbox;have GW184:=ak ((by rw [hg];exact (below_size (hm HB.out)) : w.heap.size ≤ gb184));have GE184:=ak ((by rw [hg];exact (below_size (hm HB.out)) : w.heap.size ≤ gb184));replace HB:=bs HB hb;clear hb hbox hg)|((with_reducible refine gate_dst (N:=2) rfl ?_);refine box_event ?hg (N:=2) ?hd (cs:=#[.int .i64 0,.slice none 0 0,.slice none 0 0]) (t:=27) ?hr ?_;(case hd=>rfl);(case hg=>rfl);(case hr=>first|(go_simp;done)|(go_simp;rfl));intro gb185 hg w44 hbox hb;have BK185:=ak hbox;have GW185:=ak ((by rw [hg];exact (below_size (h1 HB.out GE184.out)) : w.heap.size ≤ gb185));have GE185:=ak ((by rw [hg];exact (below_size (h1 HB.out GE184.out)) : w.heap.size ≤ gb185));replace HB:=ak (below_step (h1 HB.out GE184.out) hb);have NB184_185:=ak ((by rw [hg];exact Nat.ne_of_lt (blk_lt (g:=gb184) (o:=.cells #[.int .i64 a0_0,.slice A0_1 l0_1.length c0_1,.slice A0_2 l0_2.length c0_2] 27 (0,0)) (bm BK184.out)) : gb184 ≠ gb185));have NB185_184:=ak ((by rw [hg];exact Nat.ne_of_gt (blk_lt (g:=gb184) (o:=.cells #[.int .i64 a0_0,.slice A0_1 l0_1.length c0_1,.slice A0_2 l0_2.length c0_2] 27 (0,0)) (bm BK184.out)) : gb185 ≠ gb184));replace BK184:=kb BK184 hb;clear hb hbox hg;have hnb45:=NB184_185.out;have hnc45:=NB185_184.out;have hcz46_0 : w44.cell? ⟨gb184,0,none⟩ = some (.int .i64 a0_0):=(blk_cell BK184.out 0).trans rfl;have hcz46_1 : w44.cell? ⟨gb184,1,none⟩ = some (.slice A0_1 l0_1.length c0_1):=(blk_cell BK184.out 1).trans rfl;have hcz46_2 : w44.cell? ⟨gb184,2,none⟩ = some (.slice A0_2 l0_2.length c0_2):=(blk_cell BK184.out 2).trans rfl;have hfz46_0:=blk_frozen BK184.out 0;have hfz46_1:=blk_frozen BK184.out 1;have hfz46_2:=blk_frozen BK184.out 2)|((with_reducible refine gate_callee (f:=40) rfl ?_);refine goesL_ (some 7) rfl rfl Try.func40 (by kernel_rfl) rfl #[.agg #[.int .i64 a0_0,.slice A0_1 l0_1.length c0_1,.slice A0_2 l0_2.length c0_2]] rfl gl ?_;(with_reducible refine (spec_l8Wire.calls k a0_0 _ _ l0_1 _ _ l0_2 false _ ?side1 ?side2 ?side3 ?side4 A2.out).mono ?_);(case side1=>exact cm (C_below HR0_1.out HB.out));(case side2=>exact HC0_1.out);(case side3=>exact cm (C_below HR0_2.out HB.out));(case side4=>exact HC0_2.out);rintro e w47 ⟨rfl,hb⟩;refine ⟨_,rfl,?_⟩;replace BK184:=kb BK184 hb;replace BK185:=kb BK185 hb;replace HB:=ak (below_step (h2 HB.out GE184.out GE185.out) hb);(try clear hb);have hcz48_0 : w47.cell? ⟨gb185,0,none⟩ = some (.int .i64 0):=(blk_cell BK185.out 0).trans rfl;have hcz48_1 : w47.cell? ⟨gb185,1,none⟩ = some (.slice none 0 0):=(blk_cell BK185.out 1).trans rfl;have hcz48_2 : w47.cell? ⟨gb185,2,none⟩ = some (.slice none 0 0):=(blk_cell BK185.out 2).trans rfl;have hfz48_0:=blk_frozen BK185.out 0;have hfz48_1:=blk_frozen BK185.out 1;have hfz48_2:=blk_frozen BK185.out 2))
  refine bodyPost_ret (results_ct rfl _ _ gb185 27 #[.int .i64 0,.slice none 0 0,.slice none 0 0] (0,0) _ rfl (by (with_reducible repeat (fail));refine blk_put (cs:=#[.int .i64 0,.slice none 0 0,.slice none 0 0]) ?_ 2 _ rfl;(with_reducible repeat (fail));refine blk_put (cs:=#[.int .i64 0,.slice none 0 0,.slice none 0 0]) ?_ 1 _ rfl;(with_reducible repeat (fail));refine blk_put (cs:=#[.int .i64 0,.slice none 0 0,.slice none 0 0]) ?_ 0 _ rfl;exact bm BK185.out) Try.underlying27 rfl (by kernel_rfl)) rfl ?_
  exact ⟨_,_,fe,by first|exact R_nil _ _ _ _ _|exact Kd.N_nil _ _ _ _ _|exact Kd.V_nil _ _ _ _ _|exact Kd.Q_nil _ _ _ _ _|exact Kd.S_nil _ _ _ _ _,by first|exact R_nil _ _ _ _ _|exact Kd.N_nil _ _ _ _ _|exact Kd.V_nil _ _ _ _ _|exact Kd.Q_nil _ _ _ _ _|exact Kd.S_nil _ _ _ _ _,h2 HB.out GE184.out GE185.out⟩
 subst c3
 rw [if_pos rfl] at H
 obtain ⟨y187,hy187⟩ : ∃ y_ : List Int,y_ = (([] : List Int)):=⟨_,rfl⟩
 replace H : (spec_MirrorWire.l0 k (wrap64 ((l0_1.length : Int) - 1)) a0_0 l0_1 l0_2 a0_0 y187 (([] : List Int))) = some (r1,r2,r3,r4):=by first|(rw [hy187];with_reducible exact H)|(have H2_:=(Option.bind_some _ _).symm.trans H;rw [hy187];with_reducible exact H2_)|(have H2_:=(Option.bind_some _ _).symm.trans H;with_reducible exact H2_)|with_reducible exact H|(rw [hy187];exact H)|exact H
 have Ny187:=Aside0.mk hy187
 clear hy187
 obtain ⟨y190,hy190⟩ : ∃ y_ : List Int,y_ = (([] : List Int)):=⟨_,rfl⟩
 replace H : (spec_MirrorWire.l0 k (wrap64 ((l0_1.length : Int) - 1)) a0_0 l0_1 l0_2 a0_0 y187 y190) = some (r1,r2,r3,r4):=by first|(rw [hy190];with_reducible exact H)|(have H2_:=(Option.bind_some _ _).symm.trans H;rw [hy190];with_reducible exact H2_)|(have H2_:=(Option.bind_some _ _).symm.trans H;with_reducible exact H2_)|with_reducible exact H|(rw [hy190];exact H)|exact H
 have Ny190:=Aside0.mk hy190
 clear hy190
 have H':=Aside0.mk H
 clear H
 go_enter Try.func26,Try.ntmps26
 go_wp2_with (first|((with_reducible refine gate_dst (N:=1) rfl ?_);refine box_event ?hg (N:=1) ?hd (cs:=#[.int .i64 a0_0,.slice A0_1 l0_1.length c0_1,.slice A0_2 l0_2.length c0_2]) (t:=27) ?hr ?_;(case hd=>rfl);(case hg=>rfl);(case hr=>first|(go_simp;done)|(go_simp;rfl));intro gb184 hg w4 hbox hb;have BK184:=ak hbox;have GW184:=ak ((by rw [hg];exact (below_size (hm HB.out)) : w.heap.size ≤ gb184));have GE184:=ak ((by rw [hg];exact (below_size (hm HB.out)) : w.heap.size ≤ gb184));replace HB:=bs HB hb;clear hb hbox hg)|((with_reducible refine gate_dst (N:=2) rfl ?_);refine box_event ?hg (N:=2) ?hd (cs:=#[.int .i64 0,.slice none 0 0,.slice none 0 0]) (t:=27) ?hr ?_;(case hd=>rfl);(case hg=>rfl);(case hr=>first|(go_simp;done)|(go_simp;rfl));intro gb185 hg w5 hbox hb;have BK185:=ak hbox;have GW185:=ak ((by rw [hg];exact (below_size (h1 HB.out GE184.out)) : w.heap.size ≤ gb185));have GE185:=ak ((by rw [hg];exact (below_size (h1 HB.out GE184.out)) : w.heap.size ≤ gb185));replace HB:=ak (below_step (h1 HB.out GE184.out) hb);have NB184_185:=ak ((by rw [hg];exact Nat.ne_of_lt (blk_lt (g:=gb184) (o:=.cells #[.int .i64 a0_0,.slice A0_1 l0_1.length c0_1,.slice A0_2 l0_2.length c0_2] 27 (0,0)) (bm BK184.out)) : gb184 ≠ gb185));have NB185_184:=ak ((by rw [hg];exact Nat.ne_of_gt (blk_lt (g:=gb184) (o:=.cells #[.int .i64 a0_0,.slice A0_1 l0_1.length c0_1,.slice A0_2 l0_2.length c0_2] 27 (0,0)) (bm BK184.out)) : gb185 ≠ gb184));replace BK184:=kb BK184 hb;clear hb hbox hg;have hnb6:=NB184_185.out;have hnc6:=NB185_184.out;have hcz7_0 : w5.cell? ⟨gb184,0,none⟩ = some (.int .i64 a0_0):=(blk_cell BK184.out 0).trans rfl;have hcz7_1 : w5.cell? ⟨gb184,1,none⟩ = some (.slice A0_1 l0_1.length c0_1):=(blk_cell BK184.out 1).trans rfl;have hcz7_2 : w5.cell? ⟨gb184,2,none⟩ = some (.slice A0_2 l0_2.length c0_2):=(blk_cell BK184.out 2).trans rfl;have hfz7_0:=blk_frozen BK184.out 0;have hfz7_1:=blk_frozen BK184.out 1;have hfz7_2:=blk_frozen BK184.out 2)|((with_reducible refine gate_callee (f:=40) rfl ?_);refine goesL_ (some 7) rfl rfl Try.func40 (by kernel_rfl) rfl #[.agg #[.int .i64 a0_0,.slice A0_1 l0_1.length c0_1,.slice A0_2 l0_2.length c0_2]] rfl gl ?_;(with_reducible refine (spec_l8Wire.calls k a0_0 _ _ l0_1 _ _ l0_2 true _ ?side1 ?side2 ?side3 ?side4 A2.out).mono ?_);(case side1=>exact cm (C_below HR0_1.out HB.out));(case side2=>exact HC0_1.out);(case side3=>exact cm (C_below HR0_2.out HB.out));(case side4=>exact HC0_2.out);rintro e w8 ⟨rfl,hb⟩;refine ⟨_,rfl,?_⟩;replace BK184:=kb BK184 hb;replace BK185:=kb BK185 hb;replace HB:=ak (below_step (h2 HB.out GE184.out GE185.out) hb);(try clear hb);have hcz9_0 : w8.cell? ⟨gb184,0,none⟩ = some (.int .i64 a0_0):=(blk_cell BK184.out 0).trans rfl;have hcz9_1 : w8.cell? ⟨gb184,1,none⟩ = some (.slice A0_1 l0_1.length c0_1):=(blk_cell BK184.out 1).trans rfl;have hcz9_2 : w8.cell? ⟨gb184,2,none⟩ = some (.slice A0_2 l0_2.length c0_2):=(blk_cell BK184.out 2).trans rfl;have hfz9_0:=blk_frozen BK184.out 0;have hfz9_1:=blk_frozen BK184.out 1;have hfz9_2:=blk_frozen BK184.out 2)|((with_reducible refine gate_dst (N:=12) rfl ?_);refine R_lit (Kd.int .i64) _ 3 ?hg (N:=12) ?hd (xs:=([] : List Int)) (inner:=[]) (ok:=fun _=>True) (okp:=fun _=>True) ?hr ?hp (fun _ hk=>hk) trivial (Below.refl _ _) (Nat.le_refl _) (by simp) ?_;(case hd=>rfl);(case hg=>rfl);(case hr=>first|(go_simp;done)|(go_simp;rfl));(case hp=>exact (Reps.none _ _));intro v188 w10 ho11 hb hg_ hnew_;clear hg_ hnew_;(rw [← Ny187.out] at ho11);have HO189:=ak (R_lower ho11 (below_size (h2 HB.out GE184.out GE185.out)));replace BK184:=kb BK184 hb;replace BK185:=kb BK185 hb;replace HB:=ak (below_step (h2 HB.out GE184.out GE185.out) hb);clear hb ho11)|((with_reducible refine gate_dst (N:=13) rfl ?_);refine R_lit (Kd.int .i64) _ 3 ?hg (N:=13) ?hd (xs:=([] : List Int)) (inner:=[]) (ok:=fun _=>True) (okp:=fun _=>True) ?hr ?hp (fun _ hk=>hk) trivial (Below.refl _ _) (Nat.le_refl _) (by simp) ?_;(case hd=>rfl);(case hg=>rfl);(case hr=>first|(go_simp;done)|(go_simp;rfl));(case hp=>exact (Reps.none _ _));intro v191 w12 ho13 hb hg_ hnew_;clear hg_ hnew_;(rw [← Ny190.out] at ho13);have HO192:=ak (R_lower (R_new' ho13 (R_lt (rm HO189.out))) (below_size (h2 HB.out GE184.out GE185.out)));replace HO189:=ak (R_elder' (rm HO189.out) (R_base ho13) hb);replace BK184:=kb BK184 hb;replace BK185:=kb BK185 hb;replace HB:=ak (below_step (h2 HB.out GE184.out GE185.out) hb);clear hb ho13;obtain ⟨Ao14,co14,eo14⟩:=R_slice HO192.out;subst eo14;obtain ⟨Ao15,co15,eo15⟩:=R_slice HO189.out;subst eo15)|((with_reducible refine gate_dst (N:=4) rfl ?_);refine box_event ?hg (N:=4) ?hd (cs:=#[.int .i64 0,.slice none 0 0,.slice none 0 0]) (t:=27) ?hr ?_;(case hd=>rfl);(case hg=>rfl);(case hr=>first|(go_simp;done)|(go_simp;rfl));intro gb193 hg w16 hbox hb;replace HO189:=rb HO189 hb;replace HO192:=rb HO192 hb;have BK193:=ak hbox;have GW193:=ak ((by rw [hg];exact (below_size (h2 HB.out GE184.out GE185.out)) : w.heap.size ≤ gb193));have GE193:=ak ((by rw [hg];exact (below_size (h2 HB.out GE184.out GE185.out)) : w.heap.size ≤ gb193));replace HB:=ak (below_step (h2 HB.out GE184.out GE185.out) hb);have NB184_193:=ak ((by rw [hg];exact Nat.ne_of_lt (blk_lt (g:=gb184) (o:=.cells #[.int .i64 a0_0,.slice A0_1 l0_1.length c0_1,.slice A0_2 l0_2.length c0_2] 27 (0,0)) (bm BK184.out)) : gb184 ≠ gb193));have NB193_184:=ak ((by rw [hg];exact Nat.ne_of_gt (blk_lt (g:=gb184) (o:=.cells #[.int .i64 a0_0,.slice A0_1 l0_1.length c0_1,.slice A0_2 l0_2.length c0_2] 27 (0,0)) (bm BK184.out)) : gb193 ≠ gb184));replace BK184:=kb BK184 hb;have NB185_193:=ak ((by rw [hg];exact Nat.ne_of_lt (blk_lt (g:=gb185) (o:=.cells #[.int .i64 0,.slice none 0 0,.slice none 0 0] 27 (0,0)) (bm BK185.out)) : gb185 ≠ gb193));have NB193_185:=ak ((by rw [hg];exact Nat.ne_of_gt (blk_lt (g:=gb185) (o:=.cells #[.int .i64 0,.slice none 0 0,.slice none 0 0] 27 (0,0)) (bm BK185.out)) : gb193 ≠ gb185));replace BK185:=kb BK185 hb;clear hb hbox hg;have hnb17:=NB193_184.out;have hnc17:=NB184_193.out;have hnb18:=NB193_185.out;have hnc18:=NB185_193.out;have hcz19_0 : w16.cell? ⟨gb193,0,none⟩ = some (.int .i64 0):=(blk_cell BK193.out 0).trans rfl;have hcz19_1 : w16.cell? ⟨gb193,1,none⟩ = some (.slice none 0 0):=(blk_cell BK193.out 1).trans rfl;have hcz19_2 : w16.cell? ⟨gb193,2,none⟩ = some (.slice none 0 0):=(blk_cell BK193.out 2).trans rfl;have hfz19_0:=blk_frozen BK193.out 0;have hfz19_1:=blk_frozen BK193.out 1;have hfz19_2:=blk_frozen BK193.out 2;have hcz20_0 : w16.cell? ⟨gb184,0,none⟩ = some (.int .i64 a0_0):=(blk_cell BK184.out 0).trans rfl;have hcz20_1 : w16.cell? ⟨gb184,1,none⟩ = some (.slice A0_1 l0_1.length c0_1):=(blk_cell BK184.out 1).trans rfl;have hcz20_2 : w16.cell? ⟨gb184,2,none⟩ = some (.slice A0_2 l0_2.length c0_2):=(blk_cell BK184.out 2).trans rfl;have hfz20_0:=blk_frozen BK184.out 0;have hfz20_1:=blk_frozen BK184.out 1;have hfz20_2:=blk_frozen BK184.out 2))
 go_loopg [5] k (fun kq v5 w'=>∃ (x5_1 : Int) (x194001_1 : List Int) (x194002_1 : List Int) (u194001 : Value) (u194002 : Value),v5 = .int .i64 x5_1 ∧ Aside0 (spec_MirrorWire.l0 kq x5_1 a0_0 l0_1 l0_2 a0_0 x194001_1 x194002_1 = some (r1,r2,r3,r4)) ∧ Aside0 (kq ≤ k) ∧ Aside0 (Kd.R (Kd.int .i64) 3 w' w.heap.size (fun k_=>ob k_ u194002) u194001 x194001_1) ∧ Aside0 (Kd.R (Kd.int .i64) 3 w' w.heap.size (fun k_=>ob k_ u194001) u194002 x194002_1) ∧ Aside0 (w'.heap[gb184]? = some (.cells #[.int .i64 a0_0,(.slice A0_1 l0_1.length c0_1),(.slice A0_2 l0_2.length c0_2)] 27 (0,0))) ∧ Aside0 (w'.heap[gb185]? = some (.cells #[.int .i64 0,(.slice none 0 0),(.slice none 0 0)] 27 (0,0))) ∧ Aside0 (w'.heap[gb193]? = some (.cells #[.int .i64 a0_0,u194001,u194002] 27 (0,0))) ∧ Aside0 (Below w.heap.size w w'))
 case atStart=>exact ⟨(wrap64 ((l0_1.length : Int) - 1)),(y187),(y190),(.slice Ao15 y187.length co15),(.slice Ao14 y190.length co14),fd,H',⟨Nat.le_refl _⟩,⟨by (with_reducible repeat (fail));exact R_mono (R_far (p:=⟨gb193,2,none⟩) (R_far (p:=⟨gb193,1,none⟩) (R_far (p:=⟨gb193,0,none⟩) (R_types HO189.out BK193.out (by decide)) (fun _ hk=>hk.2) (.int .i64 a0_0)) (fun _ hk=>hk.2) (.slice Ao15 y187.length co15)) (fun _ hk=>hk.2) (.slice Ao14 y190.length co14)) (fun _ hk=>hk.1.2)⟩,⟨by (with_reducible repeat (fail));exact R_mono (R_far (p:=⟨gb193,2,none⟩) (R_far (p:=⟨gb193,1,none⟩) (R_far (p:=⟨gb193,0,none⟩) (R_types HO192.out BK193.out (by decide)) (fun _ hk=>hk.2) (.int .i64 a0_0)) (fun _ hk=>hk.2) (.slice Ao15 y187.length co15)) (fun _ hk=>hk.2) (.slice Ao14 y190.length co14)) (fun _ hk=>hk.1.2)⟩,⟨by (with_reducible repeat (fail));refine blk_far ?_ NB184_193.out _;(with_reducible repeat (fail));refine blk_far ?_ NB184_193.out _;(with_reducible repeat (fail));refine blk_far ?_ NB184_193.out _;exact bm BK184.out⟩,⟨by (with_reducible repeat (fail));refine blk_far ?_ NB185_193.out _;(with_reducible repeat (fail));refine blk_far ?_ NB185_193.out _;(with_reducible repeat (fail));refine blk_far ?_ NB185_193.out _;exact bm BK185.out⟩,⟨by (with_reducible repeat (fail));refine blk_put (cs:=#[.int .i64 a0_0,.slice Ao15 y187.length co15,.slice none 0 0]) ?_ 2 _ rfl;(with_reducible repeat (fail));refine blk_put (cs:=#[.int .i64 a0_0,.slice none 0 0,.slice none 0 0]) ?_ 1 _ rfl;(with_reducible repeat (fail));refine blk_put (cs:=#[.int .i64 0,.slice none 0 0,.slice none 0 0]) ?_ 0 _ rfl;exact bm BK193.out⟩,⟨h3 HB.out GE184.out GE185.out GE193.out⟩⟩
 clear H'
 clear hcz19_0 hcz19_1 hcz19_2 hcz20_0 hcz20_1 hcz20_2 hcz7_0 hcz7_1 hcz7_2 hcz9_0 hcz9_1 hcz9_2 hfz19_0 hfz19_1 hfz19_2 hfz20_0 hfz20_1 hfz20_2 hfz7_0 hfz7_1 hfz7_2 hfz9_0 hfz9_1 hfz9_2
 obtain ⟨x5_1,x194001_1,x194002_1,u194001,u194002,rfl,HA,HK1,HO_194001,HO_194002,BK184,BK185,BK193,HB⟩:=hrel
 cases gk with
 | zero=>exact absurd HA.out (by simp [spec_MirrorWire.l0])
 | succ k1 =>
  have H:=HA.out
  clear HA
  simp only [spec_MirrorWire.l0] at H
  by_cases c21 : x5_1 ≥ 0
  rotate_left
  ·rw [if_neg c21] at H
   have c21b0 : decide (0 ≤ x5_1) = false:=decide_eq_false c21
   clear c21
   simp only [Option.some.injEq,Prod.mk.injEq] at H
   obtain ⟨rfl,rfl,rfl,rfl⟩:=H
   have hnb36:=NB193_184.out
   have hnc36:=NB184_193.out
   have hnb37:=NB193_185.out
   have hnc37:=NB185_193.out
   have hcz38_0 : wr.cell? ⟨gb193,0,none⟩ = some (.int .i64 a0_0):=(blk_cell BK193.out 0).trans rfl
   have hcz38_1 : wr.cell? ⟨gb193,1,none⟩ = some (u194001):=(blk_cell BK193.out 1).trans rfl
   have hcz38_2 : wr.cell? ⟨gb193,2,none⟩ = some (u194002):=(blk_cell BK193.out 2).trans rfl
   have hfz38_0:=blk_frozen BK193.out 0
   have hfz38_1:=blk_frozen BK193.out 1
   have hfz38_2:=blk_frozen BK193.out 2
   have hnb39:=NB185_184.out
   have hnc39:=NB184_185.out
   have hcz40_0 : wr.cell? ⟨gb185,0,none⟩ = some (.int .i64 0):=(blk_cell BK185.out 0).trans rfl
   have hcz40_1 : wr.cell? ⟨gb185,1,none⟩ = some (.slice none 0 0):=(blk_cell BK185.out 1).trans rfl
   have hcz40_2 : wr.cell? ⟨gb185,2,none⟩ = some (.slice none 0 0):=(blk_cell BK185.out 2).trans rfl
   have hfz40_0:=blk_frozen BK185.out 0
   have hfz40_1:=blk_frozen BK185.out 1
   have hfz40_2:=blk_frozen BK185.out 2
   obtain ⟨Ao41,co41,eo41⟩:=R_slice HO_194001.out
   subst eo41
   obtain ⟨Ao42,co42,eo42⟩:=R_slice HO_194002.out
   subst eo42
   go_wp2
   refine bodyPost_ret (results_ct rfl _ _ gb185 27 #[.int .i64 a0_0,.slice Ao41 x194001_1.length co41,.slice Ao42 x194002_1.length co42] (0,0) _ rfl (by (with_reducible repeat (fail));refine blk_put (cs:=#[.int .i64 a0_0,.slice Ao41 x194001_1.length co41,.slice none 0 0]) ?_ 2 _ rfl;(with_reducible repeat (fail));refine blk_put (cs:=#[.int .i64 a0_0,.slice none 0 0,.slice none 0 0]) ?_ 1 _ rfl;(with_reducible repeat (fail));refine blk_put (cs:=#[.int .i64 0,.slice none 0 0,.slice none 0 0]) ?_ 0 _ rfl;exact bm BK185.out) Try.underlying27 rfl (by kernel_rfl)) rfl ?_
   exact ⟨_,_,fe,by (with_reducible repeat (fail));exact R_mono (R_far (p:=⟨gb185,2,none⟩) (R_far (p:=⟨gb185,1,none⟩) (R_far (p:=⟨gb185,0,none⟩) (R_types HO_194001.out BK185.out (by decide)) (fun _ hk=>hk.2) (.int .i64 a0_0)) (fun _ hk=>hk.2) (.slice Ao41 x194001_1.length co41)) (fun _ hk=>hk.2) (.slice Ao42 x194002_1.length co42)) (fun _ hk=>hk.1),by (with_reducible repeat (fail));exact R_mono (R_far (p:=⟨gb185,2,none⟩) (R_far (p:=⟨gb185,1,none⟩) (R_far (p:=⟨gb185,0,none⟩) (R_types HO_194002.out BK185.out (by decide)) (fun _ hk=>hk.2) (.int .i64 a0_0)) (fun _ hk=>hk.2) (.slice Ao41 x194001_1.length co41)) (fun _ hk=>hk.2) (.slice Ao42 x194002_1.length co42)) (fun _ hk=>hk.1),h3 HB.out GE184.out GE185.out GE193.out⟩
  rw [if_pos c21] at H
  have c21b0 : decide (0 ≤ x5_1) = true:=decide_eq_true c21
  clear c21
  by_cases c22 : 0 ≤ x5_1
  rotate_left
  ·rw [if_neg c22] at H
   exact absurd H (by simp)
  rw [if_pos c22] at H
  have c22b0 : decide (0 ≤ x5_1) = true:=decide_eq_true c22
  clear c22
  by_cases c23 : x5_1 < (l0_1.length : Int)
  rotate_left
  ·rw [if_neg c23] at H
   exact absurd H (by simp)
  rw [if_pos c23] at H
  have c23b0 : decide (x5_1 < (l0_1.length : Int)) = true:=decide_eq_true c23
  clear c23
  by_cases c24 : x194001_1.length < 17592186044416
  rotate_left
  ·rw [if_neg c24] at H
   exact absurd H (by simp)
  rw [if_pos c24] at H
  have LMc24:=Aside0.mk c24
  clear c24
  obtain ⟨y195,hy195⟩ : ∃ y_ : List Int,y_ = (x194001_1 ++ [wrap64 (a0_0 - (rd l0_1 x5_1))]):=⟨_,rfl⟩
  replace H : (if x5_1 < (l0_2.length : Int) then (if x194002_1.length < 17592186044416 then (spec_MirrorWire.l0 k1 (wrap64 (x5_1 - 1)) a0_0 l0_1 l0_2 a0_0 y195 (x194002_1 ++ [wrap64 (-(rd l0_2 x5_1))])) else (none)) else (none)) = some (r1,r2,r3,r4):=by first|(rw [hy195];with_reducible exact H)|(have H2_:=(Option.bind_some _ _).symm.trans H;rw [hy195];with_reducible exact H2_)|(have H2_:=(Option.bind_some _ _).symm.trans H;with_reducible exact H2_)|with_reducible exact H|(rw [hy195];exact H)|exact H
  have Ny195:=Aside0.mk hy195
  clear hy195
  by_cases c25 : x5_1 < (l0_2.length : Int)
  rotate_left
  ·rw [if_neg c25] at H
   exact absurd H (by simp)
  rw [if_pos c25] at H
  have c25b0 : decide (x5_1 < (l0_2.length : Int)) = true:=decide_eq_true c25
  clear c25
  by_cases c26 : x194002_1.length < 17592186044416
  rotate_left
  ·rw [if_neg c26] at H
   exact absurd H (by simp)
  rw [if_pos c26] at H
  have LMc26:=Aside0.mk c26
  clear c26
  obtain ⟨y199,hy199⟩ : ∃ y_ : List Int,y_ = (x194002_1 ++ [wrap64 (-(rd l0_2 x5_1))]):=⟨_,rfl⟩
  replace H : (spec_MirrorWire.l0 k1 (wrap64 (x5_1 - 1)) a0_0 l0_1 l0_2 a0_0 y195 y199) = some (r1,r2,r3,r4):=by first|(rw [hy199];with_reducible exact H)|(have H2_:=(Option.bind_some _ _).symm.trans H;rw [hy199];with_reducible exact H2_)|(have H2_:=(Option.bind_some _ _).symm.trans H;with_reducible exact H2_)|with_reducible exact H|(rw [hy199];exact H)|exact H
  have Ny199:=Aside0.mk hy199
  clear hy199
  have H':=Aside0.mk H
  clear H
  try go_wp2
  replace HO_194001:=ak (R_drew HO_194001.out)
  replace HO_194002:=ak (R_drew HO_194002.out)
  replace BK184:=ak (blk_drew BK184.out)
  replace BK185:=ak (blk_drew BK185.out)
  replace BK193:=ak (blk_drew BK193.out)
  replace HB:=ak (below_drew1 HB.out)
  have p194 : 0 ≤ (x5_1 : Int):=od
  have q194 : x5_1 < (l0_1.length : Int):=od
  obtain ⟨ad194,e194,hx194_0⟩:=Kd.at_int HR0_1.out x5_1 p194 q194
  have hw194_0:=hx194_0
  cases e194
  replace hx194_0:=(HB.out.cell (World.block_lt_of_cell? w _ hx194_0)).trans hx194_0
  replace p194:=eq_true p194
  replace q194:=eq_true q194
  refine start_ (n:=14) (S:=fun w'=>w'.cell? ⟨gb193,0,none⟩ = some (.int .i64 a0_0) ∧ w'.cell? ⟨gb193,1,none⟩ = some (u194001) ∧ w'.cell? ⟨gb193,2,none⟩ = some (u194002) ∧ w'.cell? ⟨gb184,0,none⟩ = some (.int .i64 a0_0) ∧ w'.cell? ⟨gb184,1,none⟩ = some (.slice (some ad194) l0_1.length c0_1) ∧ w'.cell? ⟨gb184,2,none⟩ = some (.slice A0_2 l0_2.length c0_2) ∧ w'.cell? (ad194.add (x5_1).toNat) = some (.int .i64 (rd l0_1 x5_1))) (ds:=[13]) (lb 14 0) (by kernel_rfl) rfl rfl ⟨(blk_cell BK193.out 0).trans rfl,(blk_cell BK193.out 1).trans rfl,(blk_cell BK193.out 2).trans rfl,(blk_cell BK184.out 0).trans rfl,(blk_cell BK184.out 1).trans rfl,(blk_cell BK184.out 2).trans rfl,((HB.out.cell (World.block_lt_of_cell? w _ hw194_0)).trans hw194_0)⟩ (fun hHeld=>?_);refine with_tabW spec_MirrorWire.tab7 spec_MirrorWire.bits7 (fun HT_ HW_=>?_)
  generalize wr.drew = w27 at HO_194001 HO_194002 BK184 BK185 BK193 HB hx194_0 hHeld ⊢
  refine pq 0 (N:=some 23) (lb 14 1) HT_ ?_
  refine pq 2 (N:=some 25) (lb 14 5) HT_ ?_
  refine pq 4 (N:=some 27) (lb 14 21) HT_ ?_
  refine pq 6 (N:=some 29) (lb 14 85) HT_ ?_
  refine take_ (i:=1) (N:=some 24) (v:=?_) (a':=?_) (lb 14 87) rfl rfl (take_ofW HT_.out HW_.out (by kernel_rfl)) (fun _ _ _ h=>h) (Or.inl ⟨by rfl,?_⟩) hHeld ?_ ?_
  rotate_left
  ·rintro w' ⟨s0,s1,s2,s3,s4,s5,s6⟩
   go_simp
   with_reducible rfl
  rotate_left
  ·simp only [ap]
   rfl
  refine take_ (i:=3) (N:=some 26) (v:=?_) (a':=?_) (lb 14 95) rfl rfl (take_ofW HT_.out HW_.out (by kernel_rfl)) (fun _ _ _ h=>h) (Or.inl ⟨by rfl,?_⟩) hHeld ?_ ?_
  rotate_left
  ·rintro w' ⟨s0,s1,s2,s3,s4,s5,s6⟩
   go_simp
   with_reducible rfl
  rotate_left
  ·simp only [ap]
   rfl
  refine take_ (i:=5) (N:=some 28) (v:=?_) (a':=?_) (lb 14 127) rfl rfl (take_ofW HT_.out HW_.out (by kernel_rfl)) (fun _ _ _ h=>h) (Or.inl ⟨by rfl,?_⟩) hHeld ?_ ?_
  rotate_left
  ·rintro w' ⟨s0,s1,s2,s3,s4,s5,s6⟩
   go_simp
   with_reducible rfl
  rotate_left
  ·simp only [ap]
   rfl
  refine pq 7 (N:=some 30) (lb 14 255) HT_ ?_
  refine take_ (i:=8) (N:=some 31) (v:=?_) (a':=?_) (lb 14 511) rfl rfl (take_ofW HT_.out HW_.out (by kernel_rfl)) (fun _ _ _ h=>h) (Or.inl ⟨by rfl,?_⟩) hHeld ?_ ?_
  rotate_left
  ·rintro w' ⟨s0,s1,s2,s3,s4,s5,s6⟩
   go_simp
   with_reducible rfl
  rotate_left
  ·simp only [ap]
   rfl
  refine pq 9 (N:=some 32) (lb 14 1023) HT_ ?_
  refine one_ (i:=10) (N:=some 33) (lb 14 2047) rfl rfl (one_of HT_.out (by kernel_rfl)) (by decide) (fun K hK=>?_)
  refine value_ (w1:=?_) (v:=?_) (by rfl) rfl ?_ ?_
  rotate_left 2
  ·go_simp
   constructor
   rotate_left
   ·rfl
   rfl
  refine hK.out _ _ ⟨(blk_cell (blk_alloc BK193.out _) 0).trans rfl,(blk_cell (blk_alloc BK193.out _) 1).trans rfl,(blk_cell (blk_alloc BK193.out _) 2).trans rfl,(blk_cell (blk_alloc BK184.out _) 0).trans rfl,(blk_cell (blk_alloc BK184.out _) 1).trans rfl,(blk_cell (blk_alloc BK184.out _) 2).trans rfl,(World.cell?_alloc_lt _ _ _ (World.block_lt_of_cell? _ _ (((HB.out.cell (World.block_lt_of_cell? w _ hw194_0)).trans hw194_0)))).trans (((HB.out.cell (World.block_lt_of_cell? w _ hw194_0)).trans hw194_0))⟩ (fun hHeld=>?_)
  clear hK K
  refine norm_ (a':=?_) ?_ ?_
  rotate_left
  ·show Act.put _ (some 33) _ = _
   simp only [ap]
   rfl
  refine one_ (i:=11) (N:=some 34) (lb 14 4095) rfl rfl (one_of HT_.out (by kernel_rfl)) (by decide) (fun K hK=>?_)
  refine R_append_step (Kd.int .i64) (w0:=w) w.heap.size (by rfl) (.tmp 24) (.tmp 33) 22 3 (.int .i64 0) 8 rfl Try.underlying22 info3 rfl (by decide) (by omega) u194001 x194001_1 (wrap64 (a0_0 - (rd l0_1 x5_1))) [.int .i64 (wrap64 (a0_0 - (rd l0_1 x5_1)))] (fun k_=>ob k_ u194002) (fun _=>False) rfl rfl ?aP (fun _ hk=>hk.elim) ?aF ?aO ?aB ?aS ?aL ?_
  (case aP=>exact rfl)
  (case aB=>exact (h3 HB.out GE184.out GE185.out GE193.out))
  (case aF=>exact (fun k_ hk=>Kd.fresh' (R_lt (rm HO_194002.out)) k_ hk))
  (case aO=>exact (rm HO_194001.out))
  (case aS=>exact (below_size (h3 HB.out GE184.out GE185.out GE193.out)))
  (case aL=>have:=LMc24.out;omega)
  intro v196 w28 ho hb hg hat
  rw [← Ny195.out] at ho
  replace HO_194002:=ak (R_after (ok:=(fun _=>True)) (rm (R_mono HO_194002.out (fun _ hk=>⟨trivial,hk⟩))) hg hat)
  replace BK184:=ak (blk_grown (g:=gb184) (o:=.cells #[.int .i64 a0_0,.slice (some ad194) l0_1.length c0_1,.slice A0_2 l0_2.length c0_2] 27 (0,0)) (bm BK184.out) hg (R_ne HO_194001.out BK184.out (by decide)))
  replace BK185:=ak (blk_grown (g:=gb185) (o:=.cells #[.int .i64 0,.slice none 0 0,.slice none 0 0] 27 (0,0)) (bm BK185.out) hg (R_ne HO_194001.out BK185.out (by decide)))
  replace BK193:=ak (blk_grown (g:=gb193) (o:=.cells #[.int .i64 a0_0,u194001,u194002] 27 (0,0)) (bm BK193.out) hg (R_ne HO_194001.out BK193.out (by decide)))
  replace HB:=ak hb
  have HO197:=ak ho
  clear HO_194001
  clear ho hb hg hat
  obtain ⟨Ao29,co29,eo29⟩:=R_slice HO197.out
  (subst eo29)
  refine hK.out _ _ ⟨(blk_cell BK193.out 0).trans rfl,(blk_cell BK193.out 1).trans rfl,(blk_cell BK193.out 2).trans rfl,(blk_cell BK184.out 0).trans rfl,(blk_cell BK184.out 1).trans rfl,(blk_cell BK184.out 2).trans rfl,((HB.out.cell (World.block_lt_of_cell? w _ hw194_0)).trans hw194_0)⟩ (fun hHeld=>?_)
  clear hK K
  refine norm_ (a':=?_) ?_ ?_
  rotate_left
  ·show Act.put _ (some 34) _ = _
   simp only [ap]
   rfl
  refine pq 12 (N:=some 35) (lb 14 8191) HT_ ?_
  refine last_ (i:=13) (N:=none) (lb 14 16383) rfl rfl (one_of HT_.out (by kernel_rfl)) (by decide) (fun K hK=>?_)
  have hs30 : w28.cell? ⟨gb193,1,none⟩ = some (u194001):=(blk_cell BK193.out 1).trans rfl
  have hfs30:=blk_frozen BK193.out 1
  have hns30_0:=NB184_193.out
  have hns30_1:=NB185_193.out
  have hms30_0:=NB193_184.out
  have hms30_1:=NB193_185.out
  refine skip_ (w1:=?_) (by rfl) rfl ?_ ?_
  rotate_left
  ·go_simp
   rfl
  refine hK.out _ _ ?_
  clear hK K
  refine done_ (done_of HT_.out (by kernel_rfl)) ?_
  try go_wp2
  have n0_ : Aside0 (Kd.R (Kd.int .i64) 3 (w28.setCell ⟨gb193,1,none⟩ (.slice Ao29 y195.length co29)) w.heap.size (fun k_=>ob k_ (.slice Ao29 y195.length co29)) u194002 x194002_1):=⟨by (with_reducible repeat (fail));exact R_mono (R_far (p:=⟨gb193,1,none⟩) (R_types HO_194002.out BK193.out (by decide)) (fun _ hk=>hk.2) (.slice Ao29 y195.length co29)) (fun _ hk=>hk.1.2)⟩
  have n1_ : Aside0 (Kd.R (Kd.int .i64) 3 (w28.setCell ⟨gb193,1,none⟩ (.slice Ao29 y195.length co29)) w.heap.size (fun k_=>ob k_ u194002) (.slice Ao29 y195.length co29) y195):=⟨by (with_reducible repeat (fail));exact R_mono (R_far (p:=⟨gb193,1,none⟩) (R_types HO197.out BK193.out (by decide)) (fun _ hk=>hk.2) (.slice Ao29 y195.length co29)) (fun _ hk=>hk.1)⟩
  have n2_ : Aside0 ((w28.setCell ⟨gb193,1,none⟩ (.slice Ao29 y195.length co29)).heap[gb184]? = some (.cells #[.int .i64 a0_0,.slice (some ad194) l0_1.length c0_1,.slice A0_2 l0_2.length c0_2] 27 (0,0))):=⟨by (with_reducible repeat (fail));refine blk_far ?_ NB184_193.out _;exact bm BK184.out⟩
  have n3_ : Aside0 ((w28.setCell ⟨gb193,1,none⟩ (.slice Ao29 y195.length co29)).heap[gb185]? = some (.cells #[.int .i64 0,.slice none 0 0,.slice none 0 0] 27 (0,0))):=⟨by (with_reducible repeat (fail));refine blk_far ?_ NB185_193.out _;exact bm BK185.out⟩
  have n4_ : Aside0 ((w28.setCell ⟨gb193,1,none⟩ (.slice Ao29 y195.length co29)).heap[gb193]? = some (.cells #[.int .i64 a0_0,.slice Ao29 y195.length co29,u194002] 27 (0,0))):=⟨by (with_reducible repeat (fail));refine blk_put (cs:=#[.int .i64 a0_0,u194001,u194002]) ?_ 1 _ rfl;exact bm BK193.out⟩
  have n5_ : Aside0 (Below w.heap.size w (w28.setCell ⟨gb193,1,none⟩ (.slice Ao29 y195.length co29))):=⟨h3 HB.out GE184.out GE185.out GE193.out⟩
  (try clear HO_194002)
  (try clear HO197)
  (try clear BK184)
  (try clear BK185)
  (try clear BK193)
  (try clear HB)
  generalize (w28.setCell ⟨gb193,1,none⟩ (.slice Ao29 y195.length co29)) = w31 at n0_ n1_ n2_ n3_ n4_ n5_ ⊢
  have HO_194002:=n0_
  have HO197:=n1_
  have BK184:=n2_
  have BK185:=n3_
  have BK193:=n4_
  have HB:=n5_
  clear n0_ n1_ n2_ n3_ n4_ n5_
  replace HO_194002:=ak (R_drew HO_194002.out)
  replace HO197:=ak (R_drew HO197.out)
  replace BK184:=ak (blk_drew BK184.out)
  replace BK185:=ak (blk_drew BK185.out)
  replace BK193:=ak (blk_drew BK193.out)
  replace HB:=ak (below_drew1 HB.out)
  have p198 : 0 ≤ (x5_1 : Int):=od
  have q198 : x5_1 < (l0_2.length : Int):=od
  obtain ⟨ad198,e198,hx198_0⟩:=Kd.at_int HR0_2.out x5_1 p198 q198
  have hw198_0:=hx198_0
  cases e198
  replace hx198_0:=(HB.out.cell (World.block_lt_of_cell? w _ hx198_0)).trans hx198_0
  replace p198:=eq_true p198
  replace q198:=eq_true q198
  refine start_ (n:=12) (S:=fun w'=>w'.cell? ⟨gb193,0,none⟩ = some (.int .i64 a0_0) ∧ w'.cell? ⟨gb193,1,none⟩ = some (.slice Ao29 y195.length co29) ∧ w'.cell? ⟨gb193,2,none⟩ = some (u194002) ∧ w'.cell? ⟨gb184,0,none⟩ = some (.int .i64 a0_0) ∧ w'.cell? ⟨gb184,1,none⟩ = some (.slice (some ad194) l0_1.length c0_1) ∧ w'.cell? ⟨gb184,2,none⟩ = some (.slice (some ad198) l0_2.length c0_2) ∧ w'.cell? (ad198.add (x5_1).toNat) = some (.int .i64 (rd l0_2 x5_1))) (ds:=[11]) (lb 12 0) (by kernel_rfl) rfl rfl ⟨(blk_cell BK193.out 0).trans rfl,(blk_cell BK193.out 1).trans rfl,(blk_cell BK193.out 2).trans rfl,(blk_cell BK184.out 0).trans rfl,(blk_cell BK184.out 1).trans rfl,(blk_cell BK184.out 2).trans rfl,((HB.out.cell (World.block_lt_of_cell? w _ hw198_0)).trans hw198_0)⟩ (fun hHeld=>?_);refine with_tabW spec_MirrorWire.tab8 spec_MirrorWire.bits8 (fun HT_ HW_=>?_)
  generalize w31.drew = w32 at HO_194002 HO197 BK184 BK185 BK193 HB hx198_0 hHeld ⊢
  refine pq 0 (N:=some 36) (lb 12 1) HT_ ?_
  refine pq 2 (N:=some 38) (lb 12 5) HT_ ?_
  refine pq 4 (N:=some 40) (lb 12 21) HT_ ?_
  refine take_ (i:=1) (N:=some 37) (v:=?_) (a':=?_) (lb 12 23) rfl rfl (take_ofW HT_.out HW_.out (by kernel_rfl)) (fun _ _ _ h=>h) (Or.inl ⟨by rfl,?_⟩) hHeld ?_ ?_
  rotate_left
  ·rintro w' ⟨s0,s1,s2,s3,s4,s5,s6⟩
   go_simp
   with_reducible rfl
  rotate_left
  ·simp only [ap]
   rfl
  refine take_ (i:=3) (N:=some 39) (v:=?_) (a':=?_) (lb 12 31) rfl rfl (take_ofW HT_.out HW_.out (by kernel_rfl)) (fun _ _ _ h=>h) (Or.inl ⟨by rfl,?_⟩) hHeld ?_ ?_
  rotate_left
  ·rintro w' ⟨s0,s1,s2,s3,s4,s5,s6⟩
   go_simp
   with_reducible rfl
  rotate_left
  ·simp only [ap]
   rfl
  refine pq 5 (N:=some 41) (lb 12 63) HT_ ?_
  refine take_ (i:=6) (N:=some 42) (v:=?_) (a':=?_) (lb 12 127) rfl rfl (take_ofW HT_.out HW_.out (by kernel_rfl)) (fun _ _ _ h=>h) (Or.inl ⟨by rfl,?_⟩) hHeld ?_ ?_
  rotate_left
  ·rintro w' ⟨s0,s1,s2,s3,s4,s5,s6⟩
   go_simp
   with_reducible rfl
  rotate_left
  ·simp only [ap]
   rfl
  refine pq 7 (N:=some 43) (lb 12 255) HT_ ?_
  refine one_ (i:=8) (N:=some 44) (lb 12 511) rfl rfl (one_of HT_.out (by kernel_rfl)) (by decide) (fun K hK=>?_)
  refine value_ (w1:=?_) (v:=?_) (by rfl) rfl ?_ ?_
  rotate_left 2
  ·go_simp
   constructor
   rotate_left
   ·rfl
   rfl
  refine hK.out _ _ ⟨(blk_cell (blk_alloc BK193.out _) 0).trans rfl,(blk_cell (blk_alloc BK193.out _) 1).trans rfl,(blk_cell (blk_alloc BK193.out _) 2).trans rfl,(blk_cell (blk_alloc BK184.out _) 0).trans rfl,(blk_cell (blk_alloc BK184.out _) 1).trans rfl,(blk_cell (blk_alloc BK184.out _) 2).trans rfl,(World.cell?_alloc_lt _ _ _ (World.block_lt_of_cell? _ _ (((HB.out.cell (World.block_lt_of_cell? w _ hw198_0)).trans hw198_0)))).trans (((HB.out.cell (World.block_lt_of_cell? w _ hw198_0)).trans hw198_0))⟩ (fun hHeld=>?_)
  clear hK K
  refine norm_ (a':=?_) ?_ ?_
  rotate_left
  ·show Act.put _ (some 44) _ = _
   simp only [ap]
   rfl
  refine one_ (i:=9) (N:=some 45) (lb 12 1023) rfl rfl (one_of HT_.out (by kernel_rfl)) (by decide) (fun K hK=>?_)
  refine R_append_step (Kd.int .i64) (w0:=w) w.heap.size (by rfl) (.tmp 37) (.tmp 44) 22 3 (.int .i64 0) 8 rfl Try.underlying22 info3 rfl (by decide) (by omega) u194002 x194002_1 (wrap64 (-(rd l0_2 x5_1))) [.int .i64 (wrap64 (-(rd l0_2 x5_1)))] (fun k_=>ob k_ (.slice Ao29 y195.length co29)) (fun _=>False) rfl rfl ?aP (fun _ hk=>hk.elim) ?aF ?aO ?aB ?aS ?aL ?_
  (case aP=>exact rfl)
  (case aB=>exact (h3 HB.out GE184.out GE185.out GE193.out))
  (case aF=>exact (fun k_ hk=>Kd.fresh' (R_lt (rm HO197.out)) k_ hk))
  (case aO=>exact (rm HO_194002.out))
  (case aS=>exact (below_size (h3 HB.out GE184.out GE185.out GE193.out)))
  (case aL=>have:=LMc26.out;omega)
  intro v200 w33 ho hb hg hat
  rw [← Ny199.out] at ho
  replace BK184:=ak (blk_grown (g:=gb184) (o:=.cells #[.int .i64 a0_0,.slice (some ad194) l0_1.length c0_1,.slice (some ad198) l0_2.length c0_2] 27 (0,0)) (bm BK184.out) hg (R_ne HO_194002.out BK184.out (by decide)))
  replace BK185:=ak (blk_grown (g:=gb185) (o:=.cells #[.int .i64 0,.slice none 0 0,.slice none 0 0] 27 (0,0)) (bm BK185.out) hg (R_ne HO_194002.out BK185.out (by decide)))
  replace BK193:=ak (blk_grown (g:=gb193) (o:=.cells #[.int .i64 a0_0,.slice Ao29 y195.length co29,u194002] 27 (0,0)) (bm BK193.out) hg (R_ne HO_194002.out BK193.out (by decide)))
  replace HO197:=ak (R_after (ok:=(fun _=>True)) (rm (R_mono HO197.out (fun _ hk=>⟨trivial,hk⟩))) hg hat)
  replace HB:=ak hb
  have HO201:=ak ho
  clear HO_194002
  clear ho hb hg hat
  obtain ⟨Ao34,co34,eo34⟩:=R_slice HO201.out
  (subst eo34)
  refine hK.out _ _ ⟨(blk_cell BK193.out 0).trans rfl,(blk_cell BK193.out 1).trans rfl,(blk_cell BK193.out 2).trans rfl,(blk_cell BK184.out 0).trans rfl,(blk_cell BK184.out 1).trans rfl,(blk_cell BK184.out 2).trans rfl,((HB.out.cell (World.block_lt_of_cell? w _ hw198_0)).trans hw198_0)⟩ (fun hHeld=>?_)
  clear hK K
  refine norm_ (a':=?_) ?_ ?_
  rotate_left
  ·show Act.put _ (some 45) _ = _
   simp only [ap]
   rfl
  refine pq 10 (N:=some 46) (lb 12 2047) HT_ ?_
  refine last_ (i:=11) (N:=none) (lb 12 4095) rfl rfl (one_of HT_.out (by kernel_rfl)) (by decide) (fun K hK=>?_)
  have hs35 : w33.cell? ⟨gb193,2,none⟩ = some (u194002):=(blk_cell BK193.out 2).trans rfl
  have hfs35:=blk_frozen BK193.out 2
  have hns35_0:=NB184_193.out
  have hns35_1:=NB185_193.out
  have hms35_0:=NB193_184.out
  have hms35_1:=NB193_185.out
  refine skip_ (w1:=?_) (by rfl) rfl ?_ ?_
  rotate_left
  ·go_simp
   rfl
  refine hK.out _ _ ?_
  clear hK K
  refine done_ (done_of HT_.out (by kernel_rfl)) ?_
  try go_wp2
  go_roundg k1
  case measure=>have:=HK1.out;omega
  case rel=>exact ⟨(wrap64 (x5_1 - 1)),(y195),(y199),(.slice Ao29 y195.length co29),(.slice Ao34 y199.length co34),fd,H',⟨by have:=HK1.out;omega⟩,⟨by (with_reducible repeat (fail));exact R_mono (R_far (p:=⟨gb193,2,none⟩) (R_types HO197.out BK193.out (by decide)) (fun _ hk=>hk.2) (.slice Ao34 y199.length co34)) (fun _ hk=>hk.1.2)⟩,⟨by (with_reducible repeat (fail));exact R_mono (R_far (p:=⟨gb193,2,none⟩) (R_types HO201.out BK193.out (by decide)) (fun _ hk=>hk.2) (.slice Ao34 y199.length co34)) (fun _ hk=>hk.1)⟩,⟨by (with_reducible repeat (fail));refine blk_far ?_ NB184_193.out _;exact bm BK184.out⟩,⟨by (with_reducible repeat (fail));refine blk_far ?_ NB185_193.out _;exact bm BK185.out⟩,⟨by (with_reducible repeat (fail));refine blk_put (cs:=#[.int .i64 a0_0,.slice Ao29 y195.length co29,u194002]) ?_ 2 _ rfl;exact bm BK193.out⟩,⟨h3 HB.out GE184.out GE185.out GE193.out⟩⟩


/-! ### mapped_50: mapped over the closure 50 -/
theorem impl_MirrorWire_2.calls (x : Int) (W : World) : Calls Try.prog 50 #[.int .i64 x] W fun e W'=>e = .returned (.int .i64 (wrap64 (-x))) ∧ Drawn0 W W':=by
  go_enter Try.func50,Try.ntmps50
  go_wp2
  go_ret
  exact ⟨by first|rfl|(simp;done)|(simp [*];done),by repeat (exact Drawn0.refl _)⟩
def mapped_50.f (k : Nat) (a0 : List Int) : Option (List Int):=Mapped.f (fun x=>some (wrap64 (-x))) k a0
theorem mapped_50.mono : ∀ a0 k,LeO (mapped_50.f k a0) (mapped_50.f (k + 1) a0):=fun a0 k=>Mapped.mono _ a0 k
theorem mapped_50.calls (k : Nat) (A0 : Option Addr) (c0 : Nat) (l0 : List Int) (r : List Int) (w : World) (hr0 : Kd.C (Kd.int .i64) w A0 l0.length l0) (hc0 : l0.length ≤ c0) (h : mapped_50.f k l0 = some r) :
    Calls Try.prog 48 #[.slice A0 l0.length c0,.func (.func 50) #[] #[]] w fun e w'=>∃ v0_ : Value,e = .returned (v0_) ∧ Kd.R (Kd.int .i64) 3 w' w.heap.size (fun _=>True) v0_ r ∧ Below w.heap.size w w' :=
  Mapped.calls (fun x=>some (wrap64 (-x))) 50 Try.f50 #[] Try.func50 (by kernel_rfl) (by kernel_rfl) k A0 c0 l0 r w (fun x y W _ hg=>by
    obtain rfl:=Option.some.inj hg
    exact impl_MirrorWire_2.calls x W) hr0 hc0 h

/-! ### mapped_49: mapped over the closure 49,which reads the wire's length -/
theorem closure_49 (x a : Int) (g : Nat) (W : World) (hc : W.cell? ⟨g,0,none⟩ = some (.int .i64 a)) : Calls Try.prog 49 #[.int .i64 x,.pointer (some ⟨g,0,none⟩)] W fun e W'=>e = .returned (.int .i64 (wrap64 (a - x))) ∧ Drawn0 W W':=by
  have hu27:=Try.underlying27
  go_enter Try.func49,Try.ntmps49
  go_wp2
  go_ret
  exact ⟨by first|rfl|(simp;done)|(simp [*];done),by repeat (first|exact Drawn0.refl _|apply Drawn0.step)⟩
def mapped_49.f (k : Nat) (a0 : List Int) (a : Int) : Option (List Int):=Mapped.f (fun x=>some (wrap64 (a - x))) k a0
theorem mapped_49.mono : ∀ a0 a k,LeO (mapped_49.f k a0 a) (mapped_49.f (k + 1) a0 a):=fun a0 a k=>Mapped.mono _ a0 k
theorem mapped_49.calls (k : Nat) (A0 : Option Addr) (c0 : Nat) (l0 : List Int) (a : Int) (r : List Int) (w : World) (g : Nat) (hcell : w.cell? ⟨g,0,none⟩ = some (.int .i64 a)) (hr0 : Kd.C (Kd.int .i64) w A0 l0.length l0) (hc0 : l0.length ≤ c0) (h : mapped_49.f k l0 a = some r) :
    Calls Try.prog 48 #[.slice A0 l0.length c0,.func (.func 49) #[] #[.pointer (some ⟨g,0,none⟩)]] w fun e w'=>∃ v0_ : Value,e = .returned (v0_) ∧ Kd.R (Kd.int .i64) 3 w' w.heap.size (fun _=>True) v0_ r ∧ Below w.heap.size w w' :=
  Mapped.calls (fun x=>some (wrap64 (a - x))) 49 Try.f49 #[.pointer (some ⟨g,0,none⟩)] Try.func49 (by kernel_rfl) (by kernel_rfl) k A0 c0 l0 r w (fun x y W hb hg=>by
    obtain rfl:=Option.some.inj hg
    exact closure_49 x a g W ((hb.cell (World.block_lt_of_cell? w _ hcell)).trans hcell)) hr0 hc0 h


end
end Go.Proofs.Ytciihopkgblpkaa.QFnWires
