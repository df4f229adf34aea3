/- Functions that the law FnExactBeadsAt comes to, as Lean functions, with the proof that the Go code does what they say: written by a program of this session over the kit's print. No condition but those named. -/
import Derived.Test.YtciihopkgblpkaaQFnExactBeadsAtx0
namespace Go.Proofs.Ytciihopkgblpkaa.QFnExactBeadsAt
open Go.RowKit Go.Proofs.YtciihopkgblpkaaW.PrintWords Go.Proofs.YtciihopkgblpkaaW.PrintLast Go.Proofs.YtciihopkgblpkaaW.PrintMore Go.Proofs.Ytciihopkgblpkaa.Short
attribute [local go_sem] max2_int min2_int max_two min_two max_three min_three max_four min_four   -- for this text's walks alone
set_option linter.unusedVariables false
set_option linter.unusedSimpArgs false

/-! ### impl_Wire_shades: function 47 -/
section
open Kd
def impl_Wire_shades.l0 : Nat → List Int → List Int → Int → Int → Int → List Int → List Int → Option (List Int)
 | 0,_,_,_,_,_,_,_=>none
 | k + 1,x3,x8,x9,x10,x264000,x264001,x264002=>if x10 < x9 then (if 0 ≤ x10 then (if x10 < (x8.length : Int) then (if x10 < (x264002.length : Int) then (if (rd x264002 x10) < 0 then (if x3.length < 17592186044416 then (impl_Wire_shades.l0 k (x3 ++ [rd x8 x10]) x8 x9 (wrap64 (x10 + 1)) x264000 x264001 x264002) else (none)) else (if x3.length < 17592186044416 then (impl_Wire_shades.l0 k (x3 ++ [wrap64 (x264000 - (rd x8 x10))]) x8 x9 (wrap64 (x10 + 1)) x264000 x264001 x264002) else (none))) else (none)) else (none)) else (none)) else (some x3)
def impl_Wire_shades.f (k : Nat) (a0_0 : Int) (l0_1 : List Int) (l0_2 : List Int) : Option (List Int):=impl_Wire_shades.l0 k (([] : List Int)) l0_1 (l0_1.length : Int) 0 a0_0 l0_1 l0_2
theorem impl_Wire_shades.mono_l : ∀ k,(∀ y0 y1 y2 y3 y4 y5 y6,LeO (impl_Wire_shades.l0 k y0 y1 y2 y3 y4 y5 y6) (impl_Wire_shades.l0 (k + 1) y0 y1 y2 y3 y4 y5 y6))
 | 0=>fun _ _ _ _ _ _ _ r h=>by simp [impl_Wire_shades.l0] at h
 | k + 1=>by
  have ih0:=impl_Wire_shades.mono_l k
  ·intro y0 y1 y2 y3 y4 y5 y6
   unfold impl_Wire_shades.l0
   repeat' first
   | (with_reducible exact ih0 _ _ _ _ _ _ _)
   | (with_reducible exact LeO.refl _)
   | (with_reducible exact LeO.none _)
   | (with_reducible refine LeO.ite ?_ ?_)
   | (with_reducible refine LeO.bind ?_ (fun _=>?_))
   | exact ih0 _ _ _ _ _ _ _
   | exact LeO.none _
   | refine LeO.ite ?_ ?_
   | refine LeO.bind ?_ (fun _=>?_)
theorem impl_Wire_shades.mono : ∀ a0 a1 a2 k,LeO (impl_Wire_shades.f k a0 a1 a2) (impl_Wire_shades.f (k + 1) a0 a1 a2):=by
 intro a0 a1 a2 k
 have ih0:=impl_Wire_shades.mono_l k
 unfold impl_Wire_shades.f
 repeat' first
   | (with_reducible exact ih0 _ _ _ _ _ _ _)
   | (with_reducible exact LeO.refl _)
   | (with_reducible exact LeO.none _)
   | (with_reducible refine LeO.ite ?_ ?_)
   | (with_reducible refine LeO.bind ?_ (fun _=>?_))
   | exact ih0 _ _ _ _ _ _ _
   | exact LeO.none _
   | refine LeO.ite ?_ ?_
   | refine LeO.bind ?_ (fun _=>?_)
set_option maxHeartbeats 8000000 in
set_option maxRecDepth 100000 in
theorem impl_Wire_shades.calls (k : Nat) (a0_0 : Int) (A0_1 : Option Addr) (c0_1 : Nat) (l0_1 : List Int) (A0_2 : Option Addr) (c0_2 : Nat) (l0_2 : List Int) (r : List Int) (w : World) (hr0_1 : Kd.C (Kd.int .i64) w A0_1 l0_1.length l0_1) (hc0_1 : l0_1.length ≤ c0_1) (hr0_2 : Kd.C (Kd.int .i64) w A0_2 l0_2.length l0_2) (hc0_2 : l0_2.length ≤ c0_2) (h : impl_Wire_shades.f k a0_0 l0_1 l0_2 = some r) :
  Calls Try.prog 47 #[.agg #[.int .i64 a0_0,.slice A0_1 l0_1.length c0_1,.slice A0_2 l0_2.length c0_2]] w fun e w'=>∃ v0_ : Value,e = .returned (v0_) ∧ Kd.R (Kd.int .i64) 3 w' w.heap.size (fun _=>True) v0_ r ∧ Below w.heap.size w w':=by
 have hu27:=Try.underlying27
 have HR0_1:=Aside0.mk hr0_1
 have HC0_1:=Aside0.mk hc0_1
 clear hr0_1 hc0_1
 have HR0_2:=Aside0.mk hr0_2
 have HC0_2:=Aside0.mk hc0_2
 clear hr0_2 hc0_2
 have HB:=Aside0.mk (Below.refl w.heap.size w)
 have H : (impl_Wire_shades.l0 k (([] : List Int)) l0_1 (l0_1.length : Int) 0 a0_0 l0_1 l0_2) = some r:=h
 clear h
 obtain ⟨y264,hy264⟩ : ∃ y_ : List Int,y_ = (([] : List Int)):=⟨_,rfl⟩
 replace H : (impl_Wire_shades.l0 k y264 l0_1 (l0_1.length : Int) 0 a0_0 l0_1 l0_2) = some r:=by first|(rw [hy264];with_reducible exact H)|(have H2_:=(Option.bind_some _ _).symm.trans H;rw [hy264];with_reducible exact H2_)|(have H2_:=(Option.bind_some _ _).symm.trans H;with_reducible exact H2_)|with_reducible exact H|(rw [hy264];exact H)|exact H
 have Ny264:=Aside0.mk hy264
 clear hy264
 have H':=Aside0.mk H
 clear H
 go_enter Try.func47,Try.ntmps47
 go_wp2_with (first|((with_reducible refine gate_dst (N:=1) rfl ?_);refine box_event ?hg (N:=1) ?hd (cs:=#[.int .i64 a0_0,.slice A0_1 l0_1.length c0_1,.slice A0_2 l0_2.length c0_2]) (t:=27) ?hr ?_;(case hd=>rfl);(case hg=>rfl);(case hr=>first|(go_simp;done)|(go_simp;rfl));intro gb263 hg w2 hbox hb;have n0_:=Aside0.mk (below_step (hm HB.out) hb);have n1_:=Aside0.mk (hbox);have n2_:=Aside0.mk ((by rw [hg];exact (below_size (hm HB.out)) : w.heap.size ≤ gb263));have n3_:=Aside0.mk ((by rw [hg];exact (below_size (hm HB.out)) : w.heap.size ≤ gb263));clear HB;have HB:=n0_;have BK263:=n1_;have GW263:=n2_;have GE263:=n3_;clear n0_ n1_ n2_ n3_;clear hb hbox hg)|((with_reducible refine gate_dst (N:=6) rfl ?_);refine R_lit (Kd.int .i64) _ 3 ?hg (N:=6) ?hd (xs:=([] : List Int)) (inner:=[]) (ok:=fun _=>True) (okp:=fun _=>True) ?hr ?hp (fun _ hk=>hk) trivial (Below.refl _ _) (Nat.le_refl _) (by simp) ?_;(case hd=>rfl);(case hg=>rfl);(case hr=>first|(go_simp;done)|(go_simp;rfl));(case hp=>exact (Reps.none _ _));intro v265 w3 ho4 hb hg_ hnew_;clear hg_ hnew_;(first|rw [← Ny264.out] at ho4|(simp only [Int.reduceToNat] at ho4;rw [← Ny264.out] at ho4));have n0_:=Aside0.mk (R_lower ho4 (below_size (h1 HB.out GE263.out)));have n1_:=Aside0.mk (blk_below (g:=gb263) (o:=.cells #[.int .i64 a0_0,.slice A0_1 l0_1.length c0_1,.slice A0_2 l0_2.length c0_2] 27 (0,0)) (bm BK263.out) hb);have n2_:=Aside0.mk (below_step (h1 HB.out GE263.out) hb);clear BK263;clear HB;have HO266:=n0_;have BK263:=n1_;have HB:=n2_;clear n0_ n1_ n2_;clear hb ho4;have hcz5_0 : w3.cell? ⟨gb263,0,none⟩ = some (.int .i64 a0_0):=(blk_cell BK263.out 0).trans rfl;have hcz5_1 : w3.cell? ⟨gb263,1,none⟩ = some (.slice A0_1 l0_1.length c0_1):=(blk_cell BK263.out 1).trans rfl;have hcz5_2 : w3.cell? ⟨gb263,2,none⟩ = some (.slice A0_2 l0_2.length c0_2):=(blk_cell BK263.out 2).trans rfl;have hfz5_0:=blk_frozen BK263.out 0;have hfz5_1:=blk_frozen BK263.out 1;have hfz5_2:=blk_frozen BK263.out 2))
 go_loopg [3,10] k (fun kq v3 v10 w'=>∃ (x3_1 : List Int) (x10_1 : Int),v10 = .int .i64 x10_1 ∧ Aside0 (impl_Wire_shades.l0 kq x3_1 l0_1 (l0_1.length : Int) x10_1 a0_0 l0_1 l0_2 = some r) ∧ Aside0 (kq ≤ k) ∧ Aside0 (Kd.R (Kd.int .i64) 3 w' w.heap.size (fun _=>True) v3 x3_1) ∧ Aside0 (w'.heap[gb263]? = some (.cells #[.int .i64 a0_0,(.slice A0_1 l0_1.length c0_1),(.slice A0_2 l0_2.length c0_2)] 27 (0,0))) ∧ Aside0 (Below w.heap.size w w'))
 case atStart=>exact ⟨(y264),(0),(by first|rfl|(simp;done)|(simp [*];done)),H',⟨Nat.le_refl _⟩,⟨rm HO266.out⟩,⟨bm BK263.out⟩,⟨h1 HB.out GE263.out⟩⟩
 clear H'
 try clear p2
 try clear c4
 try clear hcz5_0
 try clear hcz5_1
 try clear hcz5_2
 try clear hfz5_0
 try clear hfz5_1
 try clear hfz5_2
 obtain ⟨x3_1,x10_1,rfl,HA,HK1,HO_3,BK263,HB⟩:=hrel
 cases gk with
 | zero=>exact absurd HA.out (by simp [impl_Wire_shades.l0])
 | succ k1 =>
  have H:=HA.out
  clear HA
  simp only [impl_Wire_shades.l0] at H
  by_cases c6 : x10_1 < (l0_1.length : Int)
  rotate_left
  ·rw [if_neg c6] at H
   have c6b0 : decide (x10_1 < (l0_1.length : Int)) = false:=decide_eq_false c6
   clear c6
   obtain rfl:=Option.some.inj H
   go_wp2
   go_ret
   exact ⟨_,by first|rfl|(simp [errW_none,errW_some] <;> rfl)|(simp [*,errW_none,errW_some] <;> rfl),rm HO_3.out,h1 HB.out GE263.out⟩
  rw [if_pos c6] at H
  have c6b0 : decide (x10_1 < (l0_1.length : Int)) = true:=decide_eq_true c6
  clear c6
  by_cases c7 : 0 ≤ x10_1
  rotate_left
  ·rw [if_neg c7] at H
   exact absurd H (by simp)
  rw [if_pos c7] at H
  have c7b0 : decide (0 ≤ x10_1) = true:=decide_eq_true c7
  clear c7
  by_cases c8 : x10_1 < (l0_1.length : Int)
  rotate_left
  ·rw [if_neg c8] at H
   exact absurd H (by simp)
  rw [if_pos c8] at H
  have c8b0 : decide (x10_1 < (l0_1.length : Int)) = true:=decide_eq_true c8
  clear c8
  by_cases c9 : x10_1 < (l0_2.length : Int)
  rotate_left
  ·rw [if_neg c9] at H
   exact absurd H (by simp)
  rw [if_pos c9] at H
  have c9b0 : decide (x10_1 < (l0_2.length : Int)) = true:=decide_eq_true c9
  clear c9
  by_cases c10 : (rd l0_2 x10_1) < 0
  ·rw [if_pos c10] at H
   have c10b0 : decide ((rd l0_2 x10_1) < 0) = true:=decide_eq_true c10
   clear c10
   by_cases c11 : x3_1.length < 17592186044416
   rotate_left
   ·rw [if_neg c11] at H
    exact absurd H (by simp)
   rw [if_pos c11] at H
   have LMc11:=Aside0.mk c11
   clear c11
   obtain ⟨y269,hy269⟩ : ∃ y_ : List Int,y_ = (x3_1 ++ [rd l0_1 x10_1]):=⟨_,rfl⟩
   replace H : (impl_Wire_shades.l0 k1 y269 l0_1 (l0_1.length : Int) (wrap64 (x10_1 + 1)) a0_0 l0_1 l0_2) = some r:=by first|(rw [hy269];with_reducible exact H)|(have H2_:=(Option.bind_some _ _).symm.trans H;rw [hy269];with_reducible exact H2_)|(have H2_:=(Option.bind_some _ _).symm.trans H;with_reducible exact H2_)|with_reducible exact H|(rw [hy269];exact H)|exact H
   have Ny269:=Aside0.mk hy269
   clear hy269
   have H':=Aside0.mk H
   clear H
   have p267 : 0 ≤ (x10_1 : Int):=od
   have q267 : x10_1 < (l0_1.length : Int):=od
   obtain ⟨ad267,e267,hx267_0⟩:=Kd.at_int HR0_1.out x10_1 p267 q267
   cases e267
   replace hx267_0:=(HB.out.cell (World.block_lt_of_cell? w _ hx267_0)).trans hx267_0
   replace p267:=eq_true p267
   replace q267:=eq_true q267
   have hcz12_0 : wr.cell? ⟨gb263,0,none⟩ = some (.int .i64 a0_0):=(blk_cell BK263.out 0).trans rfl
   have hcz12_1 : wr.cell? ⟨gb263,1,none⟩ = some (.slice (some ad267) l0_1.length c0_1):=(blk_cell BK263.out 1).trans rfl
   have hcz12_2 : wr.cell? ⟨gb263,2,none⟩ = some (.slice A0_2 l0_2.length c0_2):=(blk_cell BK263.out 2).trans rfl
   have hfz12_0:=blk_frozen BK263.out 0
   have hfz12_1:=blk_frozen BK263.out 1
   have hfz12_2:=blk_frozen BK263.out 2
   have p268 : 0 ≤ (x10_1 : Int):=od
   have q268 : x10_1 < (l0_2.length : Int):=od
   obtain ⟨ad268,e268,hx268_0⟩:=Kd.at_int HR0_2.out x10_1 p268 q268
   cases e268
   replace hx268_0:=(HB.out.cell (World.block_lt_of_cell? w _ hx268_0)).trans hx268_0
   replace p268:=eq_true p268
   replace q268:=eq_true q268
   go_wp2_with (first|((with_reducible refine gate_builtin (b:=.append) (xs:=#[.tmp 21,.tmp 23]) rfl ?_);at_builtin;refine R_append (Kd.int .i64) (w0:=w) w.heap.size rfl (.tmp 21) (.tmp 23) 22 3 (.int .i64 0) 8 rfl Try.underlying22 info3 rfl (by decide) (by omega) u3 x3_1 (rd l0_1 x10_1) [.int .i64 (rd l0_1 x10_1)] (fun _=>True) (fun _=>False) rfl rfl ?aP (fun _ hk=>hk.elim) ?aF ?aO ?aB ?aS ?aL ?_;(case aP=>exact rfl);(case aB=>exact (h1 HB.out GE263.out));(case aF=>exact (fun _ _=>trivial));(case aO=>exact (rm HO_3.out));(case aS=>exact (below_size (h1 HB.out GE263.out)));(case aL=>have:=LMc11.out;omega);intro v270 w13 ho hb hg hat;rw [← Ny269.out] at ho;have n0_:=Aside0.mk (blk_grown (g:=gb263) (o:=.cells #[.int .i64 a0_0,.slice (some ad267) l0_1.length c0_1,.slice (some ad268) l0_2.length c0_2] 27 (0,0)) (bm BK263.out) hg (R_ne HO_3.out BK263.out (by decide)));have n1_:=Aside0.mk (hb);have n2_:=Aside0.mk (ho);clear BK263;clear HB;clear HO_3;have BK263:=n0_;have HB:=n1_;have HO271:=n2_;clear n0_ n1_ n2_;clear ho hb hg hat))
   go_roundg k1
   case measure=>have:=HK1.out;omega
   case rel=>exact ⟨(y269),(wrap64 (x10_1 + 1)),(by first|rfl|(simp;done)|(simp [*];done)),H',⟨by have:=HK1.out;omega⟩,⟨rm HO271.out⟩,⟨bm BK263.out⟩,⟨h1 HB.out GE263.out⟩⟩
  rw [if_neg c10] at H
  have c10b0 : decide ((rd l0_2 x10_1) < 0) = false:=decide_eq_false c10
  clear c10
  by_cases c14 : x3_1.length < 17592186044416
  rotate_left
  ·rw [if_neg c14] at H
   exact absurd H (by simp)
  rw [if_pos c14] at H
  have LMc14:=Aside0.mk c14
  clear c14
  obtain ⟨y272,hy272⟩ : ∃ y_ : List Int,y_ = (x3_1 ++ [wrap64 (a0_0 - (rd l0_1 x10_1))]):=⟨_,rfl⟩
  replace H : (impl_Wire_shades.l0 k1 y272 l0_1 (l0_1.length : Int) (wrap64 (x10_1 + 1)) a0_0 l0_1 l0_2) = some r:=by first|(rw [hy272];with_reducible exact H)|(have H2_:=(Option.bind_some _ _).symm.trans H;rw [hy272];with_reducible exact H2_)|(have H2_:=(Option.bind_some _ _).symm.trans H;with_reducible exact H2_)|with_reducible exact H|(rw [hy272];exact H)|exact H
  have Ny272:=Aside0.mk hy272
  clear hy272
  have H':=Aside0.mk H
  clear H
  have p267 : 0 ≤ (x10_1 : Int):=od
  have q267 : x10_1 < (l0_1.length : Int):=od
  obtain ⟨ad267,e267,hx267_0⟩:=Kd.at_int HR0_1.out x10_1 p267 q267
  cases e267
  replace hx267_0:=(HB.out.cell (World.block_lt_of_cell? w _ hx267_0)).trans hx267_0
  replace p267:=eq_true p267
  replace q267:=eq_true q267
  have hcz15_0 : wr.cell? ⟨gb263,0,none⟩ = some (.int .i64 a0_0):=(blk_cell BK263.out 0).trans rfl
  have hcz15_1 : wr.cell? ⟨gb263,1,none⟩ = some (.slice (some ad267) l0_1.length c0_1):=(blk_cell BK263.out 1).trans rfl
  have hcz15_2 : wr.cell? ⟨gb263,2,none⟩ = some (.slice A0_2 l0_2.length c0_2):=(blk_cell BK263.out 2).trans rfl
  have hfz15_0:=blk_frozen BK263.out 0
  have hfz15_1:=blk_frozen BK263.out 1
  have hfz15_2:=blk_frozen BK263.out 2
  have p268 : 0 ≤ (x10_1 : Int):=od
  have q268 : x10_1 < (l0_2.length : Int):=od
  obtain ⟨ad268,e268,hx268_0⟩:=Kd.at_int HR0_2.out x10_1 p268 q268
  cases e268
  replace hx268_0:=(HB.out.cell (World.block_lt_of_cell? w _ hx268_0)).trans hx268_0
  replace p268:=eq_true p268
  replace q268:=eq_true q268
  go_wp2_with (first|((with_reducible refine gate_builtin (b:=.append) (xs:=#[.tmp 25,.tmp 30]) rfl ?_);at_builtin;refine R_append (Kd.int .i64) (w0:=w) w.heap.size rfl (.tmp 25) (.tmp 30) 22 3 (.int .i64 0) 8 rfl Try.underlying22 info3 rfl (by decide) (by omega) u3 x3_1 (wrap64 (a0_0 - (rd l0_1 x10_1))) [.int .i64 (wrap64 (a0_0 - (rd l0_1 x10_1)))] (fun _=>True) (fun _=>False) rfl rfl ?aP (fun _ hk=>hk.elim) ?aF ?aO ?aB ?aS ?aL ?_;(case aP=>exact rfl);(case aB=>exact (h1 HB.out GE263.out));(case aF=>exact (fun _ _=>trivial));(case aO=>exact (rm HO_3.out));(case aS=>exact (below_size (h1 HB.out GE263.out)));(case aL=>have:=LMc14.out;omega);intro v273 w16 ho hb hg hat;rw [← Ny272.out] at ho;have n0_:=Aside0.mk (blk_grown (g:=gb263) (o:=.cells #[.int .i64 a0_0,.slice (some ad267) l0_1.length c0_1,.slice (some ad268) l0_2.length c0_2] 27 (0,0)) (bm BK263.out) hg (R_ne HO_3.out BK263.out (by decide)));have n1_:=Aside0.mk (hb);have n2_:=Aside0.mk (ho);clear BK263;clear HB;clear HO_3;have BK263:=n0_;have HB:=n1_;have HO274:=n2_;clear n0_ n1_ n2_;clear ho hb hg hat))
  go_roundg k1
  case measure=>have:=HK1.out;omega
  case rel=>exact ⟨(y272),(wrap64 (x10_1 + 1)),(by first|rfl|(simp;done)|(simp [*];done)),H',⟨by have:=HK1.out;omega⟩,⟨rm HO274.out⟩,⟨bm BK263.out⟩,⟨h1 HB.out GE263.out⟩⟩

/-! ### slices_Reverse_int_int: function 51 -/
def slices_Reverse_int_int.l0 : Nat → List Int → Int → Int → Option (List Int)
 | 0,_,_,_=>none
 | k + 1,x0,x2,x3=>if x2 < x3 then (if 0 ≤ x3 then (if x3 < (x0.length : Int) then (if 0 ≤ x2 then (if x2 < (x0.length : Int) then (slices_Reverse_int_int.l0 k ((x0.set (x2 : Int).toNat (rd x0 x3)).set (x3 : Int).toNat (rd x0 x2)) (wrap64 (x2 + 1)) (wrap64 (x3 - 1))) else (none)) else (none)) else (none)) else (none)) else (some x0)
def slices_Reverse_int_int.f (k : Nat) (l0 : List Int) : Option (List Int):=slices_Reverse_int_int.l0 k l0 0 (wrap64 ((l0.length : Int) - 1))
theorem slices_Reverse_int_int.mono_l : ∀ k,(∀ y0 y1 y2,LeO (slices_Reverse_int_int.l0 k y0 y1 y2) (slices_Reverse_int_int.l0 (k + 1) y0 y1 y2))
 | 0=>fun _ _ _ r h=>by simp [slices_Reverse_int_int.l0] at h
 | k + 1=>by
  have ih0:=slices_Reverse_int_int.mono_l k
  ·intro y0 y1 y2
   unfold slices_Reverse_int_int.l0
   repeat' first
   | (with_reducible exact ih0 _ _ _)
   | (with_reducible exact LeO.refl _)
   | (with_reducible exact LeO.none _)
   | (with_reducible refine LeO.ite ?_ ?_)
   | (with_reducible refine LeO.bind ?_ (fun _=>?_))
   | exact ih0 _ _ _
   | exact LeO.none _
   | refine LeO.ite ?_ ?_
   | refine LeO.bind ?_ (fun _=>?_)
theorem slices_Reverse_int_int.mono : ∀ a0 k,LeO (slices_Reverse_int_int.f k a0) (slices_Reverse_int_int.f (k + 1) a0):=by
 intro a0 k
 have ih0:=slices_Reverse_int_int.mono_l k
 unfold slices_Reverse_int_int.f
 repeat' first
   | (with_reducible exact ih0 _ _ _)
   | (with_reducible exact LeO.refl _)
   | (with_reducible exact LeO.none _)
   | (with_reducible refine LeO.ite ?_ ?_)
   | (with_reducible refine LeO.bind ?_ (fun _=>?_))
   | exact ih0 _ _ _
   | exact LeO.none _
   | refine LeO.ite ?_ ?_
   | refine LeO.bind ?_ (fun _=>?_)
def slices_Reverse_int_int.T3 : Bool × List (List Nat × List Nat):=(true,[([],[]),([],[]),([],[]),([],[]),([],[]),([],[]),([4,5],[4,5]),([6],[6]),([],[]),([],[]),([8,9],[8,9]),([10],[10]),([0,1,0,1,4,5,6,7,11],[0,1]),([12,7,0,1,4,5,6,7,11],[7,12]),([2,3,0,1,2,3,4,5,6,7,8,9,10,11,12,13],[2,3]),([14,11,13,0,1,2,3,4,5,6,7,8,9,10,11,12,13],[11,14])])
def slices_Reverse_int_int.B3 : List Nat:=[0,0,0,0,0,0,48,112,0,0,768,1792,4083,8179,16383,32767]
theorem slices_Reverse_int_int.tab3 : rtab .any (opsOf Try.f51 3) = slices_Reverse_int_int.T3:=by kernel_rfl
theorem slices_Reverse_int_int.bits3 : waitsOk slices_Reverse_int_int.T3.2 slices_Reverse_int_int.B3 = true:=by kernel_rfl
set_option maxHeartbeats 8000000 in
set_option maxRecDepth 100000 in
theorem slices_Reverse_int_int.calls (k : Nat) (P0_ : Nat → Prop) (u9000_ : Value) (l0 : List Int) (r : List Int) (w0 w : World) (hB : Below w0.heap.size w0 w) (ho0 : Kd.R (Kd.int .i64) 3 w w0.heap.size P0_ u9000_ l0) (h : slices_Reverse_int_int.f k l0 = some r) :
  Calls Try.prog 51 #[u9000_] w fun e w'=>e = .returned (.tuple #[]) ∧ Kd.R (Kd.int .i64) 3 w' w0.heap.size (fun k_=>(P0_ k_ ∨ w.heap.size ≤ k_)) u9000_ r ∧ Below w0.heap.size w0 w' ∧ Kept w w' (fun k_=>P0_ k_):=by
 have HO0:=Aside0.mk (show Kd.R (Kd.int .i64) 3 w w0.heap.size (fun k_=>(P0_ k_ ∨ w.heap.size ≤ k_)) u9000_ l0 from R_mono ho0 (fun k_ hk=>(.inl hk)))
 have HK:=Aside0.mk (Kept.refl w (fun k_=>P0_ k_))
 have HW0:=Aside0.mk hB.size
 have HB:=Aside0.mk hB
 clear hB
 have H : (slices_Reverse_int_int.l0 k l0 0 (wrap64 ((l0.length : Int) - 1))) = some r:=h
 clear h
 have H':=Aside0.mk H
 clear H
 obtain ⟨Ao2,co2,eo2⟩:=R_slice HO0.out
 subst eo2
 go_enter Try.func51,Try.ntmps51
 go_wp2
 go_loopg [2,3] k (fun kq v2 v3 w'=>∃ (x0_1 : List Int) (x2_1 : Int) (x3_1 : Int),v2 = .int .i64 x2_1 ∧ v3 = .int .i64 x3_1 ∧ Aside0 (slices_Reverse_int_int.l0 kq x0_1 x2_1 x3_1 = some r) ∧ Aside0 (kq ≤ k) ∧ Aside0 (Kd.R (Kd.int .i64) 3 w' w0.heap.size (fun k_=>(P0_ k_ ∨ w.heap.size ≤ k_)) (.slice Ao2 l0.length co2) x0_1) ∧ Aside0 (Kept w w' (fun k_=>P0_ k_)) ∧ Aside0 (Below w0.heap.size w0 w'))
 case atStart=>exact ⟨(l0),(0),(wrap64 ((l0.length : Int) - 1)),(by first|rfl|(simp;done)|(simp [*];done)),(by first|rfl|(simp;done)|(simp [*];done)),H',⟨Nat.le_refl _⟩,⟨rm HO0.out⟩,⟨by repeat (first|(with_reducible first|exact HK.out|apply Kept.alloc|apply Kept.drewN|apply Kept.drew)|exact HK.out)⟩,⟨hm HB.out⟩⟩
 clear H'
 try clear p2
 obtain ⟨x0_1,x2_1,x3_1,rfl,rfl,HA,HK1,HO_0,HK,HB⟩:=hrel
 have hl0_1:=(R_reads' HO_0.out).1
 rw [hl0_1] at HO_0
 (try simp only [hl0_1])
 cases gk with
 | zero=>exact absurd HA.out (by simp [slices_Reverse_int_int.l0])
 | succ k1 =>
  have H:=HA.out
  clear HA
  simp only [slices_Reverse_int_int.l0] at H
  by_cases c3 : x2_1 < x3_1
  rotate_left
  ·rw [if_neg c3] at H
   have c3b0 : decide (x2_1 < x3_1) = false:=decide_eq_false c3
   clear c3
   obtain rfl:=Option.some.inj H
   go_wp2
   first|go_end0|((try simp only [Exit.inBlock,Exit.then]);refine bodyPost_ret (results_none rfl _ _ _) rfl ?_)
   exact ⟨by first|rfl|(simp [errW_none,errW_some] <;> rfl)|(simp [*,errW_none,errW_some] <;> rfl),(by first|exact (rm HO_0.out)|(simp only [hl0_1];exact (rm HO_0.out))),hm HB.out,by repeat (first|(with_reducible first|exact HK.out|apply Kept.alloc|apply Kept.drewN|apply Kept.drew)|exact HK.out)⟩
  rw [if_pos c3] at H
  have c3b0 : decide (x2_1 < x3_1) = true:=decide_eq_true c3
  clear c3
  by_cases c4 : 0 ≤ x3_1
  rotate_left
  ·rw [if_neg c4] at H
   exact absurd H (by simp)
  rw [if_pos c4] at H
  have c4b0 : decide (0 ≤ x3_1) = true:=decide_eq_true c4
  clear c4
  by_cases c5 : x3_1 < (x0_1.length : Int)
  rotate_left
  ·rw [if_neg c5] at H
   exact absurd H (by simp)
  rw [if_pos c5] at H
  have c5b0 : decide (x3_1 < (x0_1.length : Int)) = true:=decide_eq_true c5
  (try simp only [hl0_1] at c5b0)
  clear c5
  by_cases c6 : 0 ≤ x2_1
  rotate_left
  ·rw [if_neg c6] at H
   exact absurd H (by simp)
  rw [if_pos c6] at H
  have c6b0 : decide (0 ≤ x2_1) = true:=decide_eq_true c6
  clear c6
  by_cases c7 : x2_1 < (x0_1.length : Int)
  rotate_left
  ·rw [if_neg c7] at H
   exact absurd H (by simp)
  rw [if_pos c7] at H
  have c7b0 : decide (x2_1 < (x0_1.length : Int)) = true:=decide_eq_true c7
  (try simp only [hl0_1] at c7b0)
  clear c7
  obtain ⟨y277,hy277⟩ : ∃ y_ : List Int,y_ = (x0_1.set (x2_1 : Int).toNat (rd x0_1 x3_1)):=⟨_,rfl⟩
  replace H : (slices_Reverse_int_int.l0 k1 (y277.set (x3_1 : Int).toNat (rd x0_1 x2_1)) (wrap64 (x2_1 + 1)) (wrap64 (x3_1 - 1))) = some r:=by first|(rw [hy277];with_reducible exact H)|(have H2_:=(Option.bind_some _ _).symm.trans H;rw [hy277];with_reducible exact H2_)|(have H2_:=(Option.bind_some _ _).symm.trans H;with_reducible exact H2_)|with_reducible exact H|(rw [hy277];exact H)|exact H
  have Ny277:=Aside0.mk hy277
  clear hy277
  obtain ⟨y278,hy278⟩ : ∃ y_ : List Int,y_ = (y277.set (x3_1 : Int).toNat (rd x0_1 x2_1)):=⟨_,rfl⟩
  replace H : (slices_Reverse_int_int.l0 k1 y278 (wrap64 (x2_1 + 1)) (wrap64 (x3_1 - 1))) = some r:=by first|(rw [hy278];with_reducible exact H)|(have H2_:=(Option.bind_some _ _).symm.trans H;rw [hy278];with_reducible exact H2_)|(have H2_:=(Option.bind_some _ _).symm.trans H;with_reducible exact H2_)|with_reducible exact H|(rw [hy278];exact H)|exact H
  have Ny278:=Aside0.mk hy278
  clear hy278
  have H':=Aside0.mk H
  clear H
  try go_wp2
  have n0_:=Aside0.mk (R_drew HO_0.out)
  have n1_:=Aside0.mk (Kept.drew HK.out)
  have n2_:=Aside0.mk (below_drew1 HB.out)
  clear HO_0
  clear HK
  clear HB
  have HO_0:=n0_
  have HK:=n1_
  have HB:=n2_
  clear n0_ n1_ n2_
  have p275 : 0 ≤ (x3_1 : Int):=od
  have q275 : x3_1 < (x0_1.length : Int):=od
  obtain ⟨ad275,e275,hx275_0⟩:=Kd.at_int (R_reads' HO_0.out).2.2 x3_1 p275 q275
  cases e275
  replace p275:=eq_true p275
  replace q275:=eq_true q275
  have p276 : 0 ≤ (x2_1 : Int):=od
  have q276 : x2_1 < (x0_1.length : Int):=od
  obtain ⟨ad276,e276,hx276_0⟩:=Kd.at_int (R_reads' HO_0.out).2.2 x2_1 p276 q276
  obtain rfl : ad275 = ad276:=(by injection e276)
  replace p276:=eq_true p276
  replace q276:=eq_true q276
  have p8 : 0 ≤ (x2_1 : Int):=od
  have q8 : (x2_1 : Int) < ((x0_1.length : Int) : Int):=od
  obtain ⟨go8,co8,eo8,gb8,gl8,cl8,HG8⟩:=R_form HO_0.out (by omega)
  (first|cases eo8|(injection eo8 with ea_ en_ ec_;(first|subst ea_|(injection ea_ with ea_;subst ea_));subst ec_;clear en_))
  have GB8:=Aside0.mk gb8
  have GG8:=Aside0.mk HG8
  clear gb8 gl8 HG8
  have HMgo8:=Aside0.mk (show (P0_ go8 ∨ w.heap.size ≤ go8) from (HO_0.out.1 _ rfl))
  (first|simp only [add_plain] at hx275_0|skip)
  (first|simp only [add_plain] at hx276_0|skip)
  obtain ⟨hx8_0,hf8_0⟩:=R_celln 0 HO_0.out (x2_1 : Int) p8 q8
  replace p8:=eq_true p8
  replace q8:=eq_true q8
  have HP11:=R_putn HO_0.out (x2_1 : Int) (rd x0_1 x3_1)
  rw [← Ny277.out] at HP11
  have HQ11:=Aside0.mk HP11
  clear HP11
  have p9 : 0 ≤ (x3_1 : Int):=od
  have q9 : (x3_1 : Int) < ((x0_1.length : Int) : Int):=od
  obtain ⟨hx9_0,hf9_0⟩:=R_celln 0 HQ11.out (x3_1 : Int) p9 q9
  replace p9:=eq_true p9
  replace q9:=eq_true q9
  have HP12:=R_putn HQ11.out (x3_1 : Int) (rd x0_1 x2_1)
  rw [← Ny278.out] at HP12
  have HQ12:=Aside0.mk HP12
  clear HP12
  refine start_ (n:=16) (S:=fun w'=>w'.cell? ⟨go8,(x3_1).toNat,none⟩ = some (.int .i64 (rd x0_1 x3_1)) ∧ w'.cell? ⟨go8,(x2_1).toNat,none⟩ = some (.int .i64 (rd x0_1 x2_1))) (ds:=[13,15]) (lb 16 0) (by kernel_rfl) rfl rfl ⟨hx275_0,hx276_0⟩ (fun hHeld=>?_);refine with_tabW slices_Reverse_int_int.tab3 slices_Reverse_int_int.bits3 (fun HT_ HW_=>?_)
  generalize wr.drew = w10 at HO_0 HK HB GG8 HQ11 HQ12 hf8_0 hf9_0 hx275_0 hx276_0 hx8_0 hx9_0 hHeld ⊢
  refine pu 0 (N:=some 14) (v:=?_) (a':=?_) (lb 16 1) HT_ (by kernel_rfl) rfl rfl rfl (fun _ _ _ h=>h) ?_ ?_ ?_
  rotate_left
  ·intro w'
   go_simp
   with_reducible rfl
  rotate_left
  ·simp only [ap]
   rfl
  refine pu 1 (N:=some 15) (v:=?_) (a':=?_) (lb 16 3) HT_ (by kernel_rfl) rfl rfl rfl (fun _ _ _ h=>h) ?_ ?_ ?_
  rotate_left
  ·intro w'
   go_simp
   with_reducible rfl
  rotate_left
  ·simp only [ap]
   rfl
  refine pu 2 (N:=some 16) (v:=?_) (a':=?_) (lb 16 7) HT_ (by kernel_rfl) rfl rfl rfl (fun _ _ _ h=>h) ?_ ?_ ?_
  rotate_left
  ·intro w'
   go_simp
   with_reducible rfl
  rotate_left
  ·simp only [ap]
   rfl
  refine pu 3 (N:=some 17) (v:=?_) (a':=?_) (lb 16 15) HT_ (by kernel_rfl) rfl rfl rfl (fun _ _ _ h=>h) ?_ ?_ ?_
  rotate_left
  ·intro w'
   go_simp
   with_reducible rfl
  rotate_left
  ·simp only [ap]
   rfl
  refine pu 4 (N:=some 18) (v:=?_) (a':=?_) (lb 16 31) HT_ (by kernel_rfl) rfl rfl rfl (fun _ _ _ h=>h) ?_ ?_ ?_
  rotate_left
  ·intro w'
   go_simp
   with_reducible rfl
  rotate_left
  ·simp only [ap]
   rfl
  refine pu 5 (N:=some 19) (v:=?_) (a':=?_) (lb 16 63) HT_ (by kernel_rfl) rfl rfl rfl (fun _ _ _ h=>h) ?_ ?_ ?_
  rotate_left
  ·intro w'
   go_simp
   with_reducible rfl
  rotate_left
  ·simp only [ap]
   rfl
  refine pu 6 (N:=some 20) (v:=?_) (a':=?_) (lb 16 127) HT_ (by kernel_rfl) rfl rfl rfl (fun _ _ _ h=>h) ?_ ?_ ?_
  rotate_left
  ·intro w'
   go_simp
   with_reducible rfl
  rotate_left
  ·simp only [ap]
   rfl
  refine pu 8 (N:=some 22) (v:=?_) (a':=?_) (lb 16 383) HT_ (by kernel_rfl) rfl rfl rfl (fun _ _ _ h=>h) ?_ ?_ ?_
  rotate_left
  ·intro w'
   go_simp
   with_reducible rfl
  rotate_left
  ·simp only [ap]
   rfl
  refine pu 9 (N:=some 23) (v:=?_) (a':=?_) (lb 16 895) HT_ (by kernel_rfl) rfl rfl rfl (fun _ _ _ h=>h) ?_ ?_ ?_
  rotate_left
  ·intro w'
   go_simp
   with_reducible rfl
  rotate_left
  ·simp only [ap]
   rfl
  refine pu 10 (N:=some 24) (v:=?_) (a':=?_) (lb 16 1919) HT_ (by kernel_rfl) rfl rfl rfl (fun _ _ _ h=>h) ?_ ?_ ?_
  rotate_left
  ·intro w'
   go_simp
   with_reducible rfl
  rotate_left
  ·simp only [ap]
   rfl
  refine take_ (i:=7) (N:=some 21) (v:=?_) (a':=?_) (lb 16 2047) rfl rfl (take_ofW HT_.out HW_.out (by kernel_rfl)) (fun _ _ _ h=>h) (Or.inl ⟨by rfl,?_⟩) hHeld ?_ ?_
  rotate_left
  ·rintro w' ⟨s0,s1⟩
   go_simp
   with_reducible rfl
  rotate_left
  ·simp only [ap]
   rfl
  refine take_ (i:=11) (N:=some 25) (v:=?_) (a':=?_) (lb 16 4095) rfl rfl (take_ofW HT_.out HW_.out (by kernel_rfl)) (fun _ _ _ h=>h) (Or.inl ⟨by rfl,?_⟩) hHeld ?_ ?_
  rotate_left
  ·rintro w' ⟨s0,s1⟩
   go_simp
   with_reducible rfl
  rotate_left
  ·simp only [ap]
   rfl
  refine pu 12 (N:=some 26) (v:=?_) (a':=?_) (lb 16 8191) HT_ (by kernel_rfl) rfl rfl rfl (fun _ _ _ h=>h) ?_ ?_ ?_
  rotate_left
  ·intro w'
   go_simp
   with_reducible rfl
  rotate_left
  ·simp only [ap]
   rfl
  refine last_ (i:=13) (N:=none) (lb 16 16383) rfl rfl (one_of HT_.out (by kernel_rfl)) (by decide) (fun K hK=>?_)
  refine skip_ (w1:=?_) (by rfl) rfl ?_ ?_
  rotate_left
  ·go_simp
   rfl
  refine hK.out _ _ ?_
  clear hK K
  refine pu 14 (N:=some 27) (v:=?_) (a':=?_) (lb 16 32767) HT_ (by kernel_rfl) rfl rfl rfl (fun _ _ _ h=>h) ?_ ?_ ?_
  rotate_left
  ·intro w'
   go_simp
   with_reducible rfl
  rotate_left
  ·simp only [ap]
   rfl
  refine last_ (i:=15) (N:=none) (lb 16 65535) rfl rfl (one_of HT_.out (by kernel_rfl)) (by decide) (fun K hK=>?_)
  refine skip_ (w1:=?_) (by rfl) rfl ?_ ?_
  rotate_left
  ·go_simp
   rfl
  refine hK.out _ _ ?_
  clear hK K
  refine done_ (done_of HT_.out (by kernel_rfl)) ?_
  try go_wp2
  (try simp only [← hl0_1])
  go_roundg k1
  case measure=>have:=HK1.out;omega
  case rel=>exact ⟨(y278),(wrap64 (x2_1 + 1)),(wrap64 (x3_1 - 1)),(by first|rfl|(simp;done)|(simp [*];done)),(by first|rfl|(simp;done)|(simp [*];done)),H',⟨by have:=HK1.out;omega⟩,⟨by (try simp only [hl0_1]);(with_reducible repeat (first|apply R_alloc|apply R_drewN|apply R_drew));exact HQ12.out⟩,⟨by repeat (first|(with_reducible first|exact HK.out|apply Kept.alloc|apply Kept.drewN|apply Kept.drew|refine Kept.setCell ?_ HMgo8.out _|refine Kept.setCell ?_ HMgo8.out _)|exact HK.out)⟩,⟨by repeat (first|(with_reducible first|exact HB.out|apply below_alloc|apply pw_below_drewN|apply below_drew1|refine below_set ?_ GB8.out|refine below_set ?_ GB8.out)|exact HB.out)⟩⟩

/-! ### cmp_isNaN_int: function 84 -/
def cmp_isNaN_int.f (a0 : Int) : Option (Bool):=some (a0 != a0)
set_option maxHeartbeats 8000000 in
set_option maxRecDepth 100000 in
theorem cmp_isNaN_int.calls (a0 : Int) (r : Bool) (w : World) (h : cmp_isNaN_int.f a0 = some r) :
  Calls Try.prog 84 #[.int .i64 a0] w fun e w'=>e = .returned (.bool r) ∧ Drawn0 w w':=by
 have H : (some (a0 != a0)) = some r:=h
 clear h
 obtain rfl:=Option.some.inj H
 go_enter Try.func84,Try.ntmps84
 go_wp2
 go_ret
 exact ⟨by first|rfl|(simp;done)|(simp [*];done),by repeat (first|exact Drawn0.refl _|apply Drawn0.step)⟩

/-! ### cmp_Less_int: function 71 -/
def cmp_Less_int.f (a0 : Int) (a1 : Int) : Option (Bool):=(cmp_isNaN_int.f a0).bind fun t279=>(if t279 = true then ((cmp_isNaN_int.f a1).bind fun t280=>(if t280 = true then (some (decide (a0 < a1))) else (some true))) else (some (decide (a0 < a1))))
set_option maxHeartbeats 8000000 in
set_option maxRecDepth 100000 in
theorem cmp_Less_int.calls (a0 : Int) (a1 : Int) (r : Bool) (w : World) (h : cmp_Less_int.f a0 a1 = some r) :
  Calls Try.prog 71 #[.int .i64 a0,.int .i64 a1] w fun e w'=>e = .returned (.bool r) ∧ Drawn0 w w':=by
 have H : ((cmp_isNaN_int.f a0).bind fun t279=>(if t279 = true then ((cmp_isNaN_int.f a1).bind fun t280=>(if t280 = true then (some (decide (a0 < a1))) else (some true))) else (some (decide (a0 < a1))))) = some r:=h
 clear h
 replace H:=Option.bind_eq_some_iff.mp H
 obtain ⟨t279,A30,H⟩:=H
 replace H : (if t279 = true then ((cmp_isNaN_int.f a1).bind fun t280=>(if t280 = true then (some (decide (a0 < a1))) else (some true))) else (some (decide (a0 < a1)))) = some r:=H
 have A3:=Aside0.mk A30
 clear A30
 by_cases c4 : t279 = true
 rotate_left
 ·replace c4:=Bool.eq_false_iff.mpr c4
  subst c4
  have H1 : (some (decide (a0 < a1))) = some r:=by rw [if_neg (show ¬ (false = true) by decide)] at H;exact H
  clear H
  have H:=H1
  clear H1
  obtain rfl:=Option.some.inj H
  go_enter Try.func71,Try.ntmps71
  go_wp2_with (first|((with_reducible refine gate_callee (f:=84) rfl ?_);refine goesL_ (some 6) rfl rfl Try.func84 (by kernel_rfl) rfl #[.int .i64 a0] rfl (by (try simp only [List.map_toArray,List.map_cons,List.map_nil]);first|done|rfl|(simp only [List.length_drop,List.length_take];rfl)) ?_;(with_reducible refine (cmp_isNaN_int.calls a0 false _ A3.out).mono ?_);rintro e w' ⟨rfl,⟨nd,rfl⟩⟩;refine ⟨_,rfl,?_⟩))
  go_ret
  exact ⟨by first|rfl|(simp;done)|(simp [*];done),by repeat (first|exact Drawn0.refl _|apply Drawn0.step)⟩
 subst c4
 have H1 : ((cmp_isNaN_int.f a1).bind fun t280=>(if t280 = true then (some (decide (a0 < a1))) else (some true))) = some r:=by rw [if_pos rfl] at H;exact H
 clear H
 have H:=H1
 clear H1
 replace H:=Option.bind_eq_some_iff.mp H
 obtain ⟨t280,A50,H⟩:=H
 replace H : (if t280 = true then (some (decide (a0 < a1))) else (some true)) = some r:=H
 have A5:=Aside0.mk A50
 clear A50
 by_cases c6 : t280 = true
 ·subst c6
  have H1 : (some (decide (a0 < a1))) = some r:=by rw [if_pos rfl] at H;exact H
  clear H
  have H:=H1
  clear H1
  obtain rfl:=Option.some.inj H
  go_enter Try.func71,Try.ntmps71
  go_wp2_with (first|((with_reducible refine gate_callee (f:=84) rfl ?_);refine goesL_ (some 6) rfl rfl Try.func84 (by kernel_rfl) rfl #[.int .i64 a0] rfl (by (try simp only [List.map_toArray,List.map_cons,List.map_nil]);first|done|rfl|(simp only [List.length_drop,List.length_take];rfl)) ?_;(with_reducible refine (cmp_isNaN_int.calls a0 true _ A3.out).mono ?_);rintro e w' ⟨rfl,⟨nd,rfl⟩⟩;refine ⟨_,rfl,?_⟩)|(go_at_call 84;(with_reducible refine (cmp_isNaN_int.calls a1 true _ A5.out).mono ?_);rintro e w' ⟨rfl,⟨nd,rfl⟩⟩))
  go_ret
  exact ⟨by first|rfl|(simp;done)|(simp [*];done),by repeat (first|exact Drawn0.refl _|apply Drawn0.step)⟩
 replace c6:=Bool.eq_false_iff.mpr c6
 subst c6
 have H1 : (some true) = some r:=by rw [if_neg (show ¬ (false = true) by decide)] at H;exact H
 clear H
 have H:=H1
 clear H1
 obtain rfl:=Option.some.inj H
 go_enter Try.func71,Try.ntmps71
 go_wp2_with (first|((with_reducible refine gate_callee (f:=84) rfl ?_);refine goesL_ (some 6) rfl rfl Try.func84 (by kernel_rfl) rfl #[.int .i64 a0] rfl (by (try simp only [List.map_toArray,List.map_cons,List.map_nil]);first|done|rfl|(simp only [List.length_drop,List.length_take];rfl)) ?_;(with_reducible refine (cmp_isNaN_int.calls a0 true _ A3.out).mono ?_);rintro e w' ⟨rfl,⟨nd,rfl⟩⟩;refine ⟨_,rfl,?_⟩)|(go_at_call 84;(with_reducible refine (cmp_isNaN_int.calls a1 false _ A5.out).mono ?_);rintro e w' ⟨rfl,⟨nd,rfl⟩⟩))
 go_ret
 exact ⟨by first|rfl|(simp;done)|(simp [*];done),by repeat (first|exact Drawn0.refl _|apply Drawn0.step)⟩


end
end Go.Proofs.Ytciihopkgblpkaa.QFnExactBeadsAt
