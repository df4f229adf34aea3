/- Functions that the law FnWires comes to, and their walks: no condition but those named. -/
import Derived.Test.YtciihopkgblpkaaQFnWiresx0
import Derived.Test.YtciihopkgblpkaaQFnWiresx11
import Derived.Test.YtciihopkgblpkaaQFnWiresx12
import Derived.Test.YtciihopkgblpkaaQFnWiresx13
namespace Go.Proofs.Ytciihopkgblpkaa.QFnWires
open Go.RowKit Go.Proofs.YtciihopkgblpkaaW.PrintWords Go.Proofs.YtciihopkgblpkaaW.PrintLast Go.Proofs.YtciihopkgblpkaaW.PrintMore Go.Proofs.Ytciihopkgblpkaa.Short
attribute [local go_sem] max2_int min2_int max_two min_two max_three min_three max_four min_four
set_option linter.unusedVariables false
set_option linter.unusedSimpArgs false

section
open Kd
/-! ### spec_DrawIsWire: function 55 -/
def spec_DrawIsWire.f (k : Nat) (l0 : List Int) : Option (Int × List Int × List Int):=(spec_l1Cur_wire.f k l0 0 0).bind fun bt478=>(some (bt478.1,bt478.2.1,bt478.2.2.1))
theorem spec_DrawIsWire.mono : ∀ a0 k,LeO (spec_DrawIsWire.f k a0) (spec_DrawIsWire.f (k + 1) a0):=by
 intro a0 k
 unfold spec_DrawIsWire.f
 repeat' first
   | (with_reducible exact spec_l1Cur_wire.mono _ _ _ _)
   | (with_reducible exact LeO.refl _)
   | (with_reducible exact LeO.none _)
   | (with_reducible refine LeO.ite ?_ ?_)
   | (with_reducible refine LeO.bind ?_ (fun _=>?_))
   | exact spec_l1Cur_wire.mono _ _ _ _
   | exact LeO.none _
   | refine LeO.ite ?_ ?_
   | refine LeO.bind ?_ (fun _=>?_)
set_option maxHeartbeats 8000000 in
set_option maxRecDepth 100000 in
theorem spec_DrawIsWire.calls (k : Nat) (A0 : Option Addr) (c0 : Nat) (l0 : List Int) (r1 : Int) (r2 : List Int) (r3 : List Int) (w : World) (hr0 : Kd.C (Kd.int .u8) w A0 l0.length l0) (hc0 : l0.length ≤ c0) (h : spec_DrawIsWire.f k l0 = some (r1,r2,r3)) :
  Calls Try.prog 55 #[.slice A0 l0.length c0] w fun e w'=>∃ v1_ v2_ : Value,e = .returned (.agg #[.int .i64 r1,v1_,v2_]) ∧ Kd.R (Kd.int .i64) 3 w' w.heap.size (fun k_=>ob k_ v2_) v1_ r2 ∧ Kd.R (Kd.int .i64) 3 w' w.heap.size (fun k_=>ob k_ v1_) v2_ r3 ∧ Below w.heap.size w w':=by
 have hu27:=Try.underlying27
 have hu64:=Try.underlying64
 have HR0:=Aside0.mk hr0
 have HC0:=Aside0.mk hc0
 clear hr0 hc0
 have HB:=Aside0.mk (Below.refl w.heap.size w)
 have H : ((spec_l1Cur_wire.f k l0 0 0).bind fun bt478=>(some (bt478.1,bt478.2.1,bt478.2.2.1))) = some (r1,r2,r3):=h
 clear h
 replace H:=Option.bind_eq_some_iff.mp H
 obtain ⟨⟨t478,t479,t482,t485,t486⟩,A20,H⟩:=H
 (try dsimp only at H)
 have A2:=Aside0.mk A20
 clear A20
 simp only [Option.some.injEq,Prod.mk.injEq] at H
 obtain ⟨rfl,rfl,rfl⟩:=H
 go_enter Try.func55,Try.ntmps55
 go_wp2_with (first|((with_reducible refine gate_dst (N:=2) rfl ?_);refine box_event ?hg (N:=2) ?hd (cs:=#[.int .i64 0,.slice none 0 0,.slice none 0 0]) (t:=27) ?hr ?_;(case hd=>rfl);(case hg=>rfl);(case hr=>first|(go_simp;done)|(go_simp;rfl));intro gb476 hg w3 hbox hb;have BK476:=ak hbox;have GW476:=ak ((by rw [hg];exact (below_size (hm HB.out)) : w.heap.size ≤ gb476));have GE476:=ak ((by rw [hg];exact (below_size (hm HB.out)) : w.heap.size ≤ gb476));replace HB:=bs HB hb;clear hb hbox hg)|((with_reducible refine gate_dst (N:=6) rfl ?_);refine box_event ?hg (N:=6) ?hd (cs:=#[.slice A0 l0.length c0,.int .i64 0,.int .u64 0]) (t:=64) ?hr ?_;(case hd=>rfl);(case hg=>rfl);(case hr=>first|(go_simp;done)|(go_simp;rfl));intro gb477 hg w4 hbox hb;have NB476_477:=ak ((by rw [hg];exact Nat.ne_of_lt (blk_lt (g:=gb476) (o:=.cells #[.int .i64 0,.slice none 0 0,.slice none 0 0] 27 (0,0)) (bm BK476.out)) : gb476 ≠ gb477));have NB477_476:=ak ((by rw [hg];exact Nat.ne_of_gt (blk_lt (g:=gb476) (o:=.cells #[.int .i64 0,.slice none 0 0,.slice none 0 0] 27 (0,0)) (bm BK476.out)) : gb477 ≠ gb476));replace BK476:=kb BK476 hb;have HI477:=ak ((⟨_,_,hbox,(by rw [hg];exact (below_size (h1 HB.out GE476.out)) : w.heap.size ≤ gb477),HR0.out⟩ : IsS64 w w4 gb477 l0 0 0));replace HB:=ak (below_step (h1 HB.out GE476.out) hb);clear hb hbox hg)|((with_reducible refine gate_callee (f:=56) rfl ?_);refine goesL_ (some 8) rfl rfl Try.func56 (by kernel_rfl) rfl #[.pointer (some ⟨gb477,0,none⟩)] rfl gl ?_;(with_reducible refine (spec_l1Cur_wire.calls k gb477 l0 0 0 t478 t479 t482 t485 t486 w _ ?side1 ?side2 A2.out).mono ?_);(case side1=>exact IsS64.now HI477.out);(case side2=>exact h2 HB.out (IsS64.ge HI477.out) GE476.out);rintro e w5 ⟨v480,v483,rfl,ho0,ho1,hi,hb,hk⟩;refine ⟨_,rfl,?_⟩;replace BK476:=ak (KeepBut.blk hk (g':=gb476) (o:=.cells #[.int .i64 0,.slice none 0 0,.slice none 0 0] 27 (0,0)) (bm BK476.out) NB476_477.out (by simp));have HO481:=ak (R_lower ho0 (below_size (h2 HB.out (IsS64.ge HI477.out) GE476.out)));have HO484:=ak (R_lower ho1 (below_size (h2 HB.out (IsS64.ge HI477.out) GE476.out)));replace HB:=ak hb;replace HI477:=ak hi;(try clear hb);(try clear hk);(try clear hi);(try clear ho0);(try clear ho1);have hnb6:=NB476_477.out;have hnc6:=NB477_476.out;have hcz7_0 : w5.cell? ⟨gb476,0,none⟩ = some (.int .i64 0):=(blk_cell BK476.out 0).trans rfl;have hcz7_1 : w5.cell? ⟨gb476,1,none⟩ = some (.slice none 0 0):=(blk_cell BK476.out 1).trans rfl;have hcz7_2 : w5.cell? ⟨gb476,2,none⟩ = some (.slice none 0 0):=(blk_cell BK476.out 2).trans rfl;have hfz7_0:=blk_frozen BK476.out 0;have hfz7_1:=blk_frozen BK476.out 1;have hfz7_2:=blk_frozen BK476.out 2;obtain ⟨Ao8,co8,eo8⟩:=R_slice HO481.out;subst eo8;obtain ⟨Ao9,co9,eo9⟩:=R_slice HO484.out;subst eo9))
 refine bodyPost_ret (results_cell_row rfl _ _ gb476 27 #[.int .i64 t478,.slice Ao8 t479.length co8,.slice Ao9 t482.length co9] (0,0) _ rfl (by (with_reducible repeat (fail));refine blk_put (cs:=#[.int .i64 t478,.slice Ao8 t479.length co8,.slice none 0 0]) ?_ 2 _ rfl;(with_reducible repeat (fail));refine blk_put (cs:=#[.int .i64 t478,.slice none 0 0,.slice none 0 0]) ?_ 1 _ rfl;(with_reducible repeat (fail));refine blk_put (cs:=#[.int .i64 0,.slice none 0 0,.slice none 0 0]) ?_ 0 _ rfl;exact bm BK476.out) Try.underlying27 rfl (by kernel_rfl)) rfl ?_
 exact ⟨_,_,fe,by (with_reducible repeat (fail));exact R_mono (R_far (p:=⟨gb476,2,none⟩) (R_far (p:=⟨gb476,1,none⟩) (R_far (p:=⟨gb476,0,none⟩) (R_types HO481.out BK476.out (by decide)) (fun _ hk=>hk.2) (.int .i64 t478)) (fun _ hk=>hk.2) (.slice Ao8 t479.length co8)) (fun _ hk=>hk.2) (.slice Ao9 t482.length co9)) (fun _ hk=>hk.1),by (with_reducible repeat (fail));exact R_mono (R_far (p:=⟨gb476,2,none⟩) (R_far (p:=⟨gb476,1,none⟩) (R_far (p:=⟨gb476,0,none⟩) (R_types HO484.out BK476.out (by decide)) (fun _ hk=>hk.2) (.int .i64 t478)) (fun _ hk=>hk.2) (.slice Ao8 t479.length co8)) (fun _ hk=>hk.2) (.slice Ao9 t482.length co9)) (fun _ hk=>hk.1),h2 HB.out (IsS64.ge HI477.out) GE476.out⟩

/-! ### spec_DrawFallsOf: function 34 -/
def spec_DrawFallsOf.f (k : Nat) (l0 : List Int) : Option (Int × List Int × List Int):=(spec_DrawIsWire.f k l0).bind fun bt488=>(some (bt488.1,bt488.2.1,bt488.2.2))
theorem spec_DrawFallsOf.mono : ∀ a0 k,LeO (spec_DrawFallsOf.f k a0) (spec_DrawFallsOf.f (k + 1) a0):=by
 intro a0 k
 unfold spec_DrawFallsOf.f
 repeat' first
   | (with_reducible exact spec_DrawIsWire.mono _ _)
   | (with_reducible exact LeO.refl _)
   | (with_reducible exact LeO.none _)
   | (with_reducible refine LeO.ite ?_ ?_)
   | (with_reducible refine LeO.bind ?_ (fun _=>?_))
   | exact spec_DrawIsWire.mono _ _
   | exact LeO.none _
   | refine LeO.ite ?_ ?_
   | refine LeO.bind ?_ (fun _=>?_)
set_option maxHeartbeats 8000000 in
set_option maxRecDepth 100000 in
theorem spec_DrawFallsOf.calls (k : Nat) (A0 : Option Addr) (c0 : Nat) (l0 : List Int) (r1 : Int) (r2 : List Int) (r3 : List Int) (w : World) (hr0 : Kd.C (Kd.int .u8) w A0 l0.length l0) (hc0 : l0.length ≤ c0) (h : spec_DrawFallsOf.f k l0 = some (r1,r2,r3)) :
  Calls Try.prog 34 #[.slice A0 l0.length c0] w fun e w'=>∃ v1_ v2_ : Value,e = .returned (.agg #[.int .i64 r1,v1_,v2_]) ∧ Kd.R (Kd.int .i64) 3 w' w.heap.size (fun k_=>ob k_ v2_) v1_ r2 ∧ Kd.R (Kd.int .i64) 3 w' w.heap.size (fun k_=>ob k_ v1_) v2_ r3 ∧ Below w.heap.size w w':=by
 have hu27:=Try.underlying27
 have HR0:=Aside0.mk hr0
 have HC0:=Aside0.mk hc0
 clear hr0 hc0
 have HB:=Aside0.mk (Below.refl w.heap.size w)
 have H : ((spec_DrawIsWire.f k l0).bind fun bt488=>(some (bt488.1,bt488.2.1,bt488.2.2))) = some (r1,r2,r3):=h
 clear h
 replace H:=Option.bind_eq_some_iff.mp H
 obtain ⟨⟨t488,t489,t492⟩,A20,H⟩:=H
 (try dsimp only at H)
 have A2:=Aside0.mk A20
 clear A20
 simp only [Option.some.injEq,Prod.mk.injEq] at H
 obtain ⟨rfl,rfl,rfl⟩:=H
 go_enter Try.func34,Try.ntmps34
 go_wp2_with (first|((with_reducible refine gate_dst (N:=2) rfl ?_);refine box_event ?hg (N:=2) ?hd (cs:=#[.int .i64 0,.slice none 0 0,.slice none 0 0]) (t:=27) ?hr ?_;(case hd=>rfl);(case hg=>rfl);(case hr=>first|(go_simp;done)|(go_simp;rfl));intro gb487 hg w3 hbox hb;have BK487:=ak hbox;have GW487:=ak ((by rw [hg];exact (below_size (hm HB.out)) : w.heap.size ≤ gb487));have GE487:=ak ((by rw [hg];exact (below_size (hm HB.out)) : w.heap.size ≤ gb487));replace HB:=bs HB hb;clear hb hbox hg)|((with_reducible refine gate_callee (f:=55) rfl ?_);refine goesL_ (some 4) rfl rfl Try.func55 (by kernel_rfl) rfl #[.slice A0 l0.length c0] rfl gl ?_;(with_reducible refine (spec_DrawIsWire.calls k _ _ l0 t488 t489 t492 _ ?side1 ?side2 A2.out).mono ?_);(case side1=>exact cm (C_below HR0.out HB.out));(case side2=>exact HC0.out);rintro e w4 ⟨v490,v493,rfl,ho0,ho1,hb⟩;refine ⟨_,rfl,?_⟩;have HO491:=ak (R_lower ho0 (below_size (h1 HB.out GE487.out)));have HO494:=ak (R_lower ho1 (below_size (h1 HB.out GE487.out)));replace BK487:=kb BK487 hb;replace HB:=ak (below_step (h1 HB.out GE487.out) hb);(try clear hb);(try clear ho0);(try clear ho1);have hcz5_0 : w4.cell? ⟨gb487,0,none⟩ = some (.int .i64 0):=(blk_cell BK487.out 0).trans rfl;have hcz5_1 : w4.cell? ⟨gb487,1,none⟩ = some (.slice none 0 0):=(blk_cell BK487.out 1).trans rfl;have hcz5_2 : w4.cell? ⟨gb487,2,none⟩ = some (.slice none 0 0):=(blk_cell BK487.out 2).trans rfl;have hfz5_0:=blk_frozen BK487.out 0;have hfz5_1:=blk_frozen BK487.out 1;have hfz5_2:=blk_frozen BK487.out 2;obtain ⟨Ao6,co6,eo6⟩:=R_slice HO491.out;subst eo6;obtain ⟨Ao7,co7,eo7⟩:=R_slice HO494.out;subst eo7))
 refine bodyPost_ret (results_cell_row rfl _ _ gb487 27 #[.int .i64 t488,.slice Ao6 t489.length co6,.slice Ao7 t492.length co7] (0,0) _ rfl (by (with_reducible repeat (fail));refine blk_put (cs:=#[.int .i64 t488,.slice Ao6 t489.length co6,.slice none 0 0]) ?_ 2 _ rfl;(with_reducible repeat (fail));refine blk_put (cs:=#[.int .i64 t488,.slice none 0 0,.slice none 0 0]) ?_ 1 _ rfl;(with_reducible repeat (fail));refine blk_put (cs:=#[.int .i64 0,.slice none 0 0,.slice none 0 0]) ?_ 0 _ rfl;exact bm BK487.out) Try.underlying27 rfl (by kernel_rfl)) rfl ?_
 exact ⟨_,_,fe,by (with_reducible repeat (fail));exact R_mono (R_far (p:=⟨gb487,2,none⟩) (R_far (p:=⟨gb487,1,none⟩) (R_far (p:=⟨gb487,0,none⟩) (R_types HO491.out BK487.out (by decide)) (fun _ hk=>hk.2) (.int .i64 t488)) (fun _ hk=>hk.2) (.slice Ao6 t489.length co6)) (fun _ hk=>hk.2) (.slice Ao7 t492.length co7)) (fun _ hk=>hk.1),by (with_reducible repeat (fail));exact R_mono (R_far (p:=⟨gb487,2,none⟩) (R_far (p:=⟨gb487,1,none⟩) (R_far (p:=⟨gb487,0,none⟩) (R_types HO494.out BK487.out (by decide)) (fun _ hk=>hk.2) (.int .i64 t488)) (fun _ hk=>hk.2) (.slice Ao6 t489.length co6)) (fun _ hk=>hk.2) (.slice Ao7 t492.length co7)) (fun _ hk=>hk.1),h1 HB.out GE487.out⟩

/-! ### laws_rInts: function 35 -/
def laws_rInts.l0 : Nat → List Int → List Int → Int → Option (Bool)
 | 0,_,_,_=>none
 | k + 1,x0,x1,x5=>if x5 < (x0.length : Int) then (if 0 ≤ x5 then (if x5 < (x1.length : Int) then (if (rd x0 x5) = (rd x1 x5) then (laws_rInts.l0 k x0 x1 (wrap64 (x5 + 1))) else (some false)) else (none)) else (none)) else (some true)
def laws_rInts.f (k : Nat) (l0 : List Int) (l1 : List Int) : Option (Bool):=if (l0.length : Int) = (l1.length : Int) then (laws_rInts.l0 k l0 l1 0) else (some false)
theorem laws_rInts.mono_l : ∀ k,(∀ y0 y1 y2,LeO (laws_rInts.l0 k y0 y1 y2) (laws_rInts.l0 (k + 1) y0 y1 y2))
 | 0=>by
  refine ?_<;>(intros;intro r h;simp [laws_rInts.l0] at h)
 | k + 1=>by
  have ih0:=laws_rInts.mono_l k
  refine ?_<;>intros<;>(first|unfold laws_rInts.l0)<;>(repeat' first|(with_reducible exact ih0 ..)|(with_reducible exact LeO.refl _)|(with_reducible exact LeO.none _)|(with_reducible refine LeO.ite ?_ ?_)|(with_reducible refine LeO.bind ?_ (fun _=>?_))|exact ih0 ..|exact LeO.none _|refine LeO.ite ?_ ?_|refine LeO.bind ?_ (fun _=>?_))
theorem laws_rInts.mono : ∀ a0 a1 k,LeO (laws_rInts.f k a0 a1) (laws_rInts.f (k + 1) a0 a1):=by
 intro a0 a1 k
 have ih0:=laws_rInts.mono_l k
 unfold laws_rInts.f
 repeat' first
   | (with_reducible exact ih0 _ _ _)
   | (with_reducible exact LeO.refl _)
   | (with_reducible exact LeO.none _)
   | (with_reducible refine LeO.ite ?_ ?_)
   | (with_reducible refine LeO.bind ?_ (fun _=>?_))
   | exact ih0 _ _ _
   | exact LeO.none _
   | refine LeO.ite ?_ ?_
   | refine LeO.bind ?_ (fun _=>?_)
set_option maxHeartbeats 8000000 in
set_option maxRecDepth 100000 in
theorem laws_rInts.calls (k : Nat) (A0 : Option Addr) (c0 : Nat) (l0 : List Int) (A1 : Option Addr) (c1 : Nat) (l1 : List Int) (r : Bool) (w : World) (hr0 : Kd.C (Kd.int .i64) w A0 l0.length l0) (hc0 : l0.length ≤ c0) (hr1 : Kd.C (Kd.int .i64) w A1 l1.length l1) (hc1 : l1.length ≤ c1) (h : laws_rInts.f k l0 l1 = some r) :
  Calls Try.prog 35 #[.slice A0 l0.length c0,.slice A1 l1.length c1] w fun e w'=>e = .returned (.bool r) ∧ Drawn0 w w':=by
 have HR0:=Aside0.mk hr0
 have HC0:=Aside0.mk hc0
 clear hr0 hc0
 have HR1:=Aside0.mk hr1
 have HC1:=Aside0.mk hc1
 clear hr1 hc1
 have H : (if (l0.length : Int) = (l1.length : Int) then (laws_rInts.l0 k l0 l1 0) else (some false)) = some r:=h
 clear h
 by_cases c3 : (l0.length : Int) = (l1.length : Int)
 rotate_left
 ·rw [if_neg c3] at H
  have c3b0 : ((l0.length : Int) == (l1.length : Int)) = false:=beq_eq_false_iff_ne.mpr c3
  have c3b1 : ((l0.length : Int) != (l1.length : Int)) = true:=bne_iff_ne.mpr c3
  have c3b2 : (l0.length == l1.length) = false:=by first|simpa using c3|(simp at c3 ⊢;omega)
  obtain rfl:=Option.some.inj H
  go_enter Try.func35,Try.ntmps35
  go_wp2
  go_ret
  exact ⟨by first|rfl|(simp;done)|(simp [*];done),by repeat (exact Drawn0.refl _)⟩
 rw [if_pos c3] at H
 have c3b0 : ((l0.length : Int) == (l1.length : Int)) = true:=beq_iff_eq.mpr c3
 have c3b1 : ((l0.length : Int) != (l1.length : Int)) = false:=bne_eq_false_iff_eq.mpr c3
 have c3b2 : (l0.length == l1.length) = true:=by first|simpa using c3|(simp at c3 ⊢;omega)
 clear c3
 have H':=Aside0.mk H
 clear H
 go_enter Try.func35,Try.ntmps35
 go_wp2
 go_loopg [5] k (fun kq v5 w'=>∃ (x5_1 : Int),v5 = .int .i64 x5_1 ∧ Aside0 (laws_rInts.l0 kq l0 l1 x5_1 = some r) ∧ Aside0 (kq ≤ k) ∧ Drawn0 w w')
 case atStart=>exact ⟨(0),fd,H',⟨Nat.le_refl _⟩,by repeat (exact Drawn0.refl _)⟩
 clear H'
 clear c3b0 c3b1 c3b2
 obtain ⟨x5_1,rfl,HA,HK1,⟨m1,rfl⟩⟩:=hrel
 cases gk with
 | zero=>exact absurd HA.out (by simp [laws_rInts.l0])
 | succ k1 =>
  have H:=HA.out
  clear HA
  simp only [laws_rInts.l0] at H
  by_cases c4 : x5_1 < (l0.length : Int)
  rotate_left
  ·rw [if_neg c4] at H
   have c4b0 : decide (x5_1 < (l0.length : Int)) = false:=decide_eq_false c4
   clear c4
   obtain rfl:=Option.some.inj H
   go_wp2
   go_ret
   exact ⟨by first|rfl|(simp;done)|(simp [*];done),by repeat (first|exact Drawn0.refl _|apply Drawn0.step)⟩
  rw [if_pos c4] at H
  have c4b0 : decide (x5_1 < (l0.length : Int)) = true:=decide_eq_true c4
  clear c4
  by_cases c5 : 0 ≤ x5_1
  rotate_left
  ·rw [if_neg c5] at H
   exact absurd H (by simp)
  rw [if_pos c5] at H
  have c5b0 : decide (0 ≤ x5_1) = true:=decide_eq_true c5
  clear c5
  by_cases c6 : x5_1 < (l1.length : Int)
  rotate_left
  ·rw [if_neg c6] at H
   exact absurd H (by simp)
  rw [if_pos c6] at H
  have c6b0 : decide (x5_1 < (l1.length : Int)) = true:=decide_eq_true c6
  clear c6
  by_cases c7 : (rd l0 x5_1) = (rd l1 x5_1)
  rotate_left
  ·rw [if_neg c7] at H
   have c7b0 : ((rd l0 x5_1) == (rd l1 x5_1)) = false:=beq_eq_false_iff_ne.mpr c7
   have c7b1 : ((rd l0 x5_1) != (rd l1 x5_1)) = true:=bne_iff_ne.mpr c7
   obtain rfl:=Option.some.inj H
   have p495 : 0 ≤ (x5_1 : Int):=od
   have q495 : x5_1 < (l0.length : Int):=od
   obtain ⟨ad495,e495,hx495_0⟩:=Kd.at_int HR0.out x5_1 p495 q495
   cases e495
   replace p495:=eq_true p495
   replace q495:=eq_true q495
   have p496 : 0 ≤ (x5_1 : Int):=od
   have q496 : x5_1 < (l1.length : Int):=od
   obtain ⟨ad496,e496,hx496_0⟩:=Kd.at_int HR1.out x5_1 p496 q496
   cases e496
   replace p496:=eq_true p496
   replace q496:=eq_true q496
   go_wp2
   repeat (go_quiet (fail);try go_wp2)
   go_ret
   exact ⟨by first|rfl|(simp;done)|(simp [*];done),by repeat (first|exact Drawn0.refl _|apply Drawn0.step)⟩
  rw [if_pos c7] at H
  have c7b0 : ((rd l0 x5_1) == (rd l1 x5_1)) = true:=beq_iff_eq.mpr c7
  have c7b1 : ((rd l0 x5_1) != (rd l1 x5_1)) = false:=bne_eq_false_iff_eq.mpr c7
  clear c7
  have H':=Aside0.mk H
  clear H
  have p495 : 0 ≤ (x5_1 : Int):=od
  have q495 : x5_1 < (l0.length : Int):=od
  obtain ⟨ad495,e495,hx495_0⟩:=Kd.at_int HR0.out x5_1 p495 q495
  cases e495
  replace p495:=eq_true p495
  replace q495:=eq_true q495
  have p496 : 0 ≤ (x5_1 : Int):=od
  have q496 : x5_1 < (l1.length : Int):=od
  obtain ⟨ad496,e496,hx496_0⟩:=Kd.at_int HR1.out x5_1 p496 q496
  cases e496
  replace p496:=eq_true p496
  replace q496:=eq_true q496
  go_wp2
  repeat (go_quiet (fail);try go_wp2)
  go_roundg k1
  case measure=>have:=HK1.out;omega
  case rel=>exact ⟨(wrap64 (x5_1 + 1)),fd,H',⟨by have:=HK1.out;omega⟩,by repeat (first|exact Drawn0.refl _|apply Drawn0.step)⟩

/-! ### laws_rWire: function 36 -/
def laws_rWire.f (k : Nat) (a0_0 : Int) (l0_1 : List Int) (l0_2 : List Int) (a1_0 : Int) (l1_1 : List Int) (l1_2 : List Int) : Option (Bool):=if a0_0 = a1_0 then ((laws_rInts.f k l0_1 l1_1).bind fun t499=>(if t499 = true then ((laws_rInts.f k l0_2 l1_2).bind fun t500=>(some t500)) else (some false))) else (some false)
theorem laws_rWire.mono : ∀ a0 a1 a2 a3 a4 a5 k,LeO (laws_rWire.f k a0 a1 a2 a3 a4 a5) (laws_rWire.f (k + 1) a0 a1 a2 a3 a4 a5):=by
 intro a0 a1 a2 a3 a4 a5 k
 unfold laws_rWire.f
 repeat' first
   | (with_reducible exact laws_rInts.mono _ _ _)
   | (with_reducible exact LeO.refl _)
   | (with_reducible exact LeO.none _)
   | (with_reducible refine LeO.ite ?_ ?_)
   | (with_reducible refine LeO.bind ?_ (fun _=>?_))
   | exact laws_rInts.mono _ _ _
   | exact LeO.none _
   | refine LeO.ite ?_ ?_
   | refine LeO.bind ?_ (fun _=>?_)
set_option maxHeartbeats 8000000 in
set_option maxRecDepth 100000 in
theorem laws_rWire.calls (k : Nat) (a0_0 : Int) (A0_1 : Option Addr) (c0_1 : Nat) (l0_1 : List Int) (A0_2 : Option Addr) (c0_2 : Nat) (l0_2 : List Int) (a1_0 : Int) (A1_1 : Option Addr) (c1_1 : Nat) (l1_1 : List Int) (A1_2 : Option Addr) (c1_2 : Nat) (l1_2 : List Int) (r : Bool) (w : World) (hr0_1 : Kd.C (Kd.int .i64) w A0_1 l0_1.length l0_1) (hc0_1 : l0_1.length ≤ c0_1) (hr0_2 : Kd.C (Kd.int .i64) w A0_2 l0_2.length l0_2) (hc0_2 : l0_2.length ≤ c0_2) (hr1_1 : Kd.C (Kd.int .i64) w A1_1 l1_1.length l1_1) (hc1_1 : l1_1.length ≤ c1_1) (hr1_2 : Kd.C (Kd.int .i64) w A1_2 l1_2.length l1_2) (hc1_2 : l1_2.length ≤ c1_2) (h : laws_rWire.f k a0_0 l0_1 l0_2 a1_0 l1_1 l1_2 = some r) :
  Calls Try.prog 36 #[.agg #[.int .i64 a0_0,.slice A0_1 l0_1.length c0_1,.slice A0_2 l0_2.length c0_2],.agg #[.int .i64 a1_0,.slice A1_1 l1_1.length c1_1,.slice A1_2 l1_2.length c1_2]] w fun e w'=>e = .returned (.bool r) ∧ Below w.heap.size w w':=by
 have hu27:=Try.underlying27
 have HR0_1:=Aside0.mk hr0_1
 have HC0_1:=Aside0.mk hc0_1
 clear hr0_1 hc0_1
 have HR0_2:=Aside0.mk hr0_2
 have HC0_2:=Aside0.mk hc0_2
 clear hr0_2 hc0_2
 have HR1_1:=Aside0.mk hr1_1
 have HC1_1:=Aside0.mk hc1_1
 clear hr1_1 hc1_1
 have HR1_2:=Aside0.mk hr1_2
 have HC1_2:=Aside0.mk hc1_2
 clear hr1_2 hc1_2
 have HB:=Aside0.mk (Below.refl w.heap.size w)
 have H : (if a0_0 = a1_0 then ((laws_rInts.f k l0_1 l1_1).bind fun t499=>(if t499 = true then ((laws_rInts.f k l0_2 l1_2).bind fun t500=>(some t500)) else (some false))) else (some false)) = some r:=h
 clear h
 by_cases c3 : a0_0 = a1_0
 rotate_left
 ·rw [if_neg c3] at H
  have c3b0 : (a0_0 == a1_0) = false:=beq_eq_false_iff_ne.mpr c3
  have c3b1 : (a0_0 != a1_0) = true:=bne_iff_ne.mpr c3
  obtain rfl:=Option.some.inj H
  go_enter Try.func36,Try.ntmps36
  go_wp2_with (first|((with_reducible refine gate_dst (N:=2) rfl ?_);refine box_event ?hg (N:=2) ?hd (cs:=#[.int .i64 a0_0,.slice A0_1 l0_1.length c0_1,.slice A0_2 l0_2.length c0_2]) (t:=27) ?hr ?_;(case hd=>rfl);(case hg=>rfl);(case hr=>first|(go_simp;done)|(go_simp;rfl));intro gb497 hg w17 hbox hb;have BK497:=ak hbox;have GW497:=ak ((by rw [hg];exact (below_size (hm HB.out)) : w.heap.size ≤ gb497));have GE497:=ak ((by rw [hg];exact (below_size (hm HB.out)) : w.heap.size ≤ gb497));replace HB:=bs HB hb;clear hb hbox hg)|((with_reducible refine gate_dst (N:=3) rfl ?_);refine box_event ?hg (N:=3) ?hd (cs:=#[.int .i64 a1_0,.slice A1_1 l1_1.length c1_1,.slice A1_2 l1_2.length c1_2]) (t:=27) ?hr ?_;(case hd=>rfl);(case hg=>rfl);(case hr=>first|(go_simp;done)|(go_simp;rfl));intro gb498 hg w18 hbox hb;have BK498:=ak hbox;have GW498:=ak ((by rw [hg];exact (below_size (h1 HB.out GE497.out)) : w.heap.size ≤ gb498));have GE498:=ak ((by rw [hg];exact (below_size (h1 HB.out GE497.out)) : w.heap.size ≤ gb498));replace HB:=ak (below_step (h1 HB.out GE497.out) hb);have NB497_498:=ak ((by rw [hg];exact Nat.ne_of_lt (blk_lt (g:=gb497) (o:=.cells #[.int .i64 a0_0,.slice A0_1 l0_1.length c0_1,.slice A0_2 l0_2.length c0_2] 27 (0,0)) (bm BK497.out)) : gb497 ≠ gb498));have NB498_497:=ak ((by rw [hg];exact Nat.ne_of_gt (blk_lt (g:=gb497) (o:=.cells #[.int .i64 a0_0,.slice A0_1 l0_1.length c0_1,.slice A0_2 l0_2.length c0_2] 27 (0,0)) (bm BK497.out)) : gb498 ≠ gb497));replace BK497:=kb BK497 hb;clear hb hbox hg;have hnb19:=NB497_498.out;have hnc19:=NB498_497.out;have hcz20_0 : w18.cell? ⟨gb497,0,none⟩ = some (.int .i64 a0_0):=(blk_cell BK497.out 0).trans rfl;have hcz20_1 : w18.cell? ⟨gb497,1,none⟩ = some (.slice A0_1 l0_1.length c0_1):=(blk_cell BK497.out 1).trans rfl;have hcz20_2 : w18.cell? ⟨gb497,2,none⟩ = some (.slice A0_2 l0_2.length c0_2):=(blk_cell BK497.out 2).trans rfl;have hfz20_0:=blk_frozen BK497.out 0;have hfz20_1:=blk_frozen BK497.out 1;have hfz20_2:=blk_frozen BK497.out 2;have hcz21_0 : w18.cell? ⟨gb498,0,none⟩ = some (.int .i64 a1_0):=(blk_cell BK498.out 0).trans rfl;have hcz21_1 : w18.cell? ⟨gb498,1,none⟩ = some (.slice A1_1 l1_1.length c1_1):=(blk_cell BK498.out 1).trans rfl;have hcz21_2 : w18.cell? ⟨gb498,2,none⟩ = some (.slice A1_2 l1_2.length c1_2):=(blk_cell BK498.out 2).trans rfl;have hfz21_0:=blk_frozen BK498.out 0;have hfz21_1:=blk_frozen BK498.out 1;have hfz21_2:=blk_frozen BK498.out 2))
  go_ret
  exact ⟨fe,h2 HB.out GE497.out GE498.out⟩
 rw [if_pos c3] at H
 have c3b0 : (a0_0 == a1_0) = true:=beq_iff_eq.mpr c3
 have c3b1 : (a0_0 != a1_0) = false:=bne_eq_false_iff_eq.mpr c3
 clear c3
 replace H:=Option.bind_eq_some_iff.mp H
 obtain ⟨t499,A40,H⟩:=H
 have A4:=Aside0.mk A40
 clear A40
 by_cases c5 : t499 = true
 rotate_left
 ·replace c5:=Bool.eq_false_iff.mpr c5
  subst c5
  rw [if_neg (show ¬ (false = true) by decide)] at H
  obtain rfl:=Option.some.inj H
  go_enter Try.func36,Try.ntmps36
  go_wp2_with (first|((with_reducible refine gate_dst (N:=2) rfl ?_);refine box_event ?hg (N:=2) ?hd (cs:=#[.int .i64 a0_0,.slice A0_1 l0_1.length c0_1,.slice A0_2 l0_2.length c0_2]) (t:=27) ?hr ?_;(case hd=>rfl);(case hg=>rfl);(case hr=>first|(go_simp;done)|(go_simp;rfl));intro gb497 hg w12 hbox hb;have BK497:=ak hbox;have GW497:=ak ((by rw [hg];exact (below_size (hm HB.out)) : w.heap.size ≤ gb497));have GE497:=ak ((by rw [hg];exact (below_size (hm HB.out)) : w.heap.size ≤ gb497));replace HB:=bs HB hb;clear hb hbox hg)|((with_reducible refine gate_dst (N:=3) rfl ?_);refine box_event ?hg (N:=3) ?hd (cs:=#[.int .i64 a1_0,.slice A1_1 l1_1.length c1_1,.slice A1_2 l1_2.length c1_2]) (t:=27) ?hr ?_;(case hd=>rfl);(case hg=>rfl);(case hr=>first|(go_simp;done)|(go_simp;rfl));intro gb498 hg w13 hbox hb;have BK498:=ak hbox;have GW498:=ak ((by rw [hg];exact (below_size (h1 HB.out GE497.out)) : w.heap.size ≤ gb498));have GE498:=ak ((by rw [hg];exact (below_size (h1 HB.out GE497.out)) : w.heap.size ≤ gb498));replace HB:=ak (below_step (h1 HB.out GE497.out) hb);have NB497_498:=ak ((by rw [hg];exact Nat.ne_of_lt (blk_lt (g:=gb497) (o:=.cells #[.int .i64 a0_0,.slice A0_1 l0_1.length c0_1,.slice A0_2 l0_2.length c0_2] 27 (0,0)) (bm BK497.out)) : gb497 ≠ gb498));have NB498_497:=ak ((by rw [hg];exact Nat.ne_of_gt (blk_lt (g:=gb497) (o:=.cells #[.int .i64 a0_0,.slice A0_1 l0_1.length c0_1,.slice A0_2 l0_2.length c0_2] 27 (0,0)) (bm BK497.out)) : gb498 ≠ gb497));replace BK497:=kb BK497 hb;clear hb hbox hg;have hnb14:=NB497_498.out;have hnc14:=NB498_497.out;have hcz15_0 : w13.cell? ⟨gb497,0,none⟩ = some (.int .i64 a0_0):=(blk_cell BK497.out 0).trans rfl;have hcz15_1 : w13.cell? ⟨gb497,1,none⟩ = some (.slice A0_1 l0_1.length c0_1):=(blk_cell BK497.out 1).trans rfl;have hcz15_2 : w13.cell? ⟨gb497,2,none⟩ = some (.slice A0_2 l0_2.length c0_2):=(blk_cell BK497.out 2).trans rfl;have hfz15_0:=blk_frozen BK497.out 0;have hfz15_1:=blk_frozen BK497.out 1;have hfz15_2:=blk_frozen BK497.out 2;have hcz16_0 : w13.cell? ⟨gb498,0,none⟩ = some (.int .i64 a1_0):=(blk_cell BK498.out 0).trans rfl;have hcz16_1 : w13.cell? ⟨gb498,1,none⟩ = some (.slice A1_1 l1_1.length c1_1):=(blk_cell BK498.out 1).trans rfl;have hcz16_2 : w13.cell? ⟨gb498,2,none⟩ = some (.slice A1_2 l1_2.length c1_2):=(blk_cell BK498.out 2).trans rfl;have hfz16_0:=blk_frozen BK498.out 0;have hfz16_1:=blk_frozen BK498.out 1;have hfz16_2:=blk_frozen BK498.out 2)|(go_at_call 35;(with_reducible refine (laws_rInts.calls k _ _ l0_1 _ _ l1_1 false _ ?side1 ?side2 ?side3 ?side4 A4.out).mono ?_);(case side1=>exact cm (C_below HR0_1.out HB.out));(case side2=>exact HC0_1.out);(case side3=>exact cm (C_below HR1_1.out HB.out));(case side4=>exact HC1_1.out);rintro e w' ⟨rfl,⟨nd,rfl⟩⟩))
  go_ret
  exact ⟨fe,h2 HB.out GE497.out GE498.out⟩
 subst c5
 rw [if_pos rfl] at H
 replace H:=Option.bind_eq_some_iff.mp H
 obtain ⟨t500,A60,H⟩:=H
 have A6:=Aside0.mk A60
 clear A60
 obtain rfl:=Option.some.inj H
 go_enter Try.func36,Try.ntmps36
 go_wp2_with (first|((with_reducible refine gate_dst (N:=2) rfl ?_);refine box_event ?hg (N:=2) ?hd (cs:=#[.int .i64 a0_0,.slice A0_1 l0_1.length c0_1,.slice A0_2 l0_2.length c0_2]) (t:=27) ?hr ?_;(case hd=>rfl);(case hg=>rfl);(case hr=>first|(go_simp;done)|(go_simp;rfl));intro gb497 hg w7 hbox hb;have BK497:=ak hbox;have GW497:=ak ((by rw [hg];exact (below_size (hm HB.out)) : w.heap.size ≤ gb497));have GE497:=ak ((by rw [hg];exact (below_size (hm HB.out)) : w.heap.size ≤ gb497));replace HB:=bs HB hb;clear hb hbox hg)|((with_reducible refine gate_dst (N:=3) rfl ?_);refine box_event ?hg (N:=3) ?hd (cs:=#[.int .i64 a1_0,.slice A1_1 l1_1.length c1_1,.slice A1_2 l1_2.length c1_2]) (t:=27) ?hr ?_;(case hd=>rfl);(case hg=>rfl);(case hr=>first|(go_simp;done)|(go_simp;rfl));intro gb498 hg w8 hbox hb;have BK498:=ak hbox;have GW498:=ak ((by rw [hg];exact (below_size (h1 HB.out GE497.out)) : w.heap.size ≤ gb498));have GE498:=ak ((by rw [hg];exact (below_size (h1 HB.out GE497.out)) : w.heap.size ≤ gb498));replace HB:=ak (below_step (h1 HB.out GE497.out) hb);have NB497_498:=ak ((by rw [hg];exact Nat.ne_of_lt (blk_lt (g:=gb497) (o:=.cells #[.int .i64 a0_0,.slice A0_1 l0_1.length c0_1,.slice A0_2 l0_2.length c0_2] 27 (0,0)) (bm BK497.out)) : gb497 ≠ gb498));have NB498_497:=ak ((by rw [hg];exact Nat.ne_of_gt (blk_lt (g:=gb497) (o:=.cells #[.int .i64 a0_0,.slice A0_1 l0_1.length c0_1,.slice A0_2 l0_2.length c0_2] 27 (0,0)) (bm BK497.out)) : gb498 ≠ gb497));replace BK497:=kb BK497 hb;clear hb hbox hg;have hnb9:=NB497_498.out;have hnc9:=NB498_497.out;have hcz10_0 : w8.cell? ⟨gb497,0,none⟩ = some (.int .i64 a0_0):=(blk_cell BK497.out 0).trans rfl;have hcz10_1 : w8.cell? ⟨gb497,1,none⟩ = some (.slice A0_1 l0_1.length c0_1):=(blk_cell BK497.out 1).trans rfl;have hcz10_2 : w8.cell? ⟨gb497,2,none⟩ = some (.slice A0_2 l0_2.length c0_2):=(blk_cell BK497.out 2).trans rfl;have hfz10_0:=blk_frozen BK497.out 0;have hfz10_1:=blk_frozen BK497.out 1;have hfz10_2:=blk_frozen BK497.out 2;have hcz11_0 : w8.cell? ⟨gb498,0,none⟩ = some (.int .i64 a1_0):=(blk_cell BK498.out 0).trans rfl;have hcz11_1 : w8.cell? ⟨gb498,1,none⟩ = some (.slice A1_1 l1_1.length c1_1):=(blk_cell BK498.out 1).trans rfl;have hcz11_2 : w8.cell? ⟨gb498,2,none⟩ = some (.slice A1_2 l1_2.length c1_2):=(blk_cell BK498.out 2).trans rfl;have hfz11_0:=blk_frozen BK498.out 0;have hfz11_1:=blk_frozen BK498.out 1;have hfz11_2:=blk_frozen BK498.out 2)|(go_at_call 35;(with_reducible refine (laws_rInts.calls k _ _ l0_1 _ _ l1_1 true _ ?side1 ?side2 ?side3 ?side4 A4.out).mono ?_);(case side1=>exact cm (C_below HR0_1.out HB.out));(case side2=>exact HC0_1.out);(case side3=>exact cm (C_below HR1_1.out HB.out));(case side4=>exact HC1_1.out);rintro e w' ⟨rfl,⟨nd,rfl⟩⟩)|(go_at_call 35;(with_reducible refine (laws_rInts.calls k _ _ l0_2 _ _ l1_2 t500 _ ?side1 ?side2 ?side3 ?side4 A6.out).mono ?_);(case side1=>repeat (exact (C_below HR0_2.out (h2 HB.out GE497.out GE498.out))));(case side2=>exact HC0_2.out);(case side3=>repeat (exact (C_below HR1_2.out (h2 HB.out GE497.out GE498.out))));(case side4=>exact HC1_2.out);rintro e w' ⟨rfl,⟨nd,rfl⟩⟩))
 go_ret
 exact ⟨fe,h2 HB.out GE497.out GE498.out⟩

/-! ### spec_DrawBeadsAt: function 37 -/
def spec_DrawBeadsAt.f (k : Nat) (l0 : List Int) : Option (Int × List Int × List Int × Int):=(spec_l1Cur_wire.f k l0 0 0).bind fun bt503=>((spec_l1Cur_among.f l0 bt503.2.2.2.1 bt503.2.2.2.2 (([1,2,3,0,5,8,30,(-1),4611686018427387904] : List Int))).bind fun bt515=>(some (bt503.1,bt503.2.1,bt503.2.2.1,bt515.1)))
theorem spec_DrawBeadsAt.mono : ∀ a0 k,LeO (spec_DrawBeadsAt.f k a0) (spec_DrawBeadsAt.f (k + 1) a0):=by
 intro a0 k
 unfold spec_DrawBeadsAt.f
 repeat' first
   | (with_reducible exact spec_l1Cur_wire.mono _ _ _ _)
   | (with_reducible exact LeO.refl _)
   | (with_reducible exact LeO.none _)
   | (with_reducible refine LeO.ite ?_ ?_)
   | (with_reducible refine LeO.bind ?_ (fun _=>?_))
   | exact spec_l1Cur_wire.mono _ _ _ _
   | exact LeO.none _
   | refine LeO.ite ?_ ?_
   | refine LeO.bind ?_ (fun _=>?_)
set_option maxHeartbeats 8000000 in
set_option maxRecDepth 100000 in
theorem spec_DrawBeadsAt.calls (k : Nat) (A0 : Option Addr) (c0 : Nat) (l0 : List Int) (r1 : Int) (r2 : List Int) (r3 : List Int) (r4 : Int) (w : World) (hr0 : Kd.C (Kd.int .u8) w A0 l0.length l0) (hc0 : l0.length ≤ c0) (h : spec_DrawBeadsAt.f k l0 = some (r1,r2,r3,r4)) :
  Calls Try.prog 37 #[.slice A0 l0.length c0] w fun e w'=>∃ v1_ v2_ : Value,e = .returned (.tuple #[.agg #[.int .i64 r1,v1_,v2_],.int .i64 r4]) ∧ Kd.R (Kd.int .i64) 3 w' w.heap.size (fun k_=>ob k_ v2_) v1_ r2 ∧ Kd.R (Kd.int .i64) 3 w' w.heap.size (fun k_=>ob k_ v1_) v2_ r3 ∧ Below w.heap.size w w':=by
 have hu27:=Try.underlying27
 have hu64:=Try.underlying64
 have HR0:=Aside0.mk hr0
 have HC0:=Aside0.mk hc0
 clear hr0 hc0
 have HB:=Aside0.mk (Below.refl w.heap.size w)
 have H : ((spec_l1Cur_wire.f k l0 0 0).bind fun bt503=>((spec_l1Cur_among.f l0 bt503.2.2.2.1 bt503.2.2.2.2 (([1,2,3,0,5,8,30,(-1),4611686018427387904] : List Int))).bind fun bt515=>(some (bt503.1,bt503.2.1,bt503.2.2.1,bt515.1)))) = some (r1,r2,r3,r4):=h
 clear h
 replace H:=Option.bind_eq_some_iff.mp H
 obtain ⟨⟨t503,t504,t507,t510,t511⟩,A20,H⟩:=H
 (try dsimp only at H)
 have A2:=Aside0.mk A20
 clear A20
 obtain ⟨y512,hy512⟩ : ∃ y_ : List Int,y_ = (([1,2,3,0,5,8,30,(-1),4611686018427387904] : List Int)):=⟨_,rfl⟩
 replace H : ((spec_l1Cur_among.f l0 t510 t511 y512).bind fun bt515=>(some (t503,t504,t507,bt515.1))) = some (r1,r2,r3,r4):=by first|(rw [hy512];with_reducible exact H)|(have H2_:=(Option.bind_some _ _).symm.trans H;rw [hy512];with_reducible exact H2_)|(have H2_:=(Option.bind_some _ _).symm.trans H;with_reducible exact H2_)|with_reducible exact H|(rw [hy512];exact H)|exact H
 have Ny512:=Aside0.mk hy512
 clear hy512
 replace H:=Option.bind_eq_some_iff.mp H
 obtain ⟨⟨t515,t516,t517⟩,A30,H⟩:=H
 (try dsimp only at H)
 have A3:=Aside0.mk A30
 clear A30
 simp only [Option.some.injEq,Prod.mk.injEq] at H
 obtain ⟨rfl,rfl,rfl,rfl⟩:=H
 go_enter Try.func37,Try.ntmps37
 go_wp2_with (first|((with_reducible refine gate_dst (N:=2) rfl ?_);refine box_event ?hg (N:=2) ?hd (cs:=#[.int .i64 0,.slice none 0 0,.slice none 0 0]) (t:=27) ?hr ?_;(case hd=>rfl);(case hg=>rfl);(case hr=>first|(go_simp;done)|(go_simp;rfl));intro gb501 hg w4 hbox hb;have BK501:=ak hbox;have GW501:=ak ((by rw [hg];exact (below_size (hm HB.out)) : w.heap.size ≤ gb501));have GE501:=ak ((by rw [hg];exact (below_size (hm HB.out)) : w.heap.size ≤ gb501));replace HB:=bs HB hb;clear hb hbox hg)|((with_reducible refine gate_dst (N:=7) rfl ?_);refine box_event ?hg (N:=7) ?hd (cs:=#[.slice A0 l0.length c0,.int .i64 0,.int .u64 0]) (t:=64) ?hr ?_;(case hd=>rfl);(case hg=>rfl);(case hr=>first|(go_simp;done)|(go_simp;rfl));intro gb502 hg w5 hbox hb;have NB501_502:=ak ((by rw [hg];exact Nat.ne_of_lt (blk_lt (g:=gb501) (o:=.cells #[.int .i64 0,.slice none 0 0,.slice none 0 0] 27 (0,0)) (bm BK501.out)) : gb501 ≠ gb502));have NB502_501:=ak ((by rw [hg];exact Nat.ne_of_gt (blk_lt (g:=gb501) (o:=.cells #[.int .i64 0,.slice none 0 0,.slice none 0 0] 27 (0,0)) (bm BK501.out)) : gb502 ≠ gb501));replace BK501:=kb BK501 hb;have HI502:=ak ((⟨_,_,hbox,(by rw [hg];exact (below_size (h1 HB.out GE501.out)) : w.heap.size ≤ gb502),HR0.out⟩ : IsS64 w w5 gb502 l0 0 0));replace HB:=ak (below_step (h1 HB.out GE501.out) hb);clear hb hbox hg)|((with_reducible refine gate_callee (f:=56) rfl ?_);refine goesL_ (some 9) rfl rfl Try.func56 (by kernel_rfl) rfl #[.pointer (some ⟨gb502,0,none⟩)] rfl gl ?_;(with_reducible refine (spec_l1Cur_wire.calls k gb502 l0 0 0 t503 t504 t507 t510 t511 w _ ?side1 ?side2 A2.out).mono ?_);(case side1=>exact IsS64.now HI502.out);(case side2=>exact h2 HB.out (IsS64.ge HI502.out) GE501.out);rintro e w6 ⟨v505,v508,rfl,ho0,ho1,hi,hb,hk⟩;refine ⟨_,rfl,?_⟩;replace BK501:=ak (KeepBut.blk hk (g':=gb501) (o:=.cells #[.int .i64 0,.slice none 0 0,.slice none 0 0] 27 (0,0)) (bm BK501.out) NB501_502.out (by simp));have HO506:=ak (R_lower ho0 (below_size (h2 HB.out (IsS64.ge HI502.out) GE501.out)));have HO509:=ak (R_lower ho1 (below_size (h2 HB.out (IsS64.ge HI502.out) GE501.out)));replace HB:=ak hb;replace HI502:=ak hi;(try clear hb);(try clear hk);(try clear hi);(try clear ho0);(try clear ho1))|((with_reducible refine gate_dst (N:=11) rfl ?_);refine R_lit (Kd.int .i64) _ 3 ?hg (N:=11) ?hd (xs:=([1,2,3,0,5,8,30,(-1),4611686018427387904] : List Int)) (inner:=[.int .i64 1,.int .i64 2,.int .i64 3,.int .i64 0,.int .i64 5,.int .i64 8,.int .i64 30,.int .i64 (-1),.int .i64 4611686018427387904]) (ok:=fun _=>True) (okp:=fun _=>True) ?hr ?hp (fun _ hk=>hk) trivial (Below.refl _ _) (Nat.le_refl _) (by simp) ?_;(case hd=>rfl);(case hg=>rfl);(case hr=>first|(go_simp;done)|(go_simp;rfl));(case hp=>exact (Reps.one (show Kd.M (Kd.int .i64) _ _ _ 1 [.int .i64 1] from rfl) (Reps.one (show Kd.M (Kd.int .i64) _ _ _ 2 [.int .i64 2] from rfl) (Reps.one (show Kd.M (Kd.int .i64) _ _ _ 3 [.int .i64 3] from rfl) (Reps.one (show Kd.M (Kd.int .i64) _ _ _ 0 [.int .i64 0] from rfl) (Reps.one (show Kd.M (Kd.int .i64) _ _ _ 5 [.int .i64 5] from rfl) (Reps.one (show Kd.M (Kd.int .i64) _ _ _ 8 [.int .i64 8] from rfl) (Reps.one (show Kd.M (Kd.int .i64) _ _ _ 30 [.int .i64 30] from rfl) (Reps.one (show Kd.M (Kd.int .i64) _ _ _ (-1) [.int .i64 (-1)] from rfl) (Reps.one (show Kd.M (Kd.int .i64) _ _ _ 4611686018427387904 [.int .i64 4611686018427387904] from rfl) (Reps.none _ _)))))))))));intro v513 w7 ho8 hb hg_ hnew_;clear hg_ hnew_;(rw [← Ny512.out] at ho8);have HO514:=ak (R_lower (R_new' (R_new' ho8 (R_lt (rm HO506.out))) (R_lt (rm HO509.out))) (below_size (h2 HB.out (IsS64.ge HI502.out) GE501.out)));replace HO506:=ak (R_elder' (rm HO506.out) (R_base ho8) hb);replace HO509:=ak (R_elder' (rm HO509.out) (R_base ho8) hb);replace BK501:=kb BK501 hb;replace HB:=ak (below_step (h2 HB.out (IsS64.ge HI502.out) GE501.out) hb);replace HI502:=ak (IsS64.below (by exact IsS64.now HI502.out) hb);clear hb ho8;obtain ⟨Ao9,co9,eo9⟩:=R_slice HO514.out;subst eo9)|((with_reducible refine gate_callee (f:=57) rfl ?_);refine goesL_ (some 12) rfl rfl Try.func57 (by kernel_rfl) rfl #[.pointer (some ⟨gb502,0,none⟩),.slice Ao9 y512.length co9] rfl gl ?_;(with_reducible refine (spec_l1Cur_among.calls gb502 l0 t510 t511 _ _ y512 t515 t516 t517 w _ ?side1 ?side2 ?side3 ?side4 ?side5 A3.out).mono ?_);(case side1=>exact IsS64.now HI502.out);(case side2=>exact h2 HB.out (IsS64.ge HI502.out) GE501.out);(case side3=>exact cm (R_reads' HO514.out).2.2);(case side4=>exact (R_reads' HO514.out).2.1);(case side5=>exact far_slice (IsS64.own_ne HI502.out HO514.out (by decide)));rintro e w10 ⟨rfl,hi,hb,hk⟩;refine ⟨_,rfl,?_⟩;replace BK501:=ak (KeepBut.blk hk (g':=gb501) (o:=.cells #[.int .i64 0,.slice none 0 0,.slice none 0 0] 27 (0,0)) (bm BK501.out) NB501_502.out (by simp));replace HO506:=ak (R_mono (R_keep (IsS64.apart (show IsS64 w _ gb502 l0 t510 t511 from by exact IsS64.now HI502.out) (rm HO506.out) (by decide)) hk (fun _ h=>h.2)) (fun _ h=>h.1));replace HO509:=ak (R_mono (R_keep (IsS64.apart (show IsS64 w _ gb502 l0 t510 t511 from by exact IsS64.now HI502.out) (rm HO509.out) (by decide)) hk (fun _ h=>h.2)) (fun _ h=>h.1));replace HO514:=ak (R_mono (R_keep (IsS64.apart (show IsS64 w _ gb502 l0 t510 t511 from by exact IsS64.now HI502.out) (rm HO514.out) (by decide)) hk (fun _ h=>h.2)) (fun _ h=>h.1));replace HB:=ak hb;replace HI502:=ak hi;(try clear hb);(try clear hk);(try clear hi);have hnb11:=NB501_502.out;have hnc11:=NB502_501.out;have hcz12_0 : w10.cell? ⟨gb501,0,none⟩ = some (.int .i64 0):=(blk_cell BK501.out 0).trans rfl;have hcz12_1 : w10.cell? ⟨gb501,1,none⟩ = some (.slice none 0 0):=(blk_cell BK501.out 1).trans rfl;have hcz12_2 : w10.cell? ⟨gb501,2,none⟩ = some (.slice none 0 0):=(blk_cell BK501.out 2).trans rfl;have hfz12_0:=blk_frozen BK501.out 0;have hfz12_1:=blk_frozen BK501.out 1;have hfz12_2:=blk_frozen BK501.out 2;obtain ⟨Ao13,co13,eo13⟩:=R_slice HO506.out;subst eo13;obtain ⟨Ao14,co14,eo14⟩:=R_slice HO509.out;subst eo14))
 refine bodyPost_ret (results_ct rfl _ _ gb501 27 #[.int .i64 t503,.slice Ao13 t504.length co13,.slice Ao14 t507.length co14] (0,0) _ rfl (by (with_reducible repeat (fail));refine blk_put (cs:=#[.int .i64 t503,.slice Ao13 t504.length co13,.slice none 0 0]) ?_ 2 _ rfl;(with_reducible repeat (fail));refine blk_put (cs:=#[.int .i64 t503,.slice none 0 0,.slice none 0 0]) ?_ 1 _ rfl;(with_reducible repeat (fail));refine blk_put (cs:=#[.int .i64 0,.slice none 0 0,.slice none 0 0]) ?_ 0 _ rfl;exact bm BK501.out) Try.underlying27 rfl (by kernel_rfl)) rfl ?_
 exact ⟨_,_,fe,by (with_reducible repeat (fail));exact R_mono (R_far (p:=⟨gb501,2,none⟩) (R_far (p:=⟨gb501,1,none⟩) (R_far (p:=⟨gb501,0,none⟩) (R_types HO506.out BK501.out (by decide)) (fun _ hk=>hk.2) (.int .i64 t503)) (fun _ hk=>hk.2) (.slice Ao13 t504.length co13)) (fun _ hk=>hk.2) (.slice Ao14 t507.length co14)) (fun _ hk=>hk.1.1),by (with_reducible repeat (fail));exact R_mono (R_far (p:=⟨gb501,2,none⟩) (R_far (p:=⟨gb501,1,none⟩) (R_far (p:=⟨gb501,0,none⟩) (R_types HO509.out BK501.out (by decide)) (fun _ hk=>hk.2) (.int .i64 t503)) (fun _ hk=>hk.2) (.slice Ao13 t504.length co13)) (fun _ hk=>hk.2) (.slice Ao14 t507.length co14)) (fun _ hk=>hk.1.1),h2 HB.out (IsS64.ge HI502.out) GE501.out⟩

/-! ### laws_rSum: function 38 -/
def laws_rSum.l0 : Nat → List Int → Int → Int → Option (Int)
 | 0,_,_,_=>none
 | k + 1,x0,x3,x4=>if x4 < (x0.length : Int) then (if 0 ≤ x4 then (laws_rSum.l0 k x0 (wrap64 (x3 + (rd x0 x4))) (wrap64 (x4 + 1))) else (none)) else (some x3)
def laws_rSum.f (k : Nat) (l0 : List Int) : Option (Int):=laws_rSum.l0 k l0 0 0
theorem laws_rSum.mono_l : ∀ k,(∀ y0 y1 y2,LeO (laws_rSum.l0 k y0 y1 y2) (laws_rSum.l0 (k + 1) y0 y1 y2))
 | 0=>by
  refine ?_<;>(intros;intro r h;simp [laws_rSum.l0] at h)
 | k + 1=>by
  have ih0:=laws_rSum.mono_l k
  refine ?_<;>intros<;>(first|unfold laws_rSum.l0)<;>(repeat' first|(with_reducible exact ih0 ..)|(with_reducible exact LeO.refl _)|(with_reducible exact LeO.none _)|(with_reducible refine LeO.ite ?_ ?_)|(with_reducible refine LeO.bind ?_ (fun _=>?_))|exact ih0 ..|exact LeO.none _|refine LeO.ite ?_ ?_|refine LeO.bind ?_ (fun _=>?_))
theorem laws_rSum.mono : ∀ a0 k,LeO (laws_rSum.f k a0) (laws_rSum.f (k + 1) a0):=by
 intro a0 k
 have ih0:=laws_rSum.mono_l k
 unfold laws_rSum.f
 repeat' first
   | (with_reducible exact ih0 _ _ _)
   | (with_reducible exact LeO.refl _)
   | (with_reducible exact LeO.none _)
   | (with_reducible refine LeO.ite ?_ ?_)
   | (with_reducible refine LeO.bind ?_ (fun _=>?_))
   | exact ih0 _ _ _
   | exact LeO.none _
   | refine LeO.ite ?_ ?_
   | refine LeO.bind ?_ (fun _=>?_)
set_option maxHeartbeats 8000000 in
set_option maxRecDepth 100000 in
theorem laws_rSum.calls (k : Nat) (A0 : Option Addr) (c0 : Nat) (l0 : List Int) (r : Int) (w : World) (hr0 : Kd.C (Kd.int .i64) w A0 l0.length l0) (hc0 : l0.length ≤ c0) (h : laws_rSum.f k l0 = some r) :
  Calls Try.prog 38 #[.slice A0 l0.length c0] w fun e w'=>e = .returned (.int .i64 r) ∧ Drawn0 w w':=by
 have HR0:=Aside0.mk hr0
 have HC0:=Aside0.mk hc0
 clear hr0 hc0
 have H : (laws_rSum.l0 k l0 0 0) = some r:=h
 clear h
 have H':=Aside0.mk H
 clear H
 go_enter Try.func38,Try.ntmps38
 go_wp2
 go_loopg [3,4] k (fun kq v3 v4 w'=>∃ (x3_1 : Int) (x4_1 : Int),v3 = .int .i64 x3_1 ∧ v4 = .int .i64 x4_1 ∧ Aside0 (laws_rSum.l0 kq l0 x3_1 x4_1 = some r) ∧ Aside0 (kq ≤ k) ∧ Drawn0 w w')
 case atStart=>exact ⟨(0),(0),fd,fd,H',⟨Nat.le_refl _⟩,by repeat (exact Drawn0.refl _)⟩
 clear H'
 obtain ⟨x3_1,x4_1,rfl,rfl,HA,HK1,⟨m1,rfl⟩⟩:=hrel
 cases gk with
 | zero=>exact absurd HA.out (by simp [laws_rSum.l0])
 | succ k1 =>
  have H:=HA.out
  clear HA
  simp only [laws_rSum.l0] at H
  by_cases c2 : x4_1 < (l0.length : Int)
  rotate_left
  ·rw [if_neg c2] at H
   have c2b0 : decide (x4_1 < (l0.length : Int)) = false:=decide_eq_false c2
   clear c2
   obtain rfl:=Option.some.inj H
   go_wp2
   go_ret
   exact ⟨by first|rfl|(simp;done)|(simp [*];done),by repeat (first|exact Drawn0.refl _|apply Drawn0.step)⟩
  rw [if_pos c2] at H
  have c2b0 : decide (x4_1 < (l0.length : Int)) = true:=decide_eq_true c2
  clear c2
  by_cases c3 : 0 ≤ x4_1
  rotate_left
  ·rw [if_neg c3] at H
   exact absurd H (by simp)
  rw [if_pos c3] at H
  have c3b0 : decide (0 ≤ x4_1) = true:=decide_eq_true c3
  clear c3
  have H':=Aside0.mk H
  clear H
  have p518 : 0 ≤ (x4_1 : Int):=od
  have q518 : x4_1 < (l0.length : Int):=od
  obtain ⟨ad518,e518,hx518_0⟩:=Kd.at_int HR0.out x4_1 p518 q518
  cases e518
  replace p518:=eq_true p518
  replace q518:=eq_true q518
  go_wp2
  go_roundg k1
  case measure=>have:=HK1.out;omega
  case rel=>exact ⟨(wrap64 (x3_1 + (rd l0 x4_1))),(wrap64 (x4_1 + 1)),fd,fd,H',⟨by have:=HK1.out;omega⟩,by repeat (first|exact Drawn0.refl _|apply Drawn0.step)⟩


end
end Go.Proofs.Ytciihopkgblpkaa.QFnWires
