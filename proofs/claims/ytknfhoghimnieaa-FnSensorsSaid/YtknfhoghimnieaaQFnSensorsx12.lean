/- Functions that the law FnSensors comes to, as Lean functions, with the proof that the Go code does what they say: written by a program of this session over the kit's print. No condition but those named. -/
import Derived.Test.YtknfhoghimnieaaQFnSensorsx0
import Derived.Test.YtknfhoghimnieaaQFnSensorsx5
import Derived.Test.YtknfhoghimnieaaQFnSensorsx11
namespace Go.Proofs.Ytknfhoghimnieaa.QFnSensors
open Go.RowKit Go.Proofs.YtknfhoghimnieaaW.PrintWords Go.Proofs.YtknfhoghimnieaaW.PrintLast Go.Proofs.YtknfhoghimnieaaW.PrintMore Go.Proofs.Ytknfhoghimnieaa.Short
attribute [local go_sem] max2_int min2_int max_two min_two max_three min_three max_four min_four   -- for this text's walks alone
set_option linter.unusedVariables false
set_option linter.unusedSimpArgs false

section
open Kd
/-! ### spec_l1Cur_sensors9: function 67 -/
mutual
def spec_l1Cur_sensors9.l0 : Nat → List (S59) → Int → Bool → Int → List Int → Int → Int → Int → Bool → Option ((List (S59)) × Int × Int)
 | 0,_,_,_,_,_,_,_,_,_=>none
 | k + 1,x5,x6,x7,x8,x1000,x1001,x1002,x361000,x361001=>if x8 > 0 then ((spec_l1Least.f x361000 24).bind fun t379=>((spec_l1Most.f 1 t379).bind fun t380=>((spec_l1Cur_pick.f x1000 x1001 x1002 t380).bind fun bt381=>(if x7 = true then (if x5.length < 8796093022208 then (spec_l1Cur_sensors9.l0 k (x5 ++ [(⟨bt381.1,x6⟩ : S59)]) x6 x7 (wrap64 (x8 - 1)) x1000 bt381.2.1 bt381.2.2 x361000 x361001) else (none)) else ((spec_l1Cur_among.f x1000 bt381.2.1 bt381.2.2 (([1,2,0,3,5,1] : List Int))).bind fun bt391=>(if x5.length < 8796093022208 then (spec_l1Cur_sensors9.l0 k (x5 ++ [(⟨bt381.1,bt391.1⟩ : S59)]) x6 x7 (wrap64 (x8 - 1)) x1000 bt391.2.1 bt391.2.2 x361000 x361001) else (none))))))) else ((spec_l1Cur_pick.f x1000 x1001 x1002 30).bind fun bt397=>(if bt397.1 = 0 then ((spec_l1Cur_among.f x1000 bt397.2.1 bt397.2.2 (([(-1),x361000,0] : List Int))).bind fun bt403=>((spec_l1Cur_among.f x1000 bt403.2.1 bt403.2.2 (([12,13,(-1)] : List Int))).bind fun bt409=>(if x5.length < 8796093022208 then (some ((x5 ++ [(⟨bt403.1,bt409.1⟩ : S59)]),bt409.2.1,bt409.2.2)) else (none)))) else (if bt397.1 = 1 then (spec_l1Cur_sensors9.l1 k x5 x1000 bt397.2.1 bt397.2.2) else (some (x5,bt397.2.1,bt397.2.2)))))
def spec_l1Cur_sensors9.l1 : Nat → List (S59) → List Int → Int → Int → Option ((List (S59)) × Int × Int)
 | 0,_,_,_,_=>none
 | k + 1,x5,x1000,x1001,x1002=>if (x5.length : Int) < 7 then (if x5.length < 8796093022208 then (spec_l1Cur_sensors9.l1 k (x5 ++ [(⟨0,0⟩ : S59)]) x1000 x1001 x1002) else (none)) else (some (x5,x1001,x1002))
end
def spec_l1Cur_sensors9.f (k : Nat) (s0_0 : List Int) (s0_1 : Int) (s0_2 : Int) (a1_0 : Int) (a1_1 : Bool) : Option ((List (S59)) × Int × Int):=(spec_l1Cur_among.f s0_0 s0_1 s0_2 (([1,2,0,3] : List Int))).bind fun bt367=>((spec_l1Cur_one.f s0_0 bt367.2.1 bt367.2.2 3).bind fun bt370=>((spec_l1Cur_among.f s0_0 bt370.2.1 bt370.2.2 (([3,2,4,1,5,0] : List Int))).bind fun bt376=>(spec_l1Cur_sensors9.l0 k (([] : List (S59))) bt367.1 bt370.1 bt376.1 s0_0 bt376.2.1 bt376.2.2 a1_0 a1_1)))
theorem spec_l1Cur_sensors9.mono_l : ∀ k,(∀ y0 y1 y2 y3 y4 y5 y6 y7 y8,LeO (spec_l1Cur_sensors9.l0 k y0 y1 y2 y3 y4 y5 y6 y7 y8) (spec_l1Cur_sensors9.l0 (k + 1) y0 y1 y2 y3 y4 y5 y6 y7 y8)) ∧ (∀ y0 y1 y2 y3,LeO (spec_l1Cur_sensors9.l1 k y0 y1 y2 y3) (spec_l1Cur_sensors9.l1 (k + 1) y0 y1 y2 y3))
 | 0=>by
  refine ⟨?_,?_⟩<;>(intros;intro r h;simp [spec_l1Cur_sensors9.l0,spec_l1Cur_sensors9.l1] at h)
 | k + 1=>by
  obtain ⟨ih0,ih1⟩:=spec_l1Cur_sensors9.mono_l k
  refine ⟨?_,?_⟩<;>intros<;>(first|unfold spec_l1Cur_sensors9.l0 | unfold spec_l1Cur_sensors9.l1)<;>(repeat' first|(with_reducible exact ih0 ..)|(with_reducible exact ih1 ..)|(with_reducible exact LeO.refl _)|(with_reducible exact LeO.none _)|(with_reducible refine LeO.ite ?_ ?_)|(with_reducible refine LeO.bind ?_ (fun _=>?_))|exact ih0 ..|exact ih1 ..|exact LeO.none _|refine LeO.ite ?_ ?_|refine LeO.bind ?_ (fun _=>?_))
theorem spec_l1Cur_sensors9.mono : ∀ a0 a1 a2 a3 a4 k,LeO (spec_l1Cur_sensors9.f k a0 a1 a2 a3 a4) (spec_l1Cur_sensors9.f (k + 1) a0 a1 a2 a3 a4):=by
 intro a0 a1 a2 a3 a4 k
 obtain ⟨ih0,ih1⟩:=spec_l1Cur_sensors9.mono_l k
 unfold spec_l1Cur_sensors9.f
 repeat' first
   | (with_reducible exact ih0 _ _ _ _ _ _ _ _ _)
   | (with_reducible exact ih1 _ _ _ _)
   | (with_reducible exact LeO.refl _)
   | (with_reducible exact LeO.none _)
   | (with_reducible refine LeO.ite ?_ ?_)
   | (with_reducible refine LeO.bind ?_ (fun _=>?_))
   | exact ih0 _ _ _ _ _ _ _ _ _
   | exact ih1 _ _ _ _
   | exact LeO.none _
   | refine LeO.ite ?_ ?_
   | refine LeO.bind ?_ (fun _=>?_)
set_option maxHeartbeats 8000000 in
set_option maxRecDepth 100000 in
theorem spec_l1Cur_sensors9.calls (k : Nat) (g : Nat) (s0_0 : List Int) (s0_1 : Int) (s0_2 : Int) (a1_0 : Int) (a1_1 : Bool) (r1 : List (S59)) (r2 : Int) (r3 : Int) (w0 w : World) (hI : IsS80 w0 w g s0_0 s0_1 s0_2) (hB : Below w0.heap.size w0 w) (h : spec_l1Cur_sensors9.f k s0_0 s0_1 s0_2 a1_0 a1_1 = some (r1,r2,r3)) :
  Calls Try.prog 67 #[.pointer (some ⟨g,0,none⟩),.agg #[.int .i64 a1_0,.bool a1_1]] w fun e w'=>∃ v0_ : Value,e = .returned (v0_) ∧ Kd.R k59 59 w' w.heap.size (fun _=>True) v0_ r1 ∧ IsS80 w0 w' g s0_0 r2 r3 ∧ Below w0.heap.size w0 w' ∧ KeepBut w w' g none:=by
 have hu28:=Try.underlying28
 have hu59:=Try.underlying59
 have HI0:=Aside0.mk hI
 have HK:=Aside0.mk (KeepBut.refl w g none)
 have HL:=Aside0.mk hB.size
 clear hI
 have HW0:=Aside0.mk hB.size
 have HB:=Aside0.mk hB
 clear hB
 have H : ((spec_l1Cur_among.f s0_0 s0_1 s0_2 (([1,2,0,3] : List Int))).bind fun bt367=>((spec_l1Cur_one.f s0_0 bt367.2.1 bt367.2.2 3).bind fun bt370=>((spec_l1Cur_among.f s0_0 bt370.2.1 bt370.2.2 (([3,2,4,1,5,0] : List Int))).bind fun bt376=>(spec_l1Cur_sensors9.l0 k (([] : List (S59))) bt367.1 bt370.1 bt376.1 s0_0 bt376.2.1 bt376.2.2 a1_0 a1_1)))) = some (r1,r2,r3):=h
 clear h
 obtain ⟨y361,hy361⟩ : ∃ y_ : List (S59),y_ = (([] : List (S59))):=⟨_,rfl⟩
 replace H : ((spec_l1Cur_among.f s0_0 s0_1 s0_2 (([1,2,0,3] : List Int))).bind fun bt367=>((spec_l1Cur_one.f s0_0 bt367.2.1 bt367.2.2 3).bind fun bt370=>((spec_l1Cur_among.f s0_0 bt370.2.1 bt370.2.2 (([3,2,4,1,5,0] : List Int))).bind fun bt376=>(spec_l1Cur_sensors9.l0 k y361 bt367.1 bt370.1 bt376.1 s0_0 bt376.2.1 bt376.2.2 a1_0 a1_1)))) = some (r1,r2,r3):=by first|(rw [hy361];with_reducible exact H)|(have H2_:=(Option.bind_some _ _).symm.trans H;rw [hy361];with_reducible exact H2_)|(have H2_:=(Option.bind_some _ _).symm.trans H;with_reducible exact H2_)|with_reducible exact H|(rw [hy361];exact H)|exact H
 have Ny361:=Aside0.mk hy361
 clear hy361
 obtain ⟨y364,hy364⟩ : ∃ y_ : List Int,y_ = (([1,2,0,3] : List Int)):=⟨_,rfl⟩
 replace H : ((spec_l1Cur_among.f s0_0 s0_1 s0_2 y364).bind fun bt367=>((spec_l1Cur_one.f s0_0 bt367.2.1 bt367.2.2 3).bind fun bt370=>((spec_l1Cur_among.f s0_0 bt370.2.1 bt370.2.2 (([3,2,4,1,5,0] : List Int))).bind fun bt376=>(spec_l1Cur_sensors9.l0 k y361 bt367.1 bt370.1 bt376.1 s0_0 bt376.2.1 bt376.2.2 a1_0 a1_1)))) = some (r1,r2,r3):=by first|(rw [hy364];with_reducible exact H)|(have H2_:=(Option.bind_some _ _).symm.trans H;rw [hy364];with_reducible exact H2_)|(have H2_:=(Option.bind_some _ _).symm.trans H;with_reducible exact H2_)|with_reducible exact H|(rw [hy364];exact H)|exact H
 have Ny364:=Aside0.mk hy364
 clear hy364
 replace H:=Option.bind_eq_some_iff.mp H
 obtain ⟨⟨t367,t368,t369⟩,A30,H⟩:=H
 (try dsimp only at H)
 have A3:=Aside0.mk A30
 clear A30
 replace H:=Option.bind_eq_some_iff.mp H
 obtain ⟨⟨t370,t371,t372⟩,A40,H⟩:=H
 (try dsimp only at H)
 have A4:=Aside0.mk A40
 clear A40
 obtain ⟨y373,hy373⟩ : ∃ y_ : List Int,y_ = (([3,2,4,1,5,0] : List Int)):=⟨_,rfl⟩
 replace H : ((spec_l1Cur_among.f s0_0 t371 t372 y373).bind fun bt376=>(spec_l1Cur_sensors9.l0 k y361 t367 t370 bt376.1 s0_0 bt376.2.1 bt376.2.2 a1_0 a1_1)) = some (r1,r2,r3):=by first|(rw [hy373];with_reducible exact H)|(have H2_:=(Option.bind_some _ _).symm.trans H;rw [hy373];with_reducible exact H2_)|(have H2_:=(Option.bind_some _ _).symm.trans H;with_reducible exact H2_)|with_reducible exact H|(rw [hy373];exact H)|exact H
 have Ny373:=Aside0.mk hy373
 clear hy373
 replace H:=Option.bind_eq_some_iff.mp H
 obtain ⟨⟨t376,t377,t378⟩,A50,H⟩:=H
 (try dsimp only at H)
 have A5:=Aside0.mk A50
 clear A50
 have H':=Aside0.mk H
 clear H
 go_enter Try.func67,Try.ntmps67
 go_wp2_with (first|((with_reducible refine gate_dst (N:=3) rfl ?_);refine box_event ?hg (N:=3) ?hd (cs:=#[.int .i64 a1_0,.bool a1_1]) (t:=28) ?hr ?_;(case hd=>rfl);(case hg=>rfl);(case hr=>first|(go_simp;done)|(go_simp;rfl));intro gb360 hg w6 hbox hb;replace HB:=ak (below_step (h1 HB.out (IsS80.ge HI0.out)) hb);have BK360:=ak hbox;have GW360:=ak ((by rw [hg];exact (keep_size (w:=w) (g:=g) (row:=none) (kn HK.out)) : w.heap.size ≤ gb360));have GE360:=ak ((Nat.le_trans HW0.out (by rw [hg];exact (keep_size (w:=w) (g:=g) (row:=none) (kn HK.out)) : w.heap.size ≤ gb360) : w0.heap.size ≤ gb360));replace HK:=ak (KeepBut.trans (kn HK.out) (KeepBut.of_below hb g none) (.inl rfl));have NB0_360:=ak ((by rw [hg];exact Nat.ne_of_lt (IsS80.lt (show IsS80 w0 _ g s0_0 s0_1 s0_2 from (IsS80.now HI0.out))) : g ≠ gb360));have NB360_0:=ak ((by rw [hg];exact Nat.ne_of_gt (IsS80.lt (show IsS80 w0 _ g s0_0 s0_1 s0_2 from (IsS80.now HI0.out))) : gb360 ≠ g));replace HI0:=ak (IsS80.below (g:=g) (IsS80.now HI0.out) hb);clear hb hbox hg)|((with_reducible refine gate_dst (N:=10) rfl ?_);refine R_lit k59 _ 59 ?hg (N:=10) ?hd (xs:=([] : List (S59))) (inner:=[]) (ok:=fun _=>True) (okp:=fun _=>True) ?hr ?hp (fun _ hk=>hk) trivial (Below.refl _ _) (Nat.le_refl _) (by simp) ?_;(case hd=>rfl);(case hg=>rfl);(case hr=>first|(go_simp;done)|(go_simp;rfl));(case hp=>exact (Reps.none _ _));intro v362 w7 ho8 hb hg_ hnew_;clear hg_ hnew_;(first|rw [← Ny361.out] at ho8|(simp only [Int.reduceToNat] at ho8;rw [← Ny361.out] at ho8));have HO363:=ak (R_lower ho8 (keep_size (w:=w) (g:=g) (row:=none) (kn HK.out)));replace BK360:=kb BK360 hb;replace HK:=ak (KeepBut.trans (kn HK.out) (KeepBut.of_below hb g none) (.inl rfl));replace HB:=ak (below_step (h2 HB.out (IsS80.ge HI0.out) GE360.out) hb);replace HI0:=ak (IsS80.below (g:=g) (IsS80.now HI0.out) hb);clear hb ho8)|((with_reducible refine gate_dst (N:=12) rfl ?_);refine R_lit (Kd.int .i64) _ 3 ?hg (N:=12) ?hd (xs:=([1,2,0,3] : List Int)) (inner:=[.int .i64 1,.int .i64 2,.int .i64 0,.int .i64 3]) (ok:=fun _=>True) (okp:=fun _=>True) ?hr ?hp (fun _ hk=>hk) trivial (Below.refl _ _) (Nat.le_refl _) (by simp) ?_;(case hd=>rfl);(case hg=>rfl);(case hr=>first|(go_simp;done)|(go_simp;rfl));(case hp=>exact (Reps.one (show Kd.M (Kd.int .i64) _ _ _ 1 [.int .i64 1] from rfl) (Reps.one (show Kd.M (Kd.int .i64) _ _ _ 2 [.int .i64 2] from rfl) (Reps.one (show Kd.M (Kd.int .i64) _ _ _ 0 [.int .i64 0] from rfl) (Reps.one (show Kd.M (Kd.int .i64) _ _ _ 3 [.int .i64 3] from rfl) (Reps.none _ _))))));intro v365 w9 ho10 hb hg_ hnew_;clear hg_ hnew_;(first|rw [← Ny364.out] at ho10|(simp only [Int.reduceToNat] at ho10;rw [← Ny364.out] at ho10));replace HO363:=rb HO363 hb;have HO366:=ak (R_lower ho10 (keep_size (w:=w) (g:=g) (row:=none) (kn HK.out)));replace BK360:=kb BK360 hb;replace HK:=ak (KeepBut.trans (kn HK.out) (KeepBut.of_below hb g none) (.inl rfl));replace HB:=ak (below_step (h2 HB.out (IsS80.ge HI0.out) GE360.out) hb);replace HI0:=ak (IsS80.below (g:=g) (IsS80.now HI0.out) hb);clear hb ho10;obtain ⟨Ao11,co11,eo11⟩:=R_slice HO366.out;subst eo11)|((with_reducible refine gate_callee (f:=72) rfl ?_);refine goesL_ (some 13) rfl rfl Try.func72 (by kernel_rfl) rfl #[.pointer (some ⟨g,0,none⟩),.slice Ao11 y364.length co11] rfl gl ?_;(with_reducible refine (spec_l1Cur_among.calls g s0_0 s0_1 s0_2 _ _ y364 t367 t368 t369 w0 _ ?side1 ?side2 ?side3 ?side4 ?side5 A3.out).mono ?_);(case side1=>exact IsS80.now HI0.out);(case side2=>exact h2 HB.out (IsS80.ge HI0.out) GE360.out);(case side3=>exact cm (R_reads' HO366.out).2.2);(case side4=>exact (R_reads' HO366.out).2.1);(case side5=>exact far_slice (IsS80.own_ne HI0.out HO366.out (by decide)));rintro e w12 ⟨rfl,hi,hb,hk⟩;refine ⟨_,rfl,?_⟩;replace BK360:=ak (KeepBut.blk hk (g':=gb360) (o:=.cells #[.int .i64 a1_0,.bool a1_1] 28 (0,0)) (bm BK360.out) NB360_0.out (by simp));replace HO363:=ak (R_mono (R_keep (IsS80.apart (show IsS80 w0 _ g s0_0 s0_1 s0_2 from (IsS80.now HI0.out)) (rm HO363.out) (by decide)) hk (fun _ h=>h.2)) (fun _ h=>h.1));replace HO366:=ak (R_mono (R_keep (IsS80.apart (show IsS80 w0 _ g s0_0 s0_1 s0_2 from (IsS80.now HI0.out)) (rm HO366.out) (by decide)) hk (fun _ h=>h.2)) (fun _ h=>h.1));replace HK:=ak (KeepBut.trans (kn HK.out) hk (.inl rfl));replace HB:=ak hb;replace HI0:=ak hi;(try clear hb);(try clear hk);(try clear hi))|((with_reducible refine gate_callee (f:=70) rfl ?_);refine goesL_ (some 15) rfl rfl Try.func70 (by kernel_rfl) rfl #[.pointer (some ⟨g,0,none⟩),.int .i64 3] rfl gl ?_;(with_reducible refine (spec_l1Cur_one.calls g s0_0 t368 t369 3 t370 t371 t372 w0 _ ?side1 ?side2 A4.out).mono ?_);(case side1=>exact IsS80.now HI0.out);(case side2=>exact h2 HB.out (IsS80.ge HI0.out) GE360.out);rintro e w13 ⟨rfl,hi,hb,hk⟩;refine ⟨_,rfl,?_⟩;replace BK360:=ak (KeepBut.blk hk (g':=gb360) (o:=.cells #[.int .i64 a1_0,.bool a1_1] 28 (0,0)) (bm BK360.out) NB360_0.out (by simp));replace HO363:=ak (R_mono (R_keep (IsS80.apart (show IsS80 w0 _ g s0_0 t368 t369 from (IsS80.now HI0.out)) (rm HO363.out) (by decide)) hk (fun _ h=>h.2)) (fun _ h=>h.1));replace HO366:=ak (R_mono (R_keep (IsS80.apart (show IsS80 w0 _ g s0_0 t368 t369 from (IsS80.now HI0.out)) (rm HO366.out) (by decide)) hk (fun _ h=>h.2)) (fun _ h=>h.1));replace HK:=ak (KeepBut.trans (kn HK.out) hk (.inl rfl));replace HB:=ak hb;replace HI0:=ak hi;(try clear hb);(try clear hk);(try clear hi))|((with_reducible refine gate_dst (N:=17) rfl ?_);refine R_lit (Kd.int .i64) _ 3 ?hg (N:=17) ?hd (xs:=([3,2,4,1,5,0] : List Int)) (inner:=[.int .i64 3,.int .i64 2,.int .i64 4,.int .i64 1,.int .i64 5,.int .i64 0]) (ok:=fun _=>True) (okp:=fun _=>True) ?hr ?hp (fun _ hk=>hk) trivial (Below.refl _ _) (Nat.le_refl _) (by simp) ?_;(case hd=>rfl);(case hg=>rfl);(case hr=>first|(go_simp;done)|(go_simp;rfl));(case hp=>exact (Reps.one (show Kd.M (Kd.int .i64) _ _ _ 3 [.int .i64 3] from rfl) (Reps.one (show Kd.M (Kd.int .i64) _ _ _ 2 [.int .i64 2] from rfl) (Reps.one (show Kd.M (Kd.int .i64) _ _ _ 4 [.int .i64 4] from rfl) (Reps.one (show Kd.M (Kd.int .i64) _ _ _ 1 [.int .i64 1] from rfl) (Reps.one (show Kd.M (Kd.int .i64) _ _ _ 5 [.int .i64 5] from rfl) (Reps.one (show Kd.M (Kd.int .i64) _ _ _ 0 [.int .i64 0] from rfl) (Reps.none _ _))))))));intro v374 w14 ho15 hb hg_ hnew_;clear hg_ hnew_;(first|rw [← Ny373.out] at ho15|(simp only [Int.reduceToNat] at ho15;rw [← Ny373.out] at ho15));replace HO363:=rb HO363 hb;have HO375:=ak (R_lower (R_new' ho15 (R_lt (rm HO366.out))) (keep_size (w:=w) (g:=g) (row:=none) (kn HK.out)));replace HO366:=ak (R_elder' (rm HO366.out) (R_base ho15) hb);replace BK360:=kb BK360 hb;replace HK:=ak (KeepBut.trans (kn HK.out) (KeepBut.of_below hb g none) (.inl rfl));replace HB:=ak (below_step (h2 HB.out (IsS80.ge HI0.out) GE360.out) hb);replace HI0:=ak (IsS80.below (g:=g) (IsS80.now HI0.out) hb);clear hb ho15;obtain ⟨Ao16,co16,eo16⟩:=R_slice HO375.out;subst eo16)|((with_reducible refine gate_callee (f:=72) rfl ?_);refine goesL_ (some 18) rfl rfl Try.func72 (by kernel_rfl) rfl #[.pointer (some ⟨g,0,none⟩),.slice Ao16 y373.length co16] rfl gl ?_;(with_reducible refine (spec_l1Cur_among.calls g s0_0 t371 t372 _ _ y373 t376 t377 t378 w0 _ ?side1 ?side2 ?side3 ?side4 ?side5 A5.out).mono ?_);(case side1=>exact IsS80.now HI0.out);(case side2=>exact h2 HB.out (IsS80.ge HI0.out) GE360.out);(case side3=>exact cm (R_reads' HO375.out).2.2);(case side4=>exact (R_reads' HO375.out).2.1);(case side5=>exact far_slice (IsS80.own_ne HI0.out HO375.out (by decide)));rintro e w17 ⟨rfl,hi,hb,hk⟩;refine ⟨_,rfl,?_⟩;replace BK360:=ak (KeepBut.blk hk (g':=gb360) (o:=.cells #[.int .i64 a1_0,.bool a1_1] 28 (0,0)) (bm BK360.out) NB360_0.out (by simp));replace HO363:=ak (R_mono (R_keep (IsS80.apart (show IsS80 w0 _ g s0_0 t371 t372 from (IsS80.now HI0.out)) (rm HO363.out) (by decide)) hk (fun _ h=>h.2)) (fun _ h=>h.1));replace HO366:=ak (R_mono (R_keep (IsS80.apart (show IsS80 w0 _ g s0_0 t371 t372 from (IsS80.now HI0.out)) (rm HO366.out) (by decide)) hk (fun _ h=>h.2)) (fun _ h=>h.1));replace HO375:=ak (R_mono (R_keep (IsS80.apart (show IsS80 w0 _ g s0_0 t371 t372 from (IsS80.now HI0.out)) (rm HO375.out) (by decide)) hk (fun _ h=>h.2)) (fun _ h=>h.1));replace HK:=ak (KeepBut.trans (kn HK.out) hk (.inl rfl));replace HB:=ak hb;replace HI0:=ak hi;(try clear hb);(try clear hk);(try clear hi)))
 go_loopg [5,8] k (fun kq v5 v8 w'=>∃ (x5_1 : List (S59)) (x8_1 : Int) (x1001_1 : Int) (x1002_1 : Int),v8 = .int .i64 x8_1 ∧ Aside0 (spec_l1Cur_sensors9.l0 kq x5_1 t367 t370 x8_1 s0_0 x1001_1 x1002_1 a1_0 a1_1 = some (r1,r2,r3)) ∧ Aside0 (kq ≤ k) ∧ Aside0 (Kd.R k59 59 w' w.heap.size (fun _=>True) v5 x5_1) ∧ Aside0 (w'.heap[gb360]? = some (.cells #[.int .i64 a1_0,.bool a1_1] 28 (0,0))) ∧ Aside0 (IsS80 w0 w' g s0_0 x1001_1 x1002_1) ∧ Aside0 (KeepBut w w' g none) ∧ Aside0 (Below w0.heap.size w0 w'))
 case atStart=>exact ⟨(y361),(t376),(t377),(t378),fd,H',⟨Nat.le_refl _⟩,⟨rm HO363.out⟩,⟨bm BK360.out⟩,⟨(IsS80.now HI0.out)⟩,⟨(kn HK.out)⟩,⟨h2 HB.out (IsS80.ge HI0.out) GE360.out⟩⟩
 clear H'
 try clear p2
 try clear c6
 try clear c7
 obtain ⟨x5_1,x8_1,x1001_1,x1002_1,rfl,HA,HK1,HO_5,BK360,HI0,HK,HB⟩:=hrel
 cases gk with
 | zero=>exact absurd HA.out (by simp [spec_l1Cur_sensors9.l0])
 | succ k1 =>
  have H:=HA.out
  clear HA
  simp only [spec_l1Cur_sensors9.l0] at H
  by_cases c18 : x8_1 > 0
  rotate_left
  ·rw [if_neg c18] at H
   have c18b0 : decide (0 < x8_1) = false:=decide_eq_false c18
   clear c18
   replace H:=Option.bind_eq_some_iff.mp H
   obtain ⟨⟨t397,t398,t399⟩,A470,H⟩:=H
   (try dsimp only at H)
   have A47:=Aside0.mk A470
   clear A470
   by_cases c48 : t397 = 0
   rotate_left
   ·rw [if_neg c48] at H
    have c48b0 : (t397 == 0) = false:=beq_eq_false_iff_ne.mpr c48
    have c48b1 : (t397 != 0) = true:=bne_iff_ne.mpr c48
    by_cases c64 : t397 = 1
    rotate_left
    ·rw [if_neg c64] at H
     have c64b0 : (t397 == 1) = false:=beq_eq_false_iff_ne.mpr c64
     have c64b1 : (t397 != 1) = true:=bne_iff_ne.mpr c64
     simp only [Option.some.injEq,Prod.mk.injEq] at H
     obtain ⟨rfl,rfl,rfl⟩:=H
     go_wp2_with (first|((with_reducible refine gate_callee (f:=73) rfl ?_);refine goesL_ (some 42) rfl rfl Try.func73 (by kernel_rfl) rfl #[.pointer (some ⟨g,0,none⟩),.int .i64 30] rfl gl ?_;(with_reducible refine (spec_l1Cur_pick.calls g s0_0 x1001_1 x1002_1 30 t397 t398 t399 w0 _ ?side1 ?side2 A47.out).mono ?_);(case side1=>exact IsS80.now HI0.out);(case side2=>exact h2 HB.out (IsS80.ge HI0.out) GE360.out);rintro e w71 ⟨rfl,hi,hb,hk⟩;refine ⟨_,rfl,?_⟩;replace HO_5:=ak (R_mono (R_keep (IsS80.apart (show IsS80 w0 _ g s0_0 x1001_1 x1002_1 from (IsS80.now HI0.out)) (rm HO_5.out) (by decide)) hk (fun _ h=>h.2)) (fun _ h=>h.1));replace BK360:=ak (KeepBut.blk hk (g':=gb360) (o:=.cells #[.int .i64 a1_0,.bool a1_1] 28 (0,0)) (bm BK360.out) NB360_0.out (by simp));replace HK:=ak (KeepBut.trans (kn HK.out) hk (.inl rfl));replace HB:=ak hb;replace HI0:=ak hi;(try clear hb);(try clear hk);(try clear hi)))
     go_ret
     exact ⟨_,fe,rm HO_5.out,(IsS80.now HI0.out),h2 HB.out (IsS80.ge HI0.out) GE360.out,(kn HK.out)⟩
    rw [if_pos c64] at H
    have c64b0 : (t397 == 1) = true:=beq_iff_eq.mpr c64
    have c64b1 : (t397 != 1) = false:=bne_eq_false_iff_eq.mpr c64
    clear c64
    have H':=Aside0.mk H
    clear H
    go_wp2_with (first|((with_reducible refine gate_callee (f:=73) rfl ?_);refine goesL_ (some 42) rfl rfl Try.func73 (by kernel_rfl) rfl #[.pointer (some ⟨g,0,none⟩),.int .i64 30] rfl gl ?_;(with_reducible refine (spec_l1Cur_pick.calls g s0_0 x1001_1 x1002_1 30 t397 t398 t399 w0 _ ?side1 ?side2 A47.out).mono ?_);(case side1=>exact IsS80.now HI0.out);(case side2=>exact h2 HB.out (IsS80.ge HI0.out) GE360.out);rintro e w65 ⟨rfl,hi,hb,hk⟩;refine ⟨_,rfl,?_⟩;replace HO_5:=ak (R_mono (R_keep (IsS80.apart (show IsS80 w0 _ g s0_0 x1001_1 x1002_1 from (IsS80.now HI0.out)) (rm HO_5.out) (by decide)) hk (fun _ h=>h.2)) (fun _ h=>h.1));replace BK360:=ak (KeepBut.blk hk (g':=gb360) (o:=.cells #[.int .i64 a1_0,.bool a1_1] 28 (0,0)) (bm BK360.out) NB360_0.out (by simp));replace HK:=ak (KeepBut.trans (kn HK.out) hk (.inl rfl));replace HB:=ak hb;replace HI0:=ak hi;(try clear hb);(try clear hk);(try clear hi)))
    go_loopg [5] k1 (fun kq v5 w'=>∃ (x5_2 : List (S59)),Aside0 (spec_l1Cur_sensors9.l1 kq x5_2 s0_0 t398 t399 = some (r1,r2,r3)) ∧ Aside0 (kq ≤ k1) ∧ Aside0 (Kd.R k59 59 w' w.heap.size (fun _=>True) v5 x5_2) ∧ Aside0 (w'.heap[gb360]? = some (.cells #[.int .i64 a1_0,.bool a1_1] 28 (0,0))) ∧ Aside0 (IsS80 w0 w' g s0_0 t398 t399) ∧ Aside0 (KeepBut w w' g none) ∧ Aside0 (Below w0.heap.size w0 w'))
    case atStart=>exact ⟨(x5_1),H',⟨Nat.le_refl _⟩,⟨rm HO_5.out⟩,⟨bm BK360.out⟩,⟨(IsS80.now HI0.out)⟩,⟨(kn HK.out)⟩,⟨h2 HB.out (IsS80.ge HI0.out) GE360.out⟩⟩
    clear H'
    try clear c1
    try clear c2
    try clear p2
    try clear c3
    try clear c4
    try clear c5
    try clear c6
    try clear p6
    try clear c7
    try clear c18
    try clear c18b0
    try clear c22
    try clear c23
    try clear c24
    try clear c28
    try clear c29
    try clear c33
    try clear c34
    try clear c38
    try clear c39
    try clear c48
    try clear c48b0
    try clear c48b1
    try clear c51
    try clear c53
    try clear c63
    try clear c64
    try clear c64b0
    try clear c64b1
    try clear p64
    try clear hcz25_0
    try clear hcz25_1
    try clear hcz30_0
    try clear hcz30_1
    try clear hcz35_0
    try clear hcz35_1
    try clear hcz40_0
    try clear hcz40_1
    try clear hcz45_0
    try clear hcz45_1
    try clear hcz54_0
    try clear hcz54_1
    try clear hfz25_0
    try clear hfz25_1
    try clear hfz30_0
    try clear hfz30_1
    try clear hfz35_0
    try clear hfz35_1
    try clear hfz40_0
    try clear hfz40_1
    try clear hfz45_0
    try clear hfz45_1
    try clear hfz54_0
    try clear hfz54_1
    try clear p2
    obtain ⟨x5_2,HA,HK2,HO_5,BK360,HI0,HK,HB⟩:=hrel
    cases gk with
    | zero=>exact absurd HA.out (by simp [spec_l1Cur_sensors9.l1])
    | succ k2 =>
     have H:=HA.out
     clear HA
     simp only [spec_l1Cur_sensors9.l1] at H
     by_cases c66 : (x5_2.length : Int) < 7
     rotate_left
     ·rw [if_neg c66] at H
      have c66b0 : decide ((x5_2.length : Int) < 7) = false:=decide_eq_false c66
      have c66b1 : decide (x5_2.length < 7) = false:=decide_eq_false (by omega)
      clear c66
      simp only [Option.some.injEq,Prod.mk.injEq] at H
      obtain ⟨rfl,rfl,rfl⟩:=H
      obtain ⟨Ao70,co70,eo70⟩:=R_slice HO_5.out
      subst eo70
      go_wp2
      go_ret
      exact ⟨_,fe,rm HO_5.out,(IsS80.now HI0.out),h2 HB.out (IsS80.ge HI0.out) GE360.out,(kn HK.out)⟩
     rw [if_pos c66] at H
     have c66b0 : decide ((x5_2.length : Int) < 7) = true:=decide_eq_true c66
     have c66b1 : decide (x5_2.length < 7) = true:=decide_eq_true (by omega)
     clear c66
     by_cases c67 : x5_2.length < 8796093022208
     rotate_left
     ·rw [if_neg c67] at H
      exact absurd H (by simp)
     rw [if_pos c67] at H
     have LMc67:=Aside0.mk c67
     clear c67
     obtain ⟨y415,hy415⟩ : ∃ y_ : List (S59),y_ = (x5_2 ++ [(⟨0,0⟩ : S59)]):=⟨_,rfl⟩
     replace H : (spec_l1Cur_sensors9.l1 k2 y415 s0_0 t398 t399) = some (r1,r2,r3):=by first|(rw [hy415];with_reducible exact H)|(have H2_:=(Option.bind_some _ _).symm.trans H;rw [hy415];with_reducible exact H2_)|(have H2_:=(Option.bind_some _ _).symm.trans H;with_reducible exact H2_)|with_reducible exact H|(rw [hy415];exact H)|exact H
     have Ny415:=Aside0.mk hy415
     clear hy415
     have H':=Aside0.mk H
     clear H
     obtain ⟨Ao68,co68,eo68⟩:=R_slice HO_5.out
     subst eo68
     go_wp2_with (first|((with_reducible refine gate_builtin (b:=.append) (xs:=#[.tmp 62,.tmp 64]) rfl ?_);at_builtin;refine R_append k59 w.heap.size rfl (.tmp 62) (.tmp 64) 30 59 (.agg #[(.int .i64 0),(.int .i64 0)]) 16 rfl Try.underlying30 info59 rfl (by decide) (by omega) (.slice Ao68 x5_2.length co68) x5_2 (⟨0,0⟩ : S59) [.int .i64 0,.int .i64 0] (fun _=>True) (fun _=>False) rfl rfl ?aP (fun _ hk=>hk.elim) ?aF ?aO (Below.refl _ _) ?aS ?aL ?_;(case aP=>exact k59_mkM _ _ _ (⟨0,0⟩ : S59));(case aF=>exact (fun _ _=>trivial));(case aO=>exact (rm HO_5.out));(case aS=>exact (keep_size (w:=w) (g:=g) (row:=none) (kn HK.out)));(case aL=>have:=LMc67.out;omega);intro v416 w69 ho hb hg hat;rw [← Ny415.out] at ho;replace BK360:=ak (blk_grown (g:=gb360) (o:=.cells #[.int .i64 a1_0,.bool a1_1] 28 (0,0)) (bm BK360.out) hg (R_ne HO_5.out BK360.out (by decide)));replace HB:=ak (below_weaken (h2 HB.out (IsS80.ge HI0.out) GE360.out) HL.out hb);replace HI0:=ak (IsS80.grown (show IsS80 w0 _ g s0_0 t398 t399 from (IsS80.now HI0.out)) hg (IsS80.own_ne HI0.out HO_5.out (by decide)));replace HK:=ak (KeepBut.trans (kn HK.out) (KeepBut.of_grown hg g) (R_base2 HO_5.out));have HO417:=ak ho;clear HO_5;clear ho hb hg hat))
     go_roundg k2
     case measure=>have:=HK1.out;have:=HK2.out;omega
     case rel=>exact ⟨(y415),H',⟨by have:=HK1.out;have:=HK2.out;omega⟩,⟨rm HO417.out⟩,⟨bm BK360.out⟩,⟨(IsS80.now HI0.out)⟩,⟨(kn HK.out)⟩,⟨h2 HB.out (IsS80.ge HI0.out) GE360.out⟩⟩
   rw [if_pos c48] at H
   have c48b0 : (t397 == 0) = true:=beq_iff_eq.mpr c48
   have c48b1 : (t397 != 0) = false:=bne_eq_false_iff_eq.mpr c48
   clear c48
   obtain ⟨y400,hy400⟩ : ∃ y_ : List Int,y_ = (([(-1),a1_0,0] : List Int)):=⟨_,rfl⟩
   replace H : ((spec_l1Cur_among.f s0_0 t398 t399 y400).bind fun bt403=>((spec_l1Cur_among.f s0_0 bt403.2.1 bt403.2.2 (([12,13,(-1)] : List Int))).bind fun bt409=>(if x5_1.length < 8796093022208 then (some ((x5_1 ++ [(⟨bt403.1,bt409.1⟩ : S59)]),bt409.2.1,bt409.2.2)) else (none)))) = some (r1,r2,r3):=by first|(rw [hy400];with_reducible exact H)|(have H2_:=(Option.bind_some _ _).symm.trans H;rw [hy400];with_reducible exact H2_)|(have H2_:=(Option.bind_some _ _).symm.trans H;with_reducible exact H2_)|with_reducible exact H|(rw [hy400];exact H)|exact H
   have Ny400:=Aside0.mk hy400
   clear hy400
   replace H:=Option.bind_eq_some_iff.mp H
   obtain ⟨⟨t403,t404,t405⟩,A490,H⟩:=H
   (try dsimp only at H)
   have A49:=Aside0.mk A490
   clear A490
   obtain ⟨y406,hy406⟩ : ∃ y_ : List Int,y_ = (([12,13,(-1)] : List Int)):=⟨_,rfl⟩
   replace H : ((spec_l1Cur_among.f s0_0 t404 t405 y406).bind fun bt409=>(if x5_1.length < 8796093022208 then (some ((x5_1 ++ [(⟨t403,bt409.1⟩ : S59)]),bt409.2.1,bt409.2.2)) else (none))) = some (r1,r2,r3):=by first|(rw [hy406];with_reducible exact H)|(have H2_:=(Option.bind_some _ _).symm.trans H;rw [hy406];with_reducible exact H2_)|(have H2_:=(Option.bind_some _ _).symm.trans H;with_reducible exact H2_)|with_reducible exact H|(rw [hy406];exact H)|exact H
   have Ny406:=Aside0.mk hy406
   clear hy406
   replace H:=Option.bind_eq_some_iff.mp H
   obtain ⟨⟨t409,t410,t411⟩,A500,H⟩:=H
   (try dsimp only at H)
   have A50:=Aside0.mk A500
   clear A500
   by_cases c51 : x5_1.length < 8796093022208
   rotate_left
   ·rw [if_neg c51] at H
    exact absurd H (by simp)
   rw [if_pos c51] at H
   have LMc51:=Aside0.mk c51
   clear c51
   obtain ⟨y412,hy412⟩ : ∃ y_ : List (S59),y_ = (x5_1 ++ [(⟨t403,t409⟩ : S59)]):=⟨_,rfl⟩
   replace H : (some (y412,t410,t411)) = some (r1,r2,r3):=by first|(rw [hy412];with_reducible exact H)|(have H2_:=(Option.bind_some _ _).symm.trans H;rw [hy412];with_reducible exact H2_)|(have H2_:=(Option.bind_some _ _).symm.trans H;with_reducible exact H2_)|with_reducible exact H|(rw [hy412];exact H)|exact H
   have Ny412:=Aside0.mk hy412
   clear hy412
   simp only [Option.some.injEq,Prod.mk.injEq] at H
   obtain ⟨rfl,rfl,rfl⟩:=H
   go_wp2_with (first|((with_reducible refine gate_callee (f:=73) rfl ?_);refine goesL_ (some 42) rfl rfl Try.func73 (by kernel_rfl) rfl #[.pointer (some ⟨g,0,none⟩),.int .i64 30] rfl gl ?_;(with_reducible refine (spec_l1Cur_pick.calls g s0_0 x1001_1 x1002_1 30 t397 t398 t399 w0 _ ?side1 ?side2 A47.out).mono ?_);(case side1=>exact IsS80.now HI0.out);(case side2=>exact h2 HB.out (IsS80.ge HI0.out) GE360.out);rintro e w52 ⟨rfl,hi,hb,hk⟩;refine ⟨_,rfl,?_⟩;replace HO_5:=ak (R_mono (R_keep (IsS80.apart (show IsS80 w0 _ g s0_0 x1001_1 x1002_1 from (IsS80.now HI0.out)) (rm HO_5.out) (by decide)) hk (fun _ h=>h.2)) (fun _ h=>h.1));replace BK360:=ak (KeepBut.blk hk (g':=gb360) (o:=.cells #[.int .i64 a1_0,.bool a1_1] 28 (0,0)) (bm BK360.out) NB360_0.out (by simp));replace HK:=ak (KeepBut.trans (kn HK.out) hk (.inl rfl));replace HB:=ak hb;replace HI0:=ak hi;(try clear hb);(try clear hk);(try clear hi);have hnb53:=NB360_0.out;have hnc53:=NB0_360.out;have hcz54_0 : w52.cell? ⟨gb360,0,none⟩ = some (.int .i64 a1_0):=(blk_cell BK360.out 0).trans rfl;have hcz54_1 : w52.cell? ⟨gb360,1,none⟩ = some (.bool a1_1):=(blk_cell BK360.out 1).trans rfl;have hfz54_0:=blk_frozen BK360.out 0;have hfz54_1:=blk_frozen BK360.out 1)|((with_reducible refine gate_dst (N:=49) rfl ?_);refine R_lit (Kd.int .i64) _ 3 ?hg (N:=49) ?hd (xs:=([(-1),a1_0,0] : List Int)) (inner:=[.int .i64 (-1),.int .i64 a1_0,.int .i64 0]) (ok:=fun _=>True) (okp:=fun _=>True) ?hr ?hp (fun _ hk=>hk) trivial (Below.refl _ _) (Nat.le_refl _) (by simp) ?_;(case hd=>rfl);(case hg=>rfl);(case hr=>first|(go_simp;done)|(go_simp;rfl));(case hp=>exact (Reps.one (show Kd.M (Kd.int .i64) _ _ _ (-1) [.int .i64 (-1)] from rfl) (Reps.one (show Kd.M (Kd.int .i64) _ _ _ a1_0 [.int .i64 a1_0] from rfl) (Reps.one (show Kd.M (Kd.int .i64) _ _ _ 0 [.int .i64 0] from rfl) (Reps.none _ _)))));intro v401 w55 ho56 hb hg_ hnew_;clear hg_ hnew_;(first|rw [← Ny400.out] at ho56|(simp only [Int.reduceToNat] at ho56;rw [← Ny400.out] at ho56));replace HO_5:=rb HO_5 hb;have HO402:=ak (R_lower ho56 (keep_size (w:=w) (g:=g) (row:=none) (kn HK.out)));replace BK360:=kb BK360 hb;replace HK:=ak (KeepBut.trans (kn HK.out) (KeepBut.of_below hb g none) (.inl rfl));replace HB:=ak (below_step (h2 HB.out (IsS80.ge HI0.out) GE360.out) hb);replace HI0:=ak (IsS80.below (g:=g) (IsS80.now HI0.out) hb);clear hb ho56;obtain ⟨Ao57,co57,eo57⟩:=R_slice HO402.out;subst eo57)|((with_reducible refine gate_callee (f:=72) rfl ?_);refine goesL_ (some 50) rfl rfl Try.func72 (by kernel_rfl) rfl #[.pointer (some ⟨g,0,none⟩),.slice Ao57 y400.length co57] rfl gl ?_;(with_reducible refine (spec_l1Cur_among.calls g s0_0 t398 t399 _ _ y400 t403 t404 t405 w0 _ ?side1 ?side2 ?side3 ?side4 ?side5 A49.out).mono ?_);(case side1=>exact IsS80.now HI0.out);(case side2=>exact h2 HB.out (IsS80.ge HI0.out) GE360.out);(case side3=>exact cm (R_reads' HO402.out).2.2);(case side4=>exact (R_reads' HO402.out).2.1);(case side5=>exact far_slice (IsS80.own_ne HI0.out HO402.out (by decide)));rintro e w58 ⟨rfl,hi,hb,hk⟩;refine ⟨_,rfl,?_⟩;replace HO_5:=ak (R_mono (R_keep (IsS80.apart (show IsS80 w0 _ g s0_0 t398 t399 from (IsS80.now HI0.out)) (rm HO_5.out) (by decide)) hk (fun _ h=>h.2)) (fun _ h=>h.1));replace BK360:=ak (KeepBut.blk hk (g':=gb360) (o:=.cells #[.int .i64 a1_0,.bool a1_1] 28 (0,0)) (bm BK360.out) NB360_0.out (by simp));replace HO402:=ak (R_mono (R_keep (IsS80.apart (show IsS80 w0 _ g s0_0 t398 t399 from (IsS80.now HI0.out)) (rm HO402.out) (by decide)) hk (fun _ h=>h.2)) (fun _ h=>h.1));replace HK:=ak (KeepBut.trans (kn HK.out) hk (.inl rfl));replace HB:=ak hb;replace HI0:=ak hi;(try clear hb);(try clear hk);(try clear hi))|((with_reducible refine gate_dst (N:=52) rfl ?_);refine R_lit (Kd.int .i64) _ 3 ?hg (N:=52) ?hd (xs:=([12,13,(-1)] : List Int)) (inner:=[.int .i64 12,.int .i64 13,.int .i64 (-1)]) (ok:=fun _=>True) (okp:=fun _=>True) ?hr ?hp (fun _ hk=>hk) trivial (Below.refl _ _) (Nat.le_refl _) (by simp) ?_;(case hd=>rfl);(case hg=>rfl);(case hr=>first|(go_simp;done)|(go_simp;rfl));(case hp=>exact (Reps.one (show Kd.M (Kd.int .i64) _ _ _ 12 [.int .i64 12] from rfl) (Reps.one (show Kd.M (Kd.int .i64) _ _ _ 13 [.int .i64 13] from rfl) (Reps.one (show Kd.M (Kd.int .i64) _ _ _ (-1) [.int .i64 (-1)] from rfl) (Reps.none _ _)))));intro v407 w59 ho60 hb hg_ hnew_;clear hg_ hnew_;(first|rw [← Ny406.out] at ho60|(simp only [Int.reduceToNat] at ho60;rw [← Ny406.out] at ho60));replace HO_5:=rb HO_5 hb;have HO408:=ak (R_lower (R_new' ho60 (R_lt (rm HO402.out))) (keep_size (w:=w) (g:=g) (row:=none) (kn HK.out)));replace HO402:=ak (R_elder' (rm HO402.out) (R_base ho60) hb);replace BK360:=kb BK360 hb;replace HK:=ak (KeepBut.trans (kn HK.out) (KeepBut.of_below hb g none) (.inl rfl));replace HB:=ak (below_step (h2 HB.out (IsS80.ge HI0.out) GE360.out) hb);replace HI0:=ak (IsS80.below (g:=g) (IsS80.now HI0.out) hb);clear hb ho60;obtain ⟨Ao61,co61,eo61⟩:=R_slice HO408.out;subst eo61)|((with_reducible refine gate_callee (f:=72) rfl ?_);refine goesL_ (some 53) rfl rfl Try.func72 (by kernel_rfl) rfl #[.pointer (some ⟨g,0,none⟩),.slice Ao61 y406.length co61] rfl gl ?_;(with_reducible refine (spec_l1Cur_among.calls g s0_0 t404 t405 _ _ y406 t409 t410 t411 w0 _ ?side1 ?side2 ?side3 ?side4 ?side5 A50.out).mono ?_);(case side1=>exact IsS80.now HI0.out);(case side2=>exact h2 HB.out (IsS80.ge HI0.out) GE360.out);(case side3=>exact cm (R_reads' HO408.out).2.2);(case side4=>exact (R_reads' HO408.out).2.1);(case side5=>exact far_slice (IsS80.own_ne HI0.out HO408.out (by decide)));rintro e w62 ⟨rfl,hi,hb,hk⟩;refine ⟨_,rfl,?_⟩;replace HO_5:=ak (R_mono (R_keep (IsS80.apart (show IsS80 w0 _ g s0_0 t404 t405 from (IsS80.now HI0.out)) (rm HO_5.out) (by decide)) hk (fun _ h=>h.2)) (fun _ h=>h.1));replace BK360:=ak (KeepBut.blk hk (g':=gb360) (o:=.cells #[.int .i64 a1_0,.bool a1_1] 28 (0,0)) (bm BK360.out) NB360_0.out (by simp));replace HO402:=ak (R_mono (R_keep (IsS80.apart (show IsS80 w0 _ g s0_0 t404 t405 from (IsS80.now HI0.out)) (rm HO402.out) (by decide)) hk (fun _ h=>h.2)) (fun _ h=>h.1));replace HO408:=ak (R_mono (R_keep (IsS80.apart (show IsS80 w0 _ g s0_0 t404 t405 from (IsS80.now HI0.out)) (rm HO408.out) (by decide)) hk (fun _ h=>h.2)) (fun _ h=>h.1));replace HK:=ak (KeepBut.trans (kn HK.out) hk (.inl rfl));replace HB:=ak hb;replace HI0:=ak hi;(try clear hb);(try clear hk);(try clear hi))|((with_reducible refine gate_builtin (b:=.append) (xs:=#[.tmp 45,.tmp 55]) rfl ?_);at_builtin;refine R_append k59 w.heap.size rfl (.tmp 45) (.tmp 55) 30 59 (.agg #[(.int .i64 0),(.int .i64 0)]) 16 rfl Try.underlying30 info59 rfl (by decide) (by omega) u5 x5_1 (⟨t403,t409⟩ : S59) [.int .i64 t403,.int .i64 t409] (fun _=>True) (fun _=>False) rfl rfl ?aP (fun _ hk=>hk.elim) ?aF ?aO (Below.refl _ _) ?aS ?aL ?_;(case aP=>exact k59_mkM _ _ _ (⟨t403,t409⟩ : S59));(case aF=>exact (fun _ _=>trivial));(case aO=>exact (rm HO_5.out));(case aS=>exact (keep_size (w:=w) (g:=g) (row:=none) (kn HK.out)));(case aL=>have:=LMc51.out;omega);intro v413 w63 ho hb hg hat;rw [← Ny412.out] at ho;replace BK360:=ak (blk_grown (g:=gb360) (o:=.cells #[.int .i64 a1_0,.bool a1_1] 28 (0,0)) (bm BK360.out) hg (R_ne HO_5.out BK360.out (by decide)));replace HO402:=ak (R_over' (rm HO402.out) (R_typed (rm HO_5.out)) (by decide) hg);replace HO408:=ak (R_over' (rm HO408.out) (R_typed (rm HO_5.out)) (by decide) hg);replace HB:=ak (below_weaken (h2 HB.out (IsS80.ge HI0.out) GE360.out) HL.out hb);replace HI0:=ak (IsS80.grown (show IsS80 w0 _ g s0_0 t410 t411 from (IsS80.now HI0.out)) hg (IsS80.own_ne HI0.out HO_5.out (by decide)));replace HK:=ak (KeepBut.trans (kn HK.out) (KeepBut.of_grown hg g) (R_base2 HO_5.out));have HO414:=ak ho;clear HO_5;clear ho hb hg hat))
   go_ret
   exact ⟨_,fe,rm HO414.out,(IsS80.now HI0.out),h2 HB.out (IsS80.ge HI0.out) GE360.out,(kn HK.out)⟩
  rw [if_pos c18] at H
  have c18b0 : decide (0 < x8_1) = true:=decide_eq_true c18
  clear c18
  replace H:=Option.bind_eq_some_iff.mp H
  obtain ⟨t379,A190,H⟩:=H
  (try dsimp only at H)
  have A19:=Aside0.mk A190
  clear A190
  replace H:=Option.bind_eq_some_iff.mp H
  obtain ⟨t380,A200,H⟩:=H
  (try dsimp only at H)
  have A20:=Aside0.mk A200
  clear A200
  replace H:=Option.bind_eq_some_iff.mp H
  obtain ⟨⟨t381,t382,t383⟩,A210,H⟩:=H
  (try dsimp only at H)
  have A21:=Aside0.mk A210
  clear A210
  by_cases c22 : t370 = true
  ·subst c22
   rw [if_pos rfl] at H
   by_cases c23 : x5_1.length < 8796093022208
   rotate_left
   ·rw [if_neg c23] at H
    exact absurd H (by simp)
   rw [if_pos c23] at H
   have LMc23:=Aside0.mk c23
   clear c23
   obtain ⟨y385,hy385⟩ : ∃ y_ : List (S59),y_ = (x5_1 ++ [(⟨t381,t367⟩ : S59)]):=⟨_,rfl⟩
   replace H : (spec_l1Cur_sensors9.l0 k1 y385 t367 true (wrap64 (x8_1 - 1)) s0_0 t382 t383 a1_0 a1_1) = some (r1,r2,r3):=by first|(rw [hy385];with_reducible exact H)|(have H2_:=(Option.bind_some _ _).symm.trans H;rw [hy385];with_reducible exact H2_)|(have H2_:=(Option.bind_some _ _).symm.trans H;with_reducible exact H2_)|with_reducible exact H|(rw [hy385];exact H)|exact H
   have Ny385:=Aside0.mk hy385
   clear hy385
   have H':=Aside0.mk H
   clear H
   have hnb24:=NB360_0.out
   have hnc24:=NB0_360.out
   have hcz25_0 : wr.cell? ⟨gb360,0,none⟩ = some (.int .i64 a1_0):=(blk_cell BK360.out 0).trans rfl
   have hcz25_1 : wr.cell? ⟨gb360,1,none⟩ = some (.bool a1_1):=(blk_cell BK360.out 1).trans rfl
   have hfz25_0:=blk_frozen BK360.out 0
   have hfz25_1:=blk_frozen BK360.out 1
   go_wp2_with (first|((with_reducible refine gate_callee (f:=63) rfl ?_);refine goesL_ (some 26) rfl rfl Try.func63 (by kernel_rfl) rfl #[.int .i64 a1_0,.int .i64 24] rfl gl ?_;(with_reducible refine (spec_l1Least.calls a1_0 24 t379 _ A19.out).mono ?_);rintro e w' ⟨rfl,⟨nd,rfl⟩⟩;refine ⟨_,rfl,?_⟩;(try (rw [drewN_self wr];generalize hq_ : World.drewN wr _ = wr;have n0_ : Aside0 (Kd.R k59 59 wr w.heap.size (fun _=>True) u5 x5_1):=⟨by rw [← hq_];exact (rm HO_5.out)⟩;have n1_ : Aside0 (wr.heap[gb360]? = some (.cells #[.int .i64 a1_0,.bool a1_1] 28 (0,0))):=⟨by rw [← hq_];exact (bm BK360.out)⟩;have n2_ : Aside0 (IsS80 w0 wr g s0_0 x1001_1 x1002_1):=⟨by rw [← hq_];exact (IsS80.now HI0.out)⟩;have n3_ : Aside0 (KeepBut w wr g none):=⟨by rw [← hq_];exact (kn HK.out)⟩;have n4_ : Aside0 (Below w0.heap.size w0 wr):=⟨by rw [← hq_];exact (h2 HB.out (IsS80.ge HI0.out) GE360.out)⟩;clear HO_5 BK360 HI0 HK HB hq_;have HO_5:=n0_;have BK360:=n1_;have HI0:=n2_;have HK:=n3_;have HB:=n4_;clear n0_ n1_ n2_ n3_ n4_)))|((with_reducible refine gate_callee (f:=69) rfl ?_);refine goesL_ (some 27) rfl rfl Try.func69 (by kernel_rfl) rfl #[.int .i64 1,.int .i64 t379] rfl gl ?_;(with_reducible refine (spec_l1Most.calls 1 t379 t380 _ A20.out).mono ?_);rintro e w' ⟨rfl,⟨nd,rfl⟩⟩;refine ⟨_,rfl,?_⟩;(try (rw [drewN_self wr];generalize hq_ : World.drewN wr _ = wr;have n0_ : Aside0 (Kd.R k59 59 wr w.heap.size (fun _=>True) u5 x5_1):=⟨by rw [← hq_];exact (rm HO_5.out)⟩;have n1_ : Aside0 (wr.heap[gb360]? = some (.cells #[.int .i64 a1_0,.bool a1_1] 28 (0,0))):=⟨by rw [← hq_];exact (bm BK360.out)⟩;have n2_ : Aside0 (IsS80 w0 wr g s0_0 x1001_1 x1002_1):=⟨by rw [← hq_];exact (IsS80.now HI0.out)⟩;have n3_ : Aside0 (KeepBut w wr g none):=⟨by rw [← hq_];exact (kn HK.out)⟩;have n4_ : Aside0 (Below w0.heap.size w0 wr):=⟨by rw [← hq_];exact (h2 HB.out (IsS80.ge HI0.out) GE360.out)⟩;clear HO_5 BK360 HI0 HK HB hq_;have HO_5:=n0_;have BK360:=n1_;have HI0:=n2_;have HK:=n3_;have HB:=n4_;clear n0_ n1_ n2_ n3_ n4_)))|((with_reducible refine gate_callee (f:=73) rfl ?_);refine goesL_ (some 28) rfl rfl Try.func73 (by kernel_rfl) rfl #[.pointer (some ⟨g,0,none⟩),.int .i64 t380] rfl gl ?_;(with_reducible refine (spec_l1Cur_pick.calls g s0_0 x1001_1 x1002_1 t380 t381 t382 t383 w0 _ ?side1 ?side2 A21.out).mono ?_);(case side1=>exact IsS80.now HI0.out);(case side2=>exact h2 HB.out (IsS80.ge HI0.out) GE360.out);rintro e w26 ⟨rfl,hi,hb,hk⟩;refine ⟨_,rfl,?_⟩;replace HO_5:=ak (R_mono (R_keep (IsS80.apart (show IsS80 w0 _ g s0_0 x1001_1 x1002_1 from (IsS80.now HI0.out)) (rm HO_5.out) (by decide)) hk (fun _ h=>h.2)) (fun _ h=>h.1));replace BK360:=ak (KeepBut.blk hk (g':=gb360) (o:=.cells #[.int .i64 a1_0,.bool a1_1] 28 (0,0)) (bm BK360.out) NB360_0.out (by simp));replace HK:=ak (KeepBut.trans (kn HK.out) hk (.inl rfl));replace HB:=ak hb;replace HI0:=ak hi;(try clear hb);(try clear hk);(try clear hi))|((with_reducible refine gate_dst (N:=9) rfl ?_);refine box_event ?hg (N:=9) ?hd (cs:=#[.int .i64 0,.int .i64 0]) (t:=59) ?hr ?_;(case hd=>rfl);(case hg=>rfl);(case hr=>first|(go_simp;done)|(go_simp;rfl));intro gb384 hg w27 hbox hb;replace HO_5:=ak (R_below (R_elderB (rm HO_5.out) gb384 (Nat.le_of_eq hg.symm)) hb);replace HB:=ak (below_step (h2 HB.out (IsS80.ge HI0.out) GE360.out) hb);have BK384:=ak hbox;have GW384:=ak ((by rw [hg];exact (keep_size (w:=w) (g:=g) (row:=none) (kn HK.out)) : w.heap.size ≤ gb384));have GE384:=ak ((Nat.le_trans HW0.out (by rw [hg];exact (keep_size (w:=w) (g:=g) (row:=none) (kn HK.out)) : w.heap.size ≤ gb384) : w0.heap.size ≤ gb384));replace HK:=ak (KeepBut.trans (kn HK.out) (KeepBut.of_below hb g none) (.inl rfl));have NB360_384:=ak ((by rw [hg];exact Nat.ne_of_lt (blk_lt (g:=gb360) (o:=.cells #[.int .i64 a1_0,.bool a1_1] 28 (0,0)) (bm BK360.out)) : gb360 ≠ gb384));have NB384_360:=ak ((by rw [hg];exact Nat.ne_of_gt (blk_lt (g:=gb360) (o:=.cells #[.int .i64 a1_0,.bool a1_1] 28 (0,0)) (bm BK360.out)) : gb384 ≠ gb360));replace BK360:=kb BK360 hb;have NB0_384:=ak ((by rw [hg];exact Nat.ne_of_lt (IsS80.lt (show IsS80 w0 _ g s0_0 t382 t383 from (IsS80.now HI0.out))) : g ≠ gb384));have NB384_0:=ak ((by rw [hg];exact Nat.ne_of_gt (IsS80.lt (show IsS80 w0 _ g s0_0 t382 t383 from (IsS80.now HI0.out))) : gb384 ≠ g));replace HI0:=ak (IsS80.below (g:=g) (IsS80.now HI0.out) hb);clear hb hbox hg;have hnb28:=NB384_360.out;have hnc28:=NB360_384.out;have hnb29:=NB384_0.out;have hnc29:=NB0_384.out;have hcz30_0 : w27.cell? ⟨gb384,0,none⟩ = some (.int .i64 0):=(blk_cell BK384.out 0).trans rfl;have hcz30_1 : w27.cell? ⟨gb384,1,none⟩ = some (.int .i64 0):=(blk_cell BK384.out 1).trans rfl;have hfz30_0:=blk_frozen BK384.out 0;have hfz30_1:=blk_frozen BK384.out 1)|((with_reducible refine gate_builtin (b:=.append) (xs:=#[.tmp 37,.tmp 39]) rfl ?_);at_builtin;refine R_append k59 w.heap.size rfl (.tmp 37) (.tmp 39) 30 59 (.agg #[(.int .i64 0),(.int .i64 0)]) 16 rfl Try.underlying30 info59 rfl (by decide) (by omega) u5 x5_1 (⟨t381,t367⟩ : S59) [.int .i64 t381,.int .i64 t367] (fun k_=>k_ ≠ gb384) (fun _=>False) rfl (by first|(go_simp;done)|(go_simp;rfl)) ?aP (fun _ hk=>hk.elim) ?aF ?aO (Below.refl _ _) ?aS ?aL ?_;(case aP=>exact k59_mkM _ _ _ (⟨t381,t367⟩ : S59));(case aF=>exact (fun k_ hk=>Kd.freshB (g:=gb384) (o:=.cells #[.int .i64 t381,.int .i64 t367] 59 (0,0)) (by (with_reducible repeat (first|apply blk_drewN|apply blk_drew|apply blk_alloc));refine blk_put (cs:=#[.int .i64 t381,.int .i64 0]) ?_ 1 _ rfl;(with_reducible repeat (first|apply blk_drewN|apply blk_drew|apply blk_alloc));refine blk_put (cs:=#[.int .i64 0,.int .i64 0]) ?_ 0 _ rfl;exact bm BK384.out) k_ hk));(case aO=>exact (by (with_reducible repeat (first|apply R_alloc|apply R_drewN|apply R_drew));exact R_mono (R_far (p:=⟨gb384,1,none⟩) (R_far (p:=⟨gb384,0,none⟩) (R_mono HO_5.out (fun k_ hk=>(⟨hk,hk.2⟩ : _ ∧ k_ ≠ gb384))) (fun _ hk=>hk.2) (.int .i64 t381)) (fun _ hk=>hk.2) (.int .i64 t367)) (fun _ hk=>hk.1.2)));(case aS=>exact (keep_size (w:=w) (g:=g) (row:=none) (kn HK.out)));(case aL=>have:=LMc23.out;omega);intro v386 w31 ho hb hg hat;rw [← Ny385.out] at ho;replace BK360:=ak (blk_grown (g:=gb360) (o:=.cells #[.int .i64 a1_0,.bool a1_1] 28 (0,0)) (by (with_reducible repeat (first|apply blk_drewN|apply blk_drew|apply blk_alloc));refine blk_far ?_ NB360_384.out _;(with_reducible repeat (first|apply blk_drewN|apply blk_drew|apply blk_alloc));refine blk_far ?_ NB360_384.out _;exact bm BK360.out) hg (R_ne HO_5.out BK360.out (by decide)));replace BK384:=ak (blk_grown (g:=gb384) (o:=.cells #[.int .i64 t381,.int .i64 t367] 59 (0,0)) (by (with_reducible repeat (first|apply blk_drewN|apply blk_drew|apply blk_alloc));refine blk_put (cs:=#[.int .i64 t381,.int .i64 0]) ?_ 1 _ rfl;(with_reducible repeat (first|apply blk_drewN|apply blk_drew|apply blk_alloc));refine blk_put (cs:=#[.int .i64 0,.int .i64 0]) ?_ 0 _ rfl;exact bm BK384.out) hg (R_away HO_5.out (fun _ hk=>hk.2)));replace HB:=ak (below_weaken (h3 HB.out (IsS80.ge HI0.out) GE360.out GE384.out) HL.out hb);replace HI0:=ak (IsS80.grown (show IsS80 w0 _ g s0_0 t382 t383 from (IsS80.now HI0.out)) hg (IsS80.own_ne HI0.out HO_5.out (by decide)));replace HK:=ak (KeepBut.trans (kn HK.out) (KeepBut.of_grown hg g) (R_base2 HO_5.out));have HO387:=ak ho;clear HO_5;clear ho hb hg hat))
   go_roundg k1
   case measure=>have:=HK1.out;omega
   case rel=>exact ⟨(y385),(wrap64 (x8_1 - 1)),(t382),(t383),fd,H',⟨by have:=HK1.out;omega⟩,⟨rm (R_mono HO387.out (fun _ hk=>trivial))⟩,⟨bm BK360.out⟩,⟨(IsS80.now HI0.out)⟩,⟨(kn HK.out)⟩,⟨h3 HB.out (IsS80.ge HI0.out) GE360.out GE384.out⟩⟩
  replace c22:=Bool.eq_false_iff.mpr c22
  subst c22
  rw [if_neg (show ¬ (false = true) by decide)] at H
  obtain ⟨y388,hy388⟩ : ∃ y_ : List Int,y_ = (([1,2,0,3,5,1] : List Int)):=⟨_,rfl⟩
  replace H : ((spec_l1Cur_among.f s0_0 t382 t383 y388).bind fun bt391=>(if x5_1.length < 8796093022208 then (spec_l1Cur_sensors9.l0 k1 (x5_1 ++ [(⟨t381,bt391.1⟩ : S59)]) t367 false (wrap64 (x8_1 - 1)) s0_0 bt391.2.1 bt391.2.2 a1_0 a1_1) else (none))) = some (r1,r2,r3):=by first|(rw [hy388];with_reducible exact H)|(have H2_:=(Option.bind_some _ _).symm.trans H;rw [hy388];with_reducible exact H2_)|(have H2_:=(Option.bind_some _ _).symm.trans H;with_reducible exact H2_)|with_reducible exact H|(rw [hy388];exact H)|exact H
  have Ny388:=Aside0.mk hy388
  clear hy388
  replace H:=Option.bind_eq_some_iff.mp H
  obtain ⟨⟨t391,t392,t393⟩,A320,H⟩:=H
  (try dsimp only at H)
  have A32:=Aside0.mk A320
  clear A320
  by_cases c33 : x5_1.length < 8796093022208
  rotate_left
  ·rw [if_neg c33] at H
   exact absurd H (by simp)
  rw [if_pos c33] at H
  have LMc33:=Aside0.mk c33
  clear c33
  obtain ⟨y394,hy394⟩ : ∃ y_ : List (S59),y_ = (x5_1 ++ [(⟨t381,t391⟩ : S59)]):=⟨_,rfl⟩
  replace H : (spec_l1Cur_sensors9.l0 k1 y394 t367 false (wrap64 (x8_1 - 1)) s0_0 t392 t393 a1_0 a1_1) = some (r1,r2,r3):=by first|(rw [hy394];with_reducible exact H)|(have H2_:=(Option.bind_some _ _).symm.trans H;rw [hy394];with_reducible exact H2_)|(have H2_:=(Option.bind_some _ _).symm.trans H;with_reducible exact H2_)|with_reducible exact H|(rw [hy394];exact H)|exact H
  have Ny394:=Aside0.mk hy394
  clear hy394
  have H':=Aside0.mk H
  clear H
  have hnb34:=NB360_0.out
  have hnc34:=NB0_360.out
  have hcz35_0 : wr.cell? ⟨gb360,0,none⟩ = some (.int .i64 a1_0):=(blk_cell BK360.out 0).trans rfl
  have hcz35_1 : wr.cell? ⟨gb360,1,none⟩ = some (.bool a1_1):=(blk_cell BK360.out 1).trans rfl
  have hfz35_0:=blk_frozen BK360.out 0
  have hfz35_1:=blk_frozen BK360.out 1
  go_wp2_with (first|((with_reducible refine gate_callee (f:=63) rfl ?_);refine goesL_ (some 26) rfl rfl Try.func63 (by kernel_rfl) rfl #[.int .i64 a1_0,.int .i64 24] rfl gl ?_;(with_reducible refine (spec_l1Least.calls a1_0 24 t379 _ A19.out).mono ?_);rintro e w' ⟨rfl,⟨nd,rfl⟩⟩;refine ⟨_,rfl,?_⟩;(try (rw [drewN_self wr];generalize hq_ : World.drewN wr _ = wr;have n0_ : Aside0 (Kd.R k59 59 wr w.heap.size (fun _=>True) u5 x5_1):=⟨by rw [← hq_];exact (rm HO_5.out)⟩;have n1_ : Aside0 (wr.heap[gb360]? = some (.cells #[.int .i64 a1_0,.bool a1_1] 28 (0,0))):=⟨by rw [← hq_];exact (bm BK360.out)⟩;have n2_ : Aside0 (IsS80 w0 wr g s0_0 x1001_1 x1002_1):=⟨by rw [← hq_];exact (IsS80.now HI0.out)⟩;have n3_ : Aside0 (KeepBut w wr g none):=⟨by rw [← hq_];exact (kn HK.out)⟩;have n4_ : Aside0 (Below w0.heap.size w0 wr):=⟨by rw [← hq_];exact (h2 HB.out (IsS80.ge HI0.out) GE360.out)⟩;clear HO_5 BK360 HI0 HK HB hq_;have HO_5:=n0_;have BK360:=n1_;have HI0:=n2_;have HK:=n3_;have HB:=n4_;clear n0_ n1_ n2_ n3_ n4_)))|((with_reducible refine gate_callee (f:=69) rfl ?_);refine goesL_ (some 27) rfl rfl Try.func69 (by kernel_rfl) rfl #[.int .i64 1,.int .i64 t379] rfl gl ?_;(with_reducible refine (spec_l1Most.calls 1 t379 t380 _ A20.out).mono ?_);rintro e w' ⟨rfl,⟨nd,rfl⟩⟩;refine ⟨_,rfl,?_⟩;(try (rw [drewN_self wr];generalize hq_ : World.drewN wr _ = wr;have n0_ : Aside0 (Kd.R k59 59 wr w.heap.size (fun _=>True) u5 x5_1):=⟨by rw [← hq_];exact (rm HO_5.out)⟩;have n1_ : Aside0 (wr.heap[gb360]? = some (.cells #[.int .i64 a1_0,.bool a1_1] 28 (0,0))):=⟨by rw [← hq_];exact (bm BK360.out)⟩;have n2_ : Aside0 (IsS80 w0 wr g s0_0 x1001_1 x1002_1):=⟨by rw [← hq_];exact (IsS80.now HI0.out)⟩;have n3_ : Aside0 (KeepBut w wr g none):=⟨by rw [← hq_];exact (kn HK.out)⟩;have n4_ : Aside0 (Below w0.heap.size w0 wr):=⟨by rw [← hq_];exact (h2 HB.out (IsS80.ge HI0.out) GE360.out)⟩;clear HO_5 BK360 HI0 HK HB hq_;have HO_5:=n0_;have BK360:=n1_;have HI0:=n2_;have HK:=n3_;have HB:=n4_;clear n0_ n1_ n2_ n3_ n4_)))|((with_reducible refine gate_callee (f:=73) rfl ?_);refine goesL_ (some 28) rfl rfl Try.func73 (by kernel_rfl) rfl #[.pointer (some ⟨g,0,none⟩),.int .i64 t380] rfl gl ?_;(with_reducible refine (spec_l1Cur_pick.calls g s0_0 x1001_1 x1002_1 t380 t381 t382 t383 w0 _ ?side1 ?side2 A21.out).mono ?_);(case side1=>exact IsS80.now HI0.out);(case side2=>exact h2 HB.out (IsS80.ge HI0.out) GE360.out);rintro e w36 ⟨rfl,hi,hb,hk⟩;refine ⟨_,rfl,?_⟩;replace HO_5:=ak (R_mono (R_keep (IsS80.apart (show IsS80 w0 _ g s0_0 x1001_1 x1002_1 from (IsS80.now HI0.out)) (rm HO_5.out) (by decide)) hk (fun _ h=>h.2)) (fun _ h=>h.1));replace BK360:=ak (KeepBut.blk hk (g':=gb360) (o:=.cells #[.int .i64 a1_0,.bool a1_1] 28 (0,0)) (bm BK360.out) NB360_0.out (by simp));replace HK:=ak (KeepBut.trans (kn HK.out) hk (.inl rfl));replace HB:=ak hb;replace HI0:=ak hi;(try clear hb);(try clear hk);(try clear hi))|((with_reducible refine gate_dst (N:=9) rfl ?_);refine box_event ?hg (N:=9) ?hd (cs:=#[.int .i64 0,.int .i64 0]) (t:=59) ?hr ?_;(case hd=>rfl);(case hg=>rfl);(case hr=>first|(go_simp;done)|(go_simp;rfl));intro gb384 hg w37 hbox hb;replace HO_5:=ak (R_below (R_elderB (rm HO_5.out) gb384 (Nat.le_of_eq hg.symm)) hb);replace HB:=ak (below_step (h2 HB.out (IsS80.ge HI0.out) GE360.out) hb);have BK384:=ak hbox;have GW384:=ak ((by rw [hg];exact (keep_size (w:=w) (g:=g) (row:=none) (kn HK.out)) : w.heap.size ≤ gb384));have GE384:=ak ((Nat.le_trans HW0.out (by rw [hg];exact (keep_size (w:=w) (g:=g) (row:=none) (kn HK.out)) : w.heap.size ≤ gb384) : w0.heap.size ≤ gb384));replace HK:=ak (KeepBut.trans (kn HK.out) (KeepBut.of_below hb g none) (.inl rfl));have NB360_384:=ak ((by rw [hg];exact Nat.ne_of_lt (blk_lt (g:=gb360) (o:=.cells #[.int .i64 a1_0,.bool a1_1] 28 (0,0)) (bm BK360.out)) : gb360 ≠ gb384));have NB384_360:=ak ((by rw [hg];exact Nat.ne_of_gt (blk_lt (g:=gb360) (o:=.cells #[.int .i64 a1_0,.bool a1_1] 28 (0,0)) (bm BK360.out)) : gb384 ≠ gb360));replace BK360:=kb BK360 hb;have NB0_384:=ak ((by rw [hg];exact Nat.ne_of_lt (IsS80.lt (show IsS80 w0 _ g s0_0 t382 t383 from (IsS80.now HI0.out))) : g ≠ gb384));have NB384_0:=ak ((by rw [hg];exact Nat.ne_of_gt (IsS80.lt (show IsS80 w0 _ g s0_0 t382 t383 from (IsS80.now HI0.out))) : gb384 ≠ g));replace HI0:=ak (IsS80.below (g:=g) (IsS80.now HI0.out) hb);clear hb hbox hg;have hnb38:=NB384_360.out;have hnc38:=NB360_384.out;have hnb39:=NB384_0.out;have hnc39:=NB0_384.out;have hcz40_0 : w37.cell? ⟨gb384,0,none⟩ = some (.int .i64 0):=(blk_cell BK384.out 0).trans rfl;have hcz40_1 : w37.cell? ⟨gb384,1,none⟩ = some (.int .i64 0):=(blk_cell BK384.out 1).trans rfl;have hfz40_0:=blk_frozen BK384.out 0;have hfz40_1:=blk_frozen BK384.out 1)|((with_reducible refine gate_dst (N:=34) rfl ?_);refine R_lit (Kd.int .i64) _ 3 ?hg (N:=34) ?hd (xs:=([1,2,0,3,5,1] : List Int)) (inner:=[.int .i64 1,.int .i64 2,.int .i64 0,.int .i64 3,.int .i64 5,.int .i64 1]) (ok:=fun _=>True) (okp:=fun _=>True) ?hr ?hp (fun _ hk=>hk) trivial (Below.refl _ _) (Nat.le_refl _) (by simp) ?_;(case hd=>rfl);(case hg=>rfl);(case hr=>first|(go_simp;done)|(go_simp;rfl));(case hp=>exact (Reps.one (show Kd.M (Kd.int .i64) _ _ _ 1 [.int .i64 1] from rfl) (Reps.one (show Kd.M (Kd.int .i64) _ _ _ 2 [.int .i64 2] from rfl) (Reps.one (show Kd.M (Kd.int .i64) _ _ _ 0 [.int .i64 0] from rfl) (Reps.one (show Kd.M (Kd.int .i64) _ _ _ 3 [.int .i64 3] from rfl) (Reps.one (show Kd.M (Kd.int .i64) _ _ _ 5 [.int .i64 5] from rfl) (Reps.one (show Kd.M (Kd.int .i64) _ _ _ 1 [.int .i64 1] from rfl) (Reps.none _ _))))))));intro v389 w41 ho42 hb hg_ hnew_;clear hg_ hnew_;(first|rw [← Ny388.out] at ho42|(simp only [Int.reduceToNat] at ho42;rw [← Ny388.out] at ho42));replace HO_5:=ak (R_below (by (with_reducible repeat (first|apply R_alloc|apply R_drewN|apply R_drew));exact (R_mono (R_far (p:=⟨gb384,1,none⟩) (R_far (p:=⟨gb384,0,none⟩) (R_mono HO_5.out (fun k_ hk=>(⟨hk,hk.2⟩ : _ ∧ k_ ≠ gb384))) (fun _ hk=>hk.2) (.int .i64 t381)) (fun _ hk=>hk.2) (.int .i64 t367)) (fun _ h_=>h_.1))) hb);have HO390:=ak (R_lower ho42 (keep_size (w:=w) (g:=g) (row:=none) (kn HK.out)));replace BK360:=ak (blk_below (g:=gb360) (o:=.cells #[.int .i64 a1_0,.bool a1_1] 28 (0,0)) (by (with_reducible repeat (first|apply blk_drewN|apply blk_drew|apply blk_alloc));refine blk_far ?_ NB360_384.out _;(with_reducible repeat (first|apply blk_drewN|apply blk_drew|apply blk_alloc));refine blk_far ?_ NB360_384.out _;exact bm BK360.out) hb);replace BK384:=ak (blk_below (g:=gb384) (o:=.cells #[.int .i64 t381,.int .i64 t367] 59 (0,0)) (by (with_reducible repeat (first|apply blk_drewN|apply blk_drew|apply blk_alloc));refine blk_put (cs:=#[.int .i64 t381,.int .i64 0]) ?_ 1 _ rfl;(with_reducible repeat (first|apply blk_drewN|apply blk_drew|apply blk_alloc));refine blk_put (cs:=#[.int .i64 0,.int .i64 0]) ?_ 0 _ rfl;exact bm BK384.out) hb);replace HK:=ak (KeepBut.trans (kn HK.out) (KeepBut.of_below hb g none) (.inl rfl));replace HB:=ak (below_step (h3 HB.out (IsS80.ge HI0.out) GE360.out GE384.out) hb);replace HI0:=ak (IsS80.below (show IsS80 w0 ((w37.setCell ⟨gb384,0,none⟩ (.int .i64 t381)).setCell ⟨gb384,1,none⟩ (.int .i64 t367)) g s0_0 t382 t383 from (IsS80.now HI0.out)) hb);clear hb ho42;obtain ⟨Ao43,co43,eo43⟩:=R_slice HO390.out;subst eo43)|((with_reducible refine gate_callee (f:=72) rfl ?_);refine goesL_ (some 35) rfl rfl Try.func72 (by kernel_rfl) rfl #[.pointer (some ⟨g,0,none⟩),.slice Ao43 y388.length co43] rfl gl ?_;(with_reducible refine (spec_l1Cur_among.calls g s0_0 t382 t383 _ _ y388 t391 t392 t393 w0 _ ?side1 ?side2 ?side3 ?side4 ?side5 A32.out).mono ?_);(case side1=>exact IsS80.now HI0.out);(case side2=>exact h3 HB.out (IsS80.ge HI0.out) GE360.out GE384.out);(case side3=>exact cm (R_reads' HO390.out).2.2);(case side4=>exact (R_reads' HO390.out).2.1);(case side5=>exact far_slice (IsS80.own_ne HI0.out HO390.out (by decide)));rintro e w44 ⟨rfl,hi,hb,hk⟩;refine ⟨_,rfl,?_⟩;replace HO_5:=ak (R_mono (R_keep (IsS80.apart (show IsS80 w0 _ g s0_0 t382 t383 from (IsS80.now HI0.out)) (rm HO_5.out) (by decide)) hk (fun _ h=>h.2)) (fun _ h=>h.1));replace BK360:=ak (KeepBut.blk hk (g':=gb360) (o:=.cells #[.int .i64 a1_0,.bool a1_1] 28 (0,0)) (bm BK360.out) NB360_0.out (by simp));replace BK384:=ak (KeepBut.blk hk (g':=gb384) (o:=.cells #[.int .i64 t381,.int .i64 t367] 59 (0,0)) (bm BK384.out) NB384_0.out (by simp));replace HO390:=ak (R_mono (R_keep (IsS80.apart (show IsS80 w0 _ g s0_0 t382 t383 from (IsS80.now HI0.out)) (rm HO390.out) (by decide)) hk (fun _ h=>h.2)) (fun _ h=>h.1));replace HK:=ak (KeepBut.trans (kn HK.out) hk (.inl rfl));replace HB:=ak hb;replace HI0:=ak hi;(try clear hb);(try clear hk);(try clear hi);have hcz45_0 : w44.cell? ⟨gb384,0,none⟩ = some (.int .i64 t381):=(blk_cell BK384.out 0).trans rfl;have hcz45_1 : w44.cell? ⟨gb384,1,none⟩ = some (.int .i64 t367):=(blk_cell BK384.out 1).trans rfl;have hfz45_0:=blk_frozen BK384.out 0;have hfz45_1:=blk_frozen BK384.out 1)|((with_reducible refine gate_builtin (b:=.append) (xs:=#[.tmp 37,.tmp 39]) rfl ?_);at_builtin;refine R_append k59 w.heap.size rfl (.tmp 37) (.tmp 39) 30 59 (.agg #[(.int .i64 0),(.int .i64 0)]) 16 rfl Try.underlying30 info59 rfl (by decide) (by omega) u5 x5_1 (⟨t381,t391⟩ : S59) [.int .i64 t381,.int .i64 t391] (fun k_=>k_ ≠ gb384) (fun _=>False) rfl (by first|(go_simp;done)|(go_simp;rfl)) ?aP (fun _ hk=>hk.elim) ?aF ?aO (Below.refl _ _) ?aS ?aL ?_;(case aP=>exact k59_mkM _ _ _ (⟨t381,t391⟩ : S59));(case aF=>exact (fun k_ hk=>Kd.freshB (g:=gb384) (o:=.cells #[.int .i64 t381,.int .i64 t391] 59 (0,0)) (by (with_reducible repeat (first|apply blk_drewN|apply blk_drew|apply blk_alloc));refine blk_put (cs:=#[.int .i64 t381,.int .i64 t367]) ?_ 1 _ rfl;exact bm BK384.out) k_ hk));(case aO=>exact (by (with_reducible repeat (first|apply R_alloc|apply R_drewN|apply R_drew));exact R_mono (R_far (p:=⟨gb384,1,none⟩) (R_mono HO_5.out (fun k_ hk=>(⟨hk,hk.2⟩ : _ ∧ k_ ≠ gb384))) (fun _ hk=>hk.2) (.int .i64 t391)) (fun _ hk=>hk.1.2)));(case aS=>exact (keep_size (w:=w) (g:=g) (row:=none) (kn HK.out)));(case aL=>have:=LMc33.out;omega);intro v395 w46 ho hb hg hat;rw [← Ny394.out] at ho;replace BK360:=ak (blk_grown (g:=gb360) (o:=.cells #[.int .i64 a1_0,.bool a1_1] 28 (0,0)) (by (with_reducible repeat (first|apply blk_drewN|apply blk_drew|apply blk_alloc));refine blk_far ?_ NB360_384.out _;exact bm BK360.out) hg (R_ne HO_5.out BK360.out (by decide)));replace HO390:=ak (R_over' (by (with_reducible repeat (first|apply R_alloc|apply R_drewN|apply R_drew));exact (R_mono (R_far (p:=⟨gb384,1,none⟩) (R_types HO390.out BK384.out (by decide)) (fun _ hk=>hk.2) (.int .i64 t391)) (fun _ h_=>h_.1))) (R_typed (by (with_reducible repeat (first|apply R_alloc|apply R_drewN|apply R_drew));exact (R_mono (R_far (p:=⟨gb384,1,none⟩) (R_mono HO_5.out (fun k_ hk=>(⟨hk,hk.2⟩ : _ ∧ k_ ≠ gb384))) (fun _ hk=>hk.2) (.int .i64 t391)) (fun _ h_=>h_.1)))) (by decide) hg);replace BK384:=ak (blk_grown (g:=gb384) (o:=.cells #[.int .i64 t381,.int .i64 t391] 59 (0,0)) (by (with_reducible repeat (first|apply blk_drewN|apply blk_drew|apply blk_alloc));refine blk_put (cs:=#[.int .i64 t381,.int .i64 t367]) ?_ 1 _ rfl;exact bm BK384.out) hg (R_away HO_5.out (fun _ hk=>hk.2)));replace HB:=ak (below_weaken (h3 HB.out (IsS80.ge HI0.out) GE360.out GE384.out) HL.out hb);replace HI0:=ak (IsS80.grown (show IsS80 w0 _ g s0_0 t392 t393 from (IsS80.now HI0.out)) hg (IsS80.own_ne HI0.out HO_5.out (by decide)));replace HK:=ak (KeepBut.trans (kn HK.out) (KeepBut.of_grown hg g) (R_base2 HO_5.out));have HO396:=ak ho;clear HO_5;clear ho hb hg hat))
  go_roundg k1
  case measure=>have:=HK1.out;omega
  case rel=>exact ⟨(y394),(wrap64 (x8_1 - 1)),(t392),(t393),fd,H',⟨by have:=HK1.out;omega⟩,⟨rm (R_mono HO396.out (fun _ hk=>trivial))⟩,⟨bm BK360.out⟩,⟨(IsS80.now HI0.out)⟩,⟨(kn HK.out)⟩,⟨h3 HB.out (IsS80.ge HI0.out) GE360.out GE384.out⟩⟩

/-! ### spec_DrawAreSensors: function 57 -/
def spec_DrawAreSensors.f (k : Nat) (l0 : List Int) : Option (Int × Bool × (List (S59))):=(spec_l1Cur_line9.f l0 0 0).bind fun bt420=>((spec_l1Cur_sensors9.f k l0 bt420.2.2.1 bt420.2.2.2 bt420.1 bt420.2.1).bind fun bt425=>(some (bt420.1,bt420.2.1,bt425.1)))
theorem spec_DrawAreSensors.mono : ∀ a0 k,LeO (spec_DrawAreSensors.f k a0) (spec_DrawAreSensors.f (k + 1) a0):=by
 intro a0 k
 unfold spec_DrawAreSensors.f
 repeat' first
   | (with_reducible exact spec_l1Cur_sensors9.mono _ _ _ _ _ _)
   | (with_reducible exact LeO.refl _)
   | (with_reducible exact LeO.none _)
   | (with_reducible refine LeO.ite ?_ ?_)
   | (with_reducible refine LeO.bind ?_ (fun _=>?_))
   | exact spec_l1Cur_sensors9.mono _ _ _ _ _ _
   | exact LeO.none _
   | refine LeO.ite ?_ ?_
   | refine LeO.bind ?_ (fun _=>?_)
set_option maxHeartbeats 8000000 in
set_option maxRecDepth 100000 in
theorem spec_DrawAreSensors.calls (k : Nat) (A0 : Option Addr) (c0 : Nat) (l0 : List Int) (r1 : Int) (r2 : Bool) (r3 : List (S59)) (w : World) (hr0 : Kd.C (Kd.int .u8) w A0 l0.length l0) (hc0 : l0.length ≤ c0) (h : spec_DrawAreSensors.f k l0 = some (r1,r2,r3)) :
  Calls Try.prog 57 #[.slice A0 l0.length c0] w fun e w'=>∃ v2_ : Value,e = .returned (.tuple #[.agg #[.int .i64 r1,.bool r2],v2_]) ∧ Kd.R k59 59 w' w.heap.size (fun _=>True) v2_ r3 ∧ Below w.heap.size w w':=by
 have hu28:=Try.underlying28
 have hu80:=Try.underlying80
 have HR0:=Aside0.mk hr0
 have HC0:=Aside0.mk hc0
 clear hr0 hc0
 have HB:=Aside0.mk (Below.refl w.heap.size w)
 have H : ((spec_l1Cur_line9.f l0 0 0).bind fun bt420=>((spec_l1Cur_sensors9.f k l0 bt420.2.2.1 bt420.2.2.2 bt420.1 bt420.2.1).bind fun bt425=>(some (bt420.1,bt420.2.1,bt425.1)))) = some (r1,r2,r3):=h
 clear h
 replace H:=Option.bind_eq_some_iff.mp H
 obtain ⟨⟨t420,t421,t422,t423⟩,A20,H⟩:=H
 (try dsimp only at H)
 have A2:=Aside0.mk A20
 clear A20
 replace H:=Option.bind_eq_some_iff.mp H
 obtain ⟨⟨t425,t428,t429⟩,A30,H⟩:=H
 (try dsimp only at H)
 have A3:=Aside0.mk A30
 clear A30
 simp only [Option.some.injEq,Prod.mk.injEq] at H
 obtain ⟨rfl,rfl,rfl⟩:=H
 go_enter Try.func57,Try.ntmps57
 try go_wp2_with (first|((with_reducible refine gate_dst (N:=2) rfl ?_);refine box_event ?hg (N:=2) ?hd (cs:=#[.int .i64 0,.bool false]) (t:=28) ?hr ?_;(case hd=>rfl);(case hg=>rfl);(case hr=>first|(go_simp;done)|(go_simp;rfl));intro gb418 hg w4 hbox hb;have BK418:=ak hbox;have GW418:=ak ((by rw [hg];exact (below_size (hm HB.out)) : w.heap.size ≤ gb418));have GE418:=ak ((by rw [hg];exact (below_size (hm HB.out)) : w.heap.size ≤ gb418));replace HB:=bs HB hb;clear hb hbox hg)|((with_reducible refine gate_dst (N:=8) rfl ?_);refine box_event ?hg (N:=8) ?hd (cs:=#[.slice A0 l0.length c0,.int .i64 0,.int .u64 0]) (t:=80) ?hr ?_;(case hd=>rfl);(case hg=>rfl);(case hr=>first|(go_simp;done)|(go_simp;rfl));intro gb419 hg w5 hbox hb;have NB418_419:=ak ((by rw [hg];exact Nat.ne_of_lt (blk_lt (g:=gb418) (o:=.cells #[.int .i64 0,.bool false] 28 (0,0)) (bm BK418.out)) : gb418 ≠ gb419));have NB419_418:=ak ((by rw [hg];exact Nat.ne_of_gt (blk_lt (g:=gb418) (o:=.cells #[.int .i64 0,.bool false] 28 (0,0)) (bm BK418.out)) : gb419 ≠ gb418));replace BK418:=kb BK418 hb;have HI419:=ak ((⟨_,_,hbox,(by rw [hg];exact (below_size (h1 HB.out GE418.out)) : w.heap.size ≤ gb419),HR0.out⟩ : IsS80 w w5 gb419 l0 0 0));replace HB:=ak (below_step (h1 HB.out GE418.out) hb);clear hb hbox hg)|((with_reducible refine gate_callee (f:=66) rfl ?_);refine goesL_ (some 10) rfl rfl Try.func66 (by kernel_rfl) rfl #[.pointer (some ⟨gb419,0,none⟩)] rfl gl ?_;(with_reducible refine (spec_l1Cur_line9.calls gb419 l0 0 0 t420 t421 t422 t423 w _ ?side1 ?side2 A2.out).mono ?_);(case side1=>exact IsS80.now HI419.out);(case side2=>exact h2 HB.out (IsS80.ge HI419.out) GE418.out);rintro e w6 ⟨rfl,hi,hb,hk⟩;refine ⟨_,rfl,?_⟩;replace BK418:=ak (KeepBut.blk hk (g':=gb418) (o:=.cells #[.int .i64 0,.bool false] 28 (0,0)) (bm BK418.out) NB418_419.out (by simp));replace HB:=ak hb;replace HI419:=ak hi;(try clear hb);(try clear hk);(try clear hi))|((with_reducible refine gate_dst (N:=5) rfl ?_);refine box_event ?hg (N:=5) ?hd (cs:=#[.int .i64 0,.bool false]) (t:=28) ?hr ?_;(case hd=>rfl);(case hg=>rfl);(case hr=>first|(go_simp;done)|(go_simp;rfl));intro gb424 hg w7 hbox hb;have BK424:=ak hbox;have GW424:=ak ((by rw [hg];exact (below_size (h2 HB.out (IsS80.ge HI419.out) GE418.out)) : w.heap.size ≤ gb424));have GE424:=ak ((by rw [hg];exact (below_size (h2 HB.out (IsS80.ge HI419.out) GE418.out)) : w.heap.size ≤ gb424));replace HB:=ak (below_step (h2 HB.out (IsS80.ge HI419.out) GE418.out) hb);have NB418_424:=ak ((by rw [hg];exact Nat.ne_of_lt (blk_lt (g:=gb418) (o:=.cells #[.int .i64 0,.bool false] 28 (0,0)) (bm BK418.out)) : gb418 ≠ gb424));have NB424_418:=ak ((by rw [hg];exact Nat.ne_of_gt (blk_lt (g:=gb418) (o:=.cells #[.int .i64 0,.bool false] 28 (0,0)) (bm BK418.out)) : gb424 ≠ gb418));replace BK418:=kb BK418 hb;have NB419_424:=ak ((by rw [hg];exact Nat.ne_of_lt (IsS80.lt (show IsS80 w _ gb419 l0 t422 t423 from by exact IsS80.now HI419.out)) : gb419 ≠ gb424));have NB424_419:=ak ((by rw [hg];exact Nat.ne_of_gt (IsS80.lt (show IsS80 w _ gb419 l0 t422 t423 from by exact IsS80.now HI419.out)) : gb424 ≠ gb419));replace HI419:=ak (IsS80.below (by exact IsS80.now HI419.out) hb);clear hb hbox hg;have hnb8:=NB424_418.out;have hnc8:=NB418_424.out;have hnb9:=NB424_419.out;have hnc9:=NB419_424.out;have hcz10_0 : w7.cell? ⟨gb424,0,none⟩ = some (.int .i64 0):=(blk_cell BK424.out 0).trans rfl;have hcz10_1 : w7.cell? ⟨gb424,1,none⟩ = some (.bool false):=(blk_cell BK424.out 1).trans rfl;have hfz10_0:=blk_frozen BK424.out 0;have hfz10_1:=blk_frozen BK424.out 1))
 have n0_ : Aside0 (((w7.setCell ⟨gb424,0,none⟩ (.int .i64 t420)).setCell ⟨gb424,1,none⟩ (.bool t421)).heap[gb418]? = some (.cells #[.int .i64 0,.bool false] 28 (0,0))):=⟨by (with_reducible repeat (first|apply blk_drewN|apply blk_drew|apply blk_alloc));refine blk_far ?_ NB418_424.out _;(with_reducible repeat (first|apply blk_drewN|apply blk_drew|apply blk_alloc));refine blk_far ?_ NB418_424.out _;exact bm BK418.out⟩
 have n1_ : Aside0 (((w7.setCell ⟨gb424,0,none⟩ (.int .i64 t420)).setCell ⟨gb424,1,none⟩ (.bool t421)).heap[gb424]? = some (.cells #[.int .i64 t420,.bool t421] 28 (0,0))):=⟨by (with_reducible repeat (first|apply blk_drewN|apply blk_drew|apply blk_alloc));refine blk_put (cs:=#[.int .i64 t420,.bool false]) ?_ 1 _ rfl;(with_reducible repeat (first|apply blk_drewN|apply blk_drew|apply blk_alloc));refine blk_put (cs:=#[.int .i64 0,.bool false]) ?_ 0 _ rfl;exact bm BK424.out⟩
 have n2_ : Aside0 (IsS80 w ((w7.setCell ⟨gb424,0,none⟩ (.int .i64 t420)).setCell ⟨gb424,1,none⟩ (.bool t421)) gb419 l0 t422 t423):=⟨by exact IsS80.now HI419.out⟩
 have n3_ : Aside0 (Below w.heap.size w ((w7.setCell ⟨gb424,0,none⟩ (.int .i64 t420)).setCell ⟨gb424,1,none⟩ (.bool t421))):=⟨h3 HB.out (IsS80.ge HI419.out) GE418.out GE424.out⟩
 (try clear BK418)
 (try clear BK424)
 (try clear HI419)
 (try clear HB)
 generalize ((w7.setCell ⟨gb424,0,none⟩ (.int .i64 t420)).setCell ⟨gb424,1,none⟩ (.bool t421)) = w11 at n0_ n1_ n2_ n3_ ⊢
 have BK418:=n0_
 have BK424:=n1_
 have HI419:=n2_
 have HB:=n3_
 clear n0_ n1_ n2_ n3_
 replace BK418:=ak (blk_drew BK418.out)
 replace BK424:=ak (blk_drew BK424.out)
 replace HI419:=ak (IsS80.drew HI419.out)
 replace HB:=ak (below_drew1 HB.out)
 refine start_ (n:=6) (S:=fun w'=>w'.cell? ⟨gb424,0,none⟩ = some (.int .i64 t420) ∧ w'.cell? ⟨gb424,1,none⟩ = some (.bool t421)) (ds:=[]) (lb 6 0) (by kernel_rfl) rfl rfl ⟨(blk_cell BK424.out 0).trans rfl,(blk_cell BK424.out 1).trans rfl⟩ (fun hHeld=>?_)
 generalize w11.drew = w12 at BK418 BK424 HI419 HB hHeld ⊢
 refine pure_ (i:=1) (N:=some 12) (v:=?_) (a':=?_) (lb 6 2) rfl rfl (by kernel_rfl) (fun _ _ _ h=>h) (Or.inl ⟨by rfl,?_⟩) ?_ ?_
 rotate_left
 ·intro w'
  go_simp
  with_reducible rfl
 rotate_left
 ·simp only [ap]
  rfl
 refine take_ (i:=0) (N:=some 11) (v:=?_) (a':=?_) (lb 6 3) rfl rfl (by kernel_rfl) (fun _ _ _ h=>h) (Or.inl ⟨by rfl,?_⟩) hHeld ?_ ?_
 rotate_left
 ·rintro w' ⟨s0,s1⟩
  go_simp
  with_reducible rfl
 rotate_left
 ·simp only [ap]
  rfl
 refine take_ (i:=2) (N:=some 13) (v:=?_) (a':=?_) (lb 6 7) rfl rfl (by kernel_rfl) (fun _ _ _ h=>h) (Or.inl ⟨by rfl,?_⟩) hHeld ?_ ?_
 rotate_left
 ·rintro w' ⟨s0,s1⟩
  go_simp
  with_reducible rfl
 rotate_left
 ·simp only [ap]
  rfl
 refine one_ (i:=3) (N:=some 14) (lb 6 15) rfl rfl (by kernel_rfl) (by decide) (fun K hK=>?_)
 refine goes_ Try.func67 (by kernel_rfl) rfl #[.pointer (some ⟨gb419,0,none⟩),.agg #[.int .i64 t420,.bool t421]] (by rfl) rfl rfl gl ?_
 with_reducible refine (spec_l1Cur_sensors9.calls k gb419 l0 t422 t423 t420 t421 t425 t428 t429 w _ ?side1 ?side2 A3.out).mono ?_
 (case side1=>exact IsS80.now HI419.out)
 (case side2=>exact h3 HB.out (IsS80.ge HI419.out) GE418.out GE424.out)
 rintro e w13 ⟨v426,rfl,ho0,hi,hb,hk⟩
 refine ⟨_,rfl,?_⟩
 replace BK418:=ak (KeepBut.blk hk (g':=gb418) (o:=.cells #[.int .i64 0,.bool false] 28 (0,0)) (bm BK418.out) NB418_419.out (by simp))
 replace BK424:=ak (KeepBut.blk hk (g':=gb424) (o:=.cells #[.int .i64 t420,.bool t421] 28 (0,0)) (bm BK424.out) NB424_419.out (by simp))
 have HO427:=ak (R_lower ho0 (below_size (h3 HB.out (IsS80.ge HI419.out) GE418.out GE424.out)))
 replace HB:=ak hb
 replace HI419:=ak hi
 (try clear hb)
 (try clear hb2)
 (try clear hk)
 (try clear hi)
 (try clear ho0)
 refine hK.out _ _ ⟨(blk_cell BK424.out 0).trans rfl,(blk_cell BK424.out 1).trans rfl⟩ (fun hHeld=>?_)
 clear hK K
 refine norm_ (a':=?_) ?_ ?_
 rotate_left
 ·show Act.put _ (some 14) _ = _
  simp only [ap]
  rfl
 refine one_ (i:=4) (N:=none) (lb 6 31) rfl rfl (by kernel_rfl) (by decide) (fun K hK=>?_)
 have hs14 : w13.cell? ⟨gb418,0,none⟩ = some (.int .i64 0):=(blk_cell BK418.out 0).trans rfl
 have hfs14:=blk_frozen BK418.out 0
 have hns14_1:=NB424_418.out
 have hms14_1:=NB418_424.out
 have hs15 : w13.cell? ⟨gb418,1,none⟩ = some (.bool false):=(blk_cell BK418.out 1).trans rfl
 have hfs15:=blk_frozen BK418.out 1
 have hns15_1:=NB424_418.out
 have hms15_1:=NB418_424.out
 refine skip_ (w1:=?_) (by rfl) rfl ?_ ?_
 rotate_left
 ·go_simp
  rfl
 refine hK.out _ _ ⟨((cell_far (p:=⟨gb418,_,none⟩) NB424_418.out _).trans (((cell_far (p:=⟨gb418,_,none⟩) NB424_418.out _).trans (hHeld.1)))),((cell_far (p:=⟨gb418,_,none⟩) NB424_418.out _).trans (((cell_far (p:=⟨gb418,_,none⟩) NB424_418.out _).trans (hHeld.2))))⟩ (fun hHeld=>?_)
 clear hK K
 refine pure_ (i:=5) (N:=some 3) (v:=?_) (a':=?_) (lb 6 63) rfl rfl (by kernel_rfl) (fun _ _ _ h=>h) (Or.inl ⟨by rfl,?_⟩) ?_ ?_
 rotate_left
 ·intro w'
  go_simp
  with_reducible rfl
 rotate_left
 ·simp only [ap]
  rfl
 refine done_ (by kernel_rfl) ?_
 try go_wp2
 refine bodyPost_ret (results_ct rfl _ _ gb418 28 #[.int .i64 t420,.bool t421] (0,0) _ rfl (by (with_reducible repeat (first|apply blk_drewN|apply blk_drew|apply blk_alloc));refine blk_put (cs:=#[.int .i64 t420,.bool false]) ?_ 1 _ rfl;(with_reducible repeat (first|apply blk_drewN|apply blk_drew|apply blk_alloc));refine blk_put (cs:=#[.int .i64 0,.bool false]) ?_ 0 _ rfl;exact bm BK418.out) Try.underlying28 rfl (by kernel_rfl)) rfl ?_
 exact ⟨_,fe,by (with_reducible repeat (first|apply R_alloc|apply R_drewN|apply R_drew));exact R_mono (R_far (p:=⟨gb418,1,none⟩) (R_far (p:=⟨gb418,0,none⟩) (R_types HO427.out BK418.out (by decide)) (fun _ hk=>hk.2) (.int .i64 t420)) (fun _ hk=>hk.2) (.bool t421)) (fun _ hk=>trivial),h3 HB.out (IsS80.ge HI419.out) GE418.out GE424.out⟩

/-! ### spec_DrawSeenBy: function 35 -/
def spec_DrawSeenBy.f (k : Nat) (l0 : List Int) : Option (Int × Bool × (List (S59))):=(spec_DrawAreSensors.f k l0).bind fun bt431=>(some (bt431.1,bt431.2.1,bt431.2.2))
theorem spec_DrawSeenBy.mono : ∀ a0 k,LeO (spec_DrawSeenBy.f k a0) (spec_DrawSeenBy.f (k + 1) a0):=by
 intro a0 k
 unfold spec_DrawSeenBy.f
 repeat' first
   | (with_reducible exact spec_DrawAreSensors.mono _ _)
   | (with_reducible exact LeO.refl _)
   | (with_reducible exact LeO.none _)
   | (with_reducible refine LeO.ite ?_ ?_)
   | (with_reducible refine LeO.bind ?_ (fun _=>?_))
   | exact spec_DrawAreSensors.mono _ _
   | exact LeO.none _
   | refine LeO.ite ?_ ?_
   | refine LeO.bind ?_ (fun _=>?_)
set_option maxHeartbeats 8000000 in
set_option maxRecDepth 100000 in
theorem spec_DrawSeenBy.calls (k : Nat) (A0 : Option Addr) (c0 : Nat) (l0 : List Int) (r1 : Int) (r2 : Bool) (r3 : List (S59)) (w : World) (hr0 : Kd.C (Kd.int .u8) w A0 l0.length l0) (hc0 : l0.length ≤ c0) (h : spec_DrawSeenBy.f k l0 = some (r1,r2,r3)) :
  Calls Try.prog 35 #[.slice A0 l0.length c0] w fun e w'=>∃ v2_ : Value,e = .returned (.tuple #[.agg #[.int .i64 r1,.bool r2],v2_]) ∧ Kd.R k59 59 w' w.heap.size (fun _=>True) v2_ r3 ∧ Below w.heap.size w w':=by
 have hu28:=Try.underlying28
 have HR0:=Aside0.mk hr0
 have HC0:=Aside0.mk hc0
 clear hr0 hc0
 have HB:=Aside0.mk (Below.refl w.heap.size w)
 have H : ((spec_DrawAreSensors.f k l0).bind fun bt431=>(some (bt431.1,bt431.2.1,bt431.2.2))) = some (r1,r2,r3):=h
 clear h
 replace H:=Option.bind_eq_some_iff.mp H
 obtain ⟨⟨t431,t432,t433⟩,A20,H⟩:=H
 (try dsimp only at H)
 have A2:=Aside0.mk A20
 clear A20
 simp only [Option.some.injEq,Prod.mk.injEq] at H
 obtain ⟨rfl,rfl,rfl⟩:=H
 go_enter Try.func35,Try.ntmps35
 go_wp2_with (first|((with_reducible refine gate_dst (N:=2) rfl ?_);refine box_event ?hg (N:=2) ?hd (cs:=#[.int .i64 0,.bool false]) (t:=28) ?hr ?_;(case hd=>rfl);(case hg=>rfl);(case hr=>first|(go_simp;done)|(go_simp;rfl));intro gb430 hg w3 hbox hb;have BK430:=ak hbox;have GW430:=ak ((by rw [hg];exact (below_size (hm HB.out)) : w.heap.size ≤ gb430));have GE430:=ak ((by rw [hg];exact (below_size (hm HB.out)) : w.heap.size ≤ gb430));replace HB:=bs HB hb;clear hb hbox hg)|((with_reducible refine gate_callee (f:=57) rfl ?_);refine goesL_ (some 5) rfl rfl Try.func57 (by kernel_rfl) rfl #[.slice A0 l0.length c0] rfl gl ?_;(with_reducible refine (spec_DrawAreSensors.calls k _ _ l0 t431 t432 t433 _ ?side1 ?side2 A2.out).mono ?_);(case side1=>exact cm (C_below HR0.out HB.out));(case side2=>exact HC0.out);rintro e w4 ⟨v434,rfl,ho0,hb⟩;refine ⟨_,rfl,?_⟩;have HO435:=ak (R_lower ho0 (below_size (h1 HB.out GE430.out)));replace BK430:=kb BK430 hb;replace HB:=ak (below_step (h1 HB.out GE430.out) hb);(try clear hb);(try clear hk);(try clear hi);(try clear ho0);have hcz5_0 : w4.cell? ⟨gb430,0,none⟩ = some (.int .i64 0):=(blk_cell BK430.out 0).trans rfl;have hcz5_1 : w4.cell? ⟨gb430,1,none⟩ = some (.bool false):=(blk_cell BK430.out 1).trans rfl;have hfz5_0:=blk_frozen BK430.out 0;have hfz5_1:=blk_frozen BK430.out 1))
 refine bodyPost_ret (results_ct rfl _ _ gb430 28 #[.int .i64 t431,.bool t432] (0,0) _ rfl (by (with_reducible repeat (first|apply blk_drewN|apply blk_drew|apply blk_alloc));refine blk_put (cs:=#[.int .i64 t431,.bool false]) ?_ 1 _ rfl;(with_reducible repeat (first|apply blk_drewN|apply blk_drew|apply blk_alloc));refine blk_put (cs:=#[.int .i64 0,.bool false]) ?_ 0 _ rfl;exact bm BK430.out) Try.underlying28 rfl (by kernel_rfl)) rfl ?_
 exact ⟨_,fe,by (with_reducible repeat (first|apply R_alloc|apply R_drewN|apply R_drew));exact R_mono (R_far (p:=⟨gb430,1,none⟩) (R_far (p:=⟨gb430,0,none⟩) (R_types HO435.out BK430.out (by decide)) (fun _ hk=>hk.2) (.int .i64 t431)) (fun _ hk=>hk.2) (.bool t432)) (fun _ hk=>trivial),h1 HB.out GE430.out⟩

/-! ### spec_DrawMirrorSensors: function 36 -/
def spec_DrawMirrorSensors.f (k : Nat) (l0 : List Int) : Option (Int × Bool × (List (S59))):=(spec_DrawAreSensors.f k l0).bind fun bt437=>(some (bt437.1,bt437.2.1,bt437.2.2))
theorem spec_DrawMirrorSensors.mono : ∀ a0 k,LeO (spec_DrawMirrorSensors.f k a0) (spec_DrawMirrorSensors.f (k + 1) a0):=by
 intro a0 k
 unfold spec_DrawMirrorSensors.f
 repeat' first
   | (with_reducible exact spec_DrawAreSensors.mono _ _)
   | (with_reducible exact LeO.refl _)
   | (with_reducible exact LeO.none _)
   | (with_reducible refine LeO.ite ?_ ?_)
   | (with_reducible refine LeO.bind ?_ (fun _=>?_))
   | exact spec_DrawAreSensors.mono _ _
   | exact LeO.none _
   | refine LeO.ite ?_ ?_
   | refine LeO.bind ?_ (fun _=>?_)
set_option maxHeartbeats 8000000 in
set_option maxRecDepth 100000 in
theorem spec_DrawMirrorSensors.calls (k : Nat) (A0 : Option Addr) (c0 : Nat) (l0 : List Int) (r1 : Int) (r2 : Bool) (r3 : List (S59)) (w : World) (hr0 : Kd.C (Kd.int .u8) w A0 l0.length l0) (hc0 : l0.length ≤ c0) (h : spec_DrawMirrorSensors.f k l0 = some (r1,r2,r3)) :
  Calls Try.prog 36 #[.slice A0 l0.length c0] w fun e w'=>∃ v2_ : Value,e = .returned (.tuple #[.agg #[.int .i64 r1,.bool r2],v2_]) ∧ Kd.R k59 59 w' w.heap.size (fun _=>True) v2_ r3 ∧ Below w.heap.size w w':=by
 have hu28:=Try.underlying28
 have HR0:=Aside0.mk hr0
 have HC0:=Aside0.mk hc0
 clear hr0 hc0
 have HB:=Aside0.mk (Below.refl w.heap.size w)
 have H : ((spec_DrawAreSensors.f k l0).bind fun bt437=>(some (bt437.1,bt437.2.1,bt437.2.2))) = some (r1,r2,r3):=h
 clear h
 replace H:=Option.bind_eq_some_iff.mp H
 obtain ⟨⟨t437,t438,t439⟩,A20,H⟩:=H
 (try dsimp only at H)
 have A2:=Aside0.mk A20
 clear A20
 simp only [Option.some.injEq,Prod.mk.injEq] at H
 obtain ⟨rfl,rfl,rfl⟩:=H
 go_enter Try.func36,Try.ntmps36
 go_wp2_with (first|((with_reducible refine gate_dst (N:=2) rfl ?_);refine box_event ?hg (N:=2) ?hd (cs:=#[.int .i64 0,.bool false]) (t:=28) ?hr ?_;(case hd=>rfl);(case hg=>rfl);(case hr=>first|(go_simp;done)|(go_simp;rfl));intro gb436 hg w3 hbox hb;have BK436:=ak hbox;have GW436:=ak ((by rw [hg];exact (below_size (hm HB.out)) : w.heap.size ≤ gb436));have GE436:=ak ((by rw [hg];exact (below_size (hm HB.out)) : w.heap.size ≤ gb436));replace HB:=bs HB hb;clear hb hbox hg)|((with_reducible refine gate_callee (f:=57) rfl ?_);refine goesL_ (some 5) rfl rfl Try.func57 (by kernel_rfl) rfl #[.slice A0 l0.length c0] rfl gl ?_;(with_reducible refine (spec_DrawAreSensors.calls k _ _ l0 t437 t438 t439 _ ?side1 ?side2 A2.out).mono ?_);(case side1=>exact cm (C_below HR0.out HB.out));(case side2=>exact HC0.out);rintro e w4 ⟨v440,rfl,ho0,hb⟩;refine ⟨_,rfl,?_⟩;have HO441:=ak (R_lower ho0 (below_size (h1 HB.out GE436.out)));replace BK436:=kb BK436 hb;replace HB:=ak (below_step (h1 HB.out GE436.out) hb);(try clear hb);(try clear hk);(try clear hi);(try clear ho0);have hcz5_0 : w4.cell? ⟨gb436,0,none⟩ = some (.int .i64 0):=(blk_cell BK436.out 0).trans rfl;have hcz5_1 : w4.cell? ⟨gb436,1,none⟩ = some (.bool false):=(blk_cell BK436.out 1).trans rfl;have hfz5_0:=blk_frozen BK436.out 0;have hfz5_1:=blk_frozen BK436.out 1))
 refine bodyPost_ret (results_ct rfl _ _ gb436 28 #[.int .i64 t437,.bool t438] (0,0) _ rfl (by (with_reducible repeat (first|apply blk_drewN|apply blk_drew|apply blk_alloc));refine blk_put (cs:=#[.int .i64 t437,.bool false]) ?_ 1 _ rfl;(with_reducible repeat (first|apply blk_drewN|apply blk_drew|apply blk_alloc));refine blk_put (cs:=#[.int .i64 0,.bool false]) ?_ 0 _ rfl;exact bm BK436.out) Try.underlying28 rfl (by kernel_rfl)) rfl ?_
 exact ⟨_,fe,by (with_reducible repeat (first|apply R_alloc|apply R_drewN|apply R_drew));exact R_mono (R_far (p:=⟨gb436,1,none⟩) (R_far (p:=⟨gb436,0,none⟩) (R_types HO441.out BK436.out (by decide)) (fun _ hk=>hk.2) (.int .i64 t437)) (fun _ hk=>hk.2) (.bool t438)) (fun _ hk=>trivial),h1 HB.out GE436.out⟩

/-! ### laws_vCut: function 37 -/
def laws_vCut.f (l0 : List Int) (a1 : Int) : Option (List Int):=if a1 > (l0.length : Int) then ((some (([] : List Int) : List Int)).bind fun y442=>(if 0 ≤ (l0.length : Int) then (if (l0.length : Int) ≤ (l0.length : Int) then (if y442.length + (l0.drop ((l0.length : Int) : Int).toNat).length < 140737488355328 then ((some (y442 ++ (l0.drop ((l0.length : Int) : Int).toNat) : List Int)).bind fun y446=>(if y446.length < 140737488355328 then (some (y446 ++ [((l0.length : Int)) % 256])) else (none))) else (none)) else (none)) else (none))) else ((some (([] : List Int) : List Int)).bind fun y452=>(if 0 ≤ a1 then (if a1 ≤ (l0.length : Int) then (if y452.length + (l0.drop (a1 : Int).toNat).length < 140737488355328 then ((some (y452 ++ (l0.drop (a1 : Int).toNat) : List Int)).bind fun y456=>(if y456.length < 140737488355328 then (some (y456 ++ [(a1) % 256])) else (none))) else (none)) else (none)) else (none)))
set_option maxHeartbeats 8000000 in
set_option maxRecDepth 100000 in
theorem laws_vCut.calls (A0 : Option Addr) (c0 : Nat) (l0 : List Int) (a1 : Int) (r : List Int) (w : World) (hr0 : Kd.C (Kd.int .u8) w A0 l0.length l0) (hc0 : l0.length ≤ c0) (h : laws_vCut.f l0 a1 = some r) :
  Calls Try.prog 37 #[.slice A0 l0.length c0,.int .i64 a1] w fun e w'=>∃ v0_ : Value,e = .returned (v0_) ∧ Kd.R (Kd.int .u8) 5 w' w.heap.size (fun _=>True) v0_ r ∧ Below w.heap.size w w':=by
 have HR0:=Aside0.mk hr0
 have HC0:=Aside0.mk hc0
 clear hr0 hc0
 have HB:=Aside0.mk (Below.refl w.heap.size w)
 have H : (if a1 > (l0.length : Int) then ((some (([] : List Int) : List Int)).bind fun y442=>(if 0 ≤ (l0.length : Int) then (if (l0.length : Int) ≤ (l0.length : Int) then (if y442.length + (l0.drop ((l0.length : Int) : Int).toNat).length < 140737488355328 then ((some (y442 ++ (l0.drop ((l0.length : Int) : Int).toNat) : List Int)).bind fun y446=>(if y446.length < 140737488355328 then (some (y446 ++ [((l0.length : Int)) % 256])) else (none))) else (none)) else (none)) else (none))) else ((some (([] : List Int) : List Int)).bind fun y452=>(if 0 ≤ a1 then (if a1 ≤ (l0.length : Int) then (if y452.length + (l0.drop (a1 : Int).toNat).length < 140737488355328 then ((some (y452 ++ (l0.drop (a1 : Int).toNat) : List Int)).bind fun y456=>(if y456.length < 140737488355328 then (some (y456 ++ [(a1) % 256])) else (none))) else (none)) else (none)) else (none)))) = some r:=h
 clear h
 by_cases c3 : a1 > (l0.length : Int)
 rotate_left
 ·rw [if_neg c3] at H
  have c3b0 : decide ((l0.length : Int) < a1) = false:=decide_eq_false c3
  clear c3
  obtain ⟨y452,hy452⟩ : ∃ y_ : List Int,y_ = (([] : List Int)):=⟨_,rfl⟩
  replace H : (if 0 ≤ a1 then (if a1 ≤ (l0.length : Int) then (if y452.length + (l0.drop (a1 : Int).toNat).length < 140737488355328 then ((some (y452 ++ (l0.drop (a1 : Int).toNat) : List Int)).bind fun y456=>(if y456.length < 140737488355328 then (some (y456 ++ [(a1) % 256])) else (none))) else (none)) else (none)) else (none)) = some r:=by first|(rw [hy452];with_reducible exact H)|(have H2_:=(Option.bind_some _ _).symm.trans H;rw [hy452];with_reducible exact H2_)|(have H2_:=(Option.bind_some _ _).symm.trans H;with_reducible exact H2_)|with_reducible exact H|(rw [hy452];exact H)|exact H
  have Ny452:=Aside0.mk hy452
  clear hy452
  by_cases c13 : 0 ≤ a1
  rotate_left
  ·rw [if_neg c13] at H
   exact absurd H (by simp)
  rw [if_pos c13] at H
  have c13b0:=eq_true c13
  have c13b1 : decide (0 ≤ a1) = true:=decide_eq_true c13
  clear c13
  by_cases c14 : a1 ≤ (l0.length : Int)
  rotate_left
  ·rw [if_neg c14] at H
   exact absurd H (by simp)
  rw [if_pos c14] at H
  have c14b0:=eq_true c14
  have c14b1 : decide (a1 ≤ (l0.length : Int)) = true:=decide_eq_true c14
  clear c14
  by_cases c15 : y452.length + (l0.drop (a1 : Int).toNat).length < 140737488355328
  rotate_left
  ·rw [if_neg c15] at H
   exact absurd H (by simp)
  rw [if_pos c15] at H
  have LMc15:=Aside0.mk c15
  clear c15
  obtain ⟨y456,hy456⟩ : ∃ y_ : List Int,y_ = (y452 ++ (l0.drop (a1 : Int).toNat)):=⟨_,rfl⟩
  replace H : (if y456.length < 140737488355328 then (some (y456 ++ [(a1) % 256])) else (none)) = some r:=by first|(rw [hy456];with_reducible exact H)|(have H2_:=(Option.bind_some _ _).symm.trans H;rw [hy456];with_reducible exact H2_)|(have H2_:=(Option.bind_some _ _).symm.trans H;with_reducible exact H2_)|with_reducible exact H|(rw [hy456];exact H)|exact H
  have Ny456:=Aside0.mk hy456
  clear hy456
  by_cases c16 : y456.length < 140737488355328
  rotate_left
  ·rw [if_neg c16] at H
   exact absurd H (by simp)
  rw [if_pos c16] at H
  have LMc16:=Aside0.mk c16
  clear c16
  obtain ⟨y459,hy459⟩ : ∃ y_ : List Int,y_ = (y456 ++ [(a1) % 256]):=⟨_,rfl⟩
  replace H : (some y459) = some r:=by first|(rw [hy459];with_reducible exact H)|(have H2_:=(Option.bind_some _ _).symm.trans H;rw [hy459];with_reducible exact H2_)|(have H2_:=(Option.bind_some _ _).symm.trans H;with_reducible exact H2_)|with_reducible exact H|(rw [hy459];exact H)|exact H
  have Ny459:=Aside0.mk hy459
  clear hy459
  obtain rfl:=Option.some.inj H
  go_enter Try.func37,Try.ntmps37
  go_wp2_with (first|((with_reducible refine gate_dst (N:=11) rfl ?_);refine R_lit (Kd.int .u8) _ 5 ?hg (N:=11) ?hd (xs:=([] : List Int)) (inner:=[]) (ok:=fun _=>True) (okp:=fun _=>True) ?hr ?hp (fun _ hk=>hk) trivial (Below.refl _ _) (Nat.le_refl _) (by simp) ?_;(case hd=>rfl);(case hg=>rfl);(case hr=>first|(go_simp;done)|(go_simp;rfl));(case hp=>exact (Reps.none _ _));intro v453 w17 ho18 hb hg_ hnew_;clear hg_ hnew_;(first|rw [← Ny452.out] at ho18|(simp only [Int.reduceToNat] at ho18;rw [← Ny452.out] at ho18));have HO454:=ak (R_lower ho18 (below_size (hm HB.out)));replace HB:=bs HB hb;clear hb ho18;obtain ⟨i019,hi019,_,hsz19,_⟩:=info_parts info5;obtain ⟨A19,hcut19,hA19,hC19⟩:=print_drop_of (P:=Try.prog) (Value.int .u8) 0 49 5 .i64 Try.underlying49 hi019 hsz19 A0 c0 l0 a1 (od) (od) HC0.out;have HR455:=Aside0.mk (C_of_reads (h1:=fun _=>rfl) (hA19 _ (Kd.reads_of_C HR0.out)));have HC455:=Aside0.mk hC19;clear hA19 hC19 hi019 hsz19)|((with_reducible refine gate_builtin (b:=.append) (xs:=#[.tmp 11,.tmp 14]) rfl ?_);at_builtin;refine R_append_rows (Kd.int .u8) (w0:=w) w.heap.size rfl (.tmp 11) (.tmp 14) 49 5 (.int .u8 0) 1 rfl Try.underlying49 info5 rfl (by decide) (by omega) v453 y452 (l0.drop (a1 : Int).toNat) _ _ _ (fun _=>True) (fun _=>False) rfl rfl ?aO ?aR (fun _ _ h=>h) (fun _ h=>h.elim) ?aF ?aB ?aS ?aL ?_;(case aR=>first|(rw [← show (l0.drop (a1 : Int).toNat).length = (l0.length - a1.toNat) from List.length_drop];exact cm (C_below HR455.out HB.out))|(exact cm (C_below HR455.out HB.out)));(case aB=>exact (hm HB.out));(case aF=>exact (fun _ _=>trivial));(case aO=>exact (rm HO454.out));(case aS=>exact (below_size (hm HB.out)));(case aL=>have:=LMc15.out;have hlx_:=(show (l0.drop (a1 : Int).toNat).length = (l0.length - a1.toNat) from List.length_drop);omega);intro v457 w20 ho hb hg hat;rw [← Ny456.out] at ho;replace HB:=ak hb;have HO458:=ak ho;clear HO454;clear ho hb hg hat)|((with_reducible refine gate_builtin (b:=.append) (xs:=#[.tmp 15,.tmp 18]) rfl ?_);at_builtin;refine R_append (Kd.int .u8) (w0:=w) w.heap.size rfl (.tmp 15) (.tmp 18) 49 5 (.int .u8 0) 1 rfl Try.underlying49 info5 rfl (by decide) (by omega) v457 y456 ((a1) % 256) [.int .u8 ((a1) % 256)] (fun _=>True) (fun _=>False) rfl rfl ?aP (fun _ hk=>hk.elim) ?aF ?aO ?aB ?aS ?aL ?_;(case aP=>exact rfl);(case aB=>exact (hm HB.out));(case aF=>exact (fun _ _=>trivial));(case aO=>exact (rm HO458.out));(case aS=>exact (below_size (hm HB.out)));(case aL=>have:=LMc16.out;omega);intro v460 w21 ho hb hg hat;rw [← Ny459.out] at ho;replace HB:=ak hb;have HO461:=ak ho;clear HO458;clear ho hb hg hat))
  go_ret
  exact ⟨_,fe,rm HO461.out,hm HB.out⟩
 rw [if_pos c3] at H
 have c3b0 : decide ((l0.length : Int) < a1) = true:=decide_eq_true c3
 clear c3
 obtain ⟨y442,hy442⟩ : ∃ y_ : List Int,y_ = (([] : List Int)):=⟨_,rfl⟩
 replace H : (if 0 ≤ (l0.length : Int) then (if (l0.length : Int) ≤ (l0.length : Int) then (if y442.length + (l0.drop ((l0.length : Int) : Int).toNat).length < 140737488355328 then ((some (y442 ++ (l0.drop ((l0.length : Int) : Int).toNat) : List Int)).bind fun y446=>(if y446.length < 140737488355328 then (some (y446 ++ [((l0.length : Int)) % 256])) else (none))) else (none)) else (none)) else (none)) = some r:=by first|(rw [hy442];with_reducible exact H)|(have H2_:=(Option.bind_some _ _).symm.trans H;rw [hy442];with_reducible exact H2_)|(have H2_:=(Option.bind_some _ _).symm.trans H;with_reducible exact H2_)|with_reducible exact H|(rw [hy442];exact H)|exact H
 have Ny442:=Aside0.mk hy442
 clear hy442
 by_cases c4 : 0 ≤ (l0.length : Int)
 rotate_left
 ·rw [if_neg c4] at H
  exact absurd H (by simp)
 rw [if_pos c4] at H
 have c4b0:=eq_true c4
 have c4b1 : decide (0 ≤ (l0.length : Int)) = true:=decide_eq_true c4
 clear c4
 by_cases c5 : (l0.length : Int) ≤ (l0.length : Int)
 rotate_left
 ·rw [if_neg c5] at H
  exact absurd H (by simp)
 rw [if_pos c5] at H
 have c5b0:=eq_true c5
 have c5b1 : decide ((l0.length : Int) ≤ (l0.length : Int)) = true:=decide_eq_true c5
 clear c5
 by_cases c6 : y442.length + (l0.drop ((l0.length : Int) : Int).toNat).length < 140737488355328
 rotate_left
 ·rw [if_neg c6] at H
  exact absurd H (by simp)
 rw [if_pos c6] at H
 have LMc6:=Aside0.mk c6
 clear c6
 obtain ⟨y446,hy446⟩ : ∃ y_ : List Int,y_ = (y442 ++ (l0.drop ((l0.length : Int) : Int).toNat)):=⟨_,rfl⟩
 replace H : (if y446.length < 140737488355328 then (some (y446 ++ [((l0.length : Int)) % 256])) else (none)) = some r:=by first|(rw [hy446];with_reducible exact H)|(have H2_:=(Option.bind_some _ _).symm.trans H;rw [hy446];with_reducible exact H2_)|(have H2_:=(Option.bind_some _ _).symm.trans H;with_reducible exact H2_)|with_reducible exact H|(rw [hy446];exact H)|exact H
 have Ny446:=Aside0.mk hy446
 clear hy446
 by_cases c7 : y446.length < 140737488355328
 rotate_left
 ·rw [if_neg c7] at H
  exact absurd H (by simp)
 rw [if_pos c7] at H
 have LMc7:=Aside0.mk c7
 clear c7
 obtain ⟨y449,hy449⟩ : ∃ y_ : List Int,y_ = (y446 ++ [((l0.length : Int)) % 256]):=⟨_,rfl⟩
 replace H : (some y449) = some r:=by first|(rw [hy449];with_reducible exact H)|(have H2_:=(Option.bind_some _ _).symm.trans H;rw [hy449];with_reducible exact H2_)|(have H2_:=(Option.bind_some _ _).symm.trans H;with_reducible exact H2_)|with_reducible exact H|(rw [hy449];exact H)|exact H
 have Ny449:=Aside0.mk hy449
 clear hy449
 obtain rfl:=Option.some.inj H
 go_enter Try.func37,Try.ntmps37
 go_wp2_with (first|((with_reducible refine gate_dst (N:=11) rfl ?_);refine R_lit (Kd.int .u8) _ 5 ?hg (N:=11) ?hd (xs:=([] : List Int)) (inner:=[]) (ok:=fun _=>True) (okp:=fun _=>True) ?hr ?hp (fun _ hk=>hk) trivial (Below.refl _ _) (Nat.le_refl _) (by simp) ?_;(case hd=>rfl);(case hg=>rfl);(case hr=>first|(go_simp;done)|(go_simp;rfl));(case hp=>exact (Reps.none _ _));intro v443 w8 ho9 hb hg_ hnew_;clear hg_ hnew_;(first|rw [← Ny442.out] at ho9|(simp only [Int.reduceToNat] at ho9;rw [← Ny442.out] at ho9));have HO444:=ak (R_lower ho9 (below_size (hm HB.out)));replace HB:=bs HB hb;clear hb ho9;obtain ⟨i010,hi010,_,hsz10,_⟩:=info_parts info5;obtain ⟨A10,hcut10,hA10,hC10⟩:=print_drop_of (P:=Try.prog) (Value.int .u8) 0 49 5 .i64 Try.underlying49 hi010 hsz10 A0 c0 l0 (l0.length : Int) (od) (od) HC0.out;have HR445:=Aside0.mk (C_of_reads (h1:=fun _=>rfl) (hA10 _ (Kd.reads_of_C HR0.out)));have HC445:=Aside0.mk hC10;clear hA10 hC10 hi010 hsz10)|((with_reducible refine gate_builtin (b:=.append) (xs:=#[.tmp 11,.tmp 14]) rfl ?_);at_builtin;refine R_append_rows (Kd.int .u8) (w0:=w) w.heap.size rfl (.tmp 11) (.tmp 14) 49 5 (.int .u8 0) 1 rfl Try.underlying49 info5 rfl (by decide) (by omega) v443 y442 (l0.drop ((l0.length : Int) : Int).toNat) _ _ _ (fun _=>True) (fun _=>False) rfl rfl ?aO ?aR (fun _ _ h=>h) (fun _ h=>h.elim) ?aF ?aB ?aS ?aL ?_;(case aR=>first|(rw [← show (l0.drop ((l0.length : Int) : Int).toNat).length = (l0.length - (l0.length : Int).toNat) from List.length_drop];exact cm (C_below HR445.out HB.out))|(exact cm (C_below HR445.out HB.out))|(refine Eq.mp (congrArg (fun m_=>ReadsRow _ _ _ _ m_ _) (show (l0.drop ((l0.length : Int) : Int).toNat).length = 0 from by simp)) ?_;(exact cm (C_below HR445.out HB.out))));(case aB=>exact (hm HB.out));(case aF=>exact (fun _ _=>trivial));(case aO=>exact (rm HO444.out));(case aS=>exact (below_size (hm HB.out)));(case aL=>have:=LMc6.out;have hlx_:=(show (l0.drop ((l0.length : Int) : Int).toNat).length = (l0.length - (l0.length : Int).toNat) from List.length_drop);omega);intro v447 w11 ho hb hg hat;rw [← Ny446.out] at ho;replace HB:=ak hb;have HO448:=ak ho;clear HO444;clear ho hb hg hat)|((with_reducible refine gate_builtin (b:=.append) (xs:=#[.tmp 15,.tmp 18]) rfl ?_);at_builtin;refine R_append (Kd.int .u8) (w0:=w) w.heap.size rfl (.tmp 15) (.tmp 18) 49 5 (.int .u8 0) 1 rfl Try.underlying49 info5 rfl (by decide) (by omega) v447 y446 (((l0.length : Int)) % 256) [.int .u8 (((l0.length : Int)) % 256)] (fun _=>True) (fun _=>False) rfl rfl ?aP (fun _ hk=>hk.elim) ?aF ?aO ?aB ?aS ?aL ?_;(case aP=>exact rfl);(case aB=>exact (hm HB.out));(case aF=>exact (fun _ _=>trivial));(case aO=>exact (rm HO448.out));(case aS=>exact (below_size (hm HB.out)));(case aL=>have:=LMc7.out;omega);intro v450 w12 ho hb hg hat;rw [← Ny449.out] at ho;replace HB:=ak hb;have HO451:=ak ho;clear HO448;clear ho hb hg hat))
 go_ret
 exact ⟨_,fe,rm HO451.out,hm HB.out⟩

/-! ### laws_vInts: function 38 -/
def laws_vInts.l0 : Nat → List Int → List Int → Int → Option (Bool)
 | 0,_,_,_=>none
 | k + 1,x0,x1,x5=>if x5 < (x0.length : Int) then (if 0 ≤ x5 then (if x5 < (x1.length : Int) then (if (rd x0 x5) = (rd x1 x5) then (laws_vInts.l0 k x0 x1 (wrap64 (x5 + 1))) else (some false)) else (none)) else (none)) else (some true)
def laws_vInts.f (k : Nat) (l0 : List Int) (l1 : List Int) : Option (Bool):=if (l0.length : Int) = (l1.length : Int) then (laws_vInts.l0 k l0 l1 0) else (some false)
theorem laws_vInts.mono_l : ∀ k,(∀ y0 y1 y2,LeO (laws_vInts.l0 k y0 y1 y2) (laws_vInts.l0 (k + 1) y0 y1 y2))
 | 0=>by
  refine ?_<;>(intros;intro r h;simp [laws_vInts.l0] at h)
 | k + 1=>by
  have ih0:=laws_vInts.mono_l k
  refine ?_<;>intros<;>(first|unfold laws_vInts.l0)<;>(repeat' first|(with_reducible exact ih0 ..)|(with_reducible exact LeO.refl _)|(with_reducible exact LeO.none _)|(with_reducible refine LeO.ite ?_ ?_)|(with_reducible refine LeO.bind ?_ (fun _=>?_))|exact ih0 ..|exact LeO.none _|refine LeO.ite ?_ ?_|refine LeO.bind ?_ (fun _=>?_))
theorem laws_vInts.mono : ∀ a0 a1 k,LeO (laws_vInts.f k a0 a1) (laws_vInts.f (k + 1) a0 a1):=by
 intro a0 a1 k
 have ih0:=laws_vInts.mono_l k
 unfold laws_vInts.f
 repeat' first
   | (with_reducible exact ih0 _ _ _)
   | (with_reducible exact LeO.refl _)
   | (with_reducible exact LeO.none _)
   | (with_reducible refine LeO.ite ?_ ?_)
   | (with_reducible refine LeO.bind ?_ (fun _=>?_))
   | exact ih0 _ _ _
   | exact LeO.none _
   | refine LeO.ite ?_ ?_
   | refine LeO.bind ?_ (fun _=>?_)
set_option maxHeartbeats 8000000 in
set_option maxRecDepth 100000 in
theorem laws_vInts.calls (k : Nat) (A0 : Option Addr) (c0 : Nat) (l0 : List Int) (A1 : Option Addr) (c1 : Nat) (l1 : List Int) (r : Bool) (w : World) (hr0 : Kd.C (Kd.int .i64) w A0 l0.length l0) (hc0 : l0.length ≤ c0) (hr1 : Kd.C (Kd.int .i64) w A1 l1.length l1) (hc1 : l1.length ≤ c1) (h : laws_vInts.f k l0 l1 = some r) :
  Calls Try.prog 38 #[.slice A0 l0.length c0,.slice A1 l1.length c1] w fun e w'=>e = .returned (.bool r) ∧ Drawn0 w w':=by
 have HR0:=Aside0.mk hr0
 have HC0:=Aside0.mk hc0
 clear hr0 hc0
 have HR1:=Aside0.mk hr1
 have HC1:=Aside0.mk hc1
 clear hr1 hc1
 have H : (if (l0.length : Int) = (l1.length : Int) then (laws_vInts.l0 k l0 l1 0) else (some false)) = some r:=h
 clear h
 by_cases c3 : (l0.length : Int) = (l1.length : Int)
 rotate_left
 ·rw [if_neg c3] at H
  have c3b0 : ((l0.length : Int) == (l1.length : Int)) = false:=beq_eq_false_iff_ne.mpr c3
  have c3b1 : ((l0.length : Int) != (l1.length : Int)) = true:=bne_iff_ne.mpr c3
  have c3b2 : (l0.length == l1.length) = false:=by first|simpa using c3|(simp at c3 ⊢;omega)
  obtain rfl:=Option.some.inj H
  go_enter Try.func38,Try.ntmps38
  go_wp2
  repeat (go_quiet (fail);try go_wp2)
  go_ret
  exact ⟨by first|rfl|(simp;done)|(simp [*];done),by repeat (first|exact Drawn0.refl _|apply Drawn0.step)⟩
 rw [if_pos c3] at H
 have c3b0 : ((l0.length : Int) == (l1.length : Int)) = true:=beq_iff_eq.mpr c3
 have c3b1 : ((l0.length : Int) != (l1.length : Int)) = false:=bne_eq_false_iff_eq.mpr c3
 have c3b2 : (l0.length == l1.length) = true:=by first|simpa using c3|(simp at c3 ⊢;omega)
 clear c3
 have H':=Aside0.mk H
 clear H
 go_enter Try.func38,Try.ntmps38
 go_wp2
 repeat (go_quiet (fail);try go_wp2)
 go_loopg [5] k (fun kq v5 w'=>∃ (x5_1 : Int),v5 = .int .i64 x5_1 ∧ Aside0 (laws_vInts.l0 kq l0 l1 x5_1 = some r) ∧ Aside0 (kq ≤ k) ∧ Drawn0 w w')
 case atStart=>exact ⟨(0),fd,H',⟨Nat.le_refl _⟩,by repeat (first|exact Drawn0.refl _|apply Drawn0.step)⟩
 clear H'
 try clear c1
 try clear p2
 try clear c3
 try clear c3b0
 try clear c3b1
 try clear c3b2
 obtain ⟨x5_1,rfl,HA,HK1,⟨m1,rfl⟩⟩:=hrel
 cases gk with
 | zero=>exact absurd HA.out (by simp [laws_vInts.l0])
 | succ k1 =>
  have H:=HA.out
  clear HA
  simp only [laws_vInts.l0] at H
  by_cases c4 : x5_1 < (l0.length : Int)
  rotate_left
  ·rw [if_neg c4] at H
   have c4b0 : decide (x5_1 < (l0.length : Int)) = false:=decide_eq_false c4
   clear c4
   obtain rfl:=Option.some.inj H
   go_wp2
   repeat (go_quiet (fail);try go_wp2)
   go_ret
   exact ⟨by first|rfl|(simp;done)|(simp [*];done),by repeat (first|exact Drawn0.refl _|apply Drawn0.step)⟩
  rw [if_pos c4] at H
  have c4b0 : decide (x5_1 < (l0.length : Int)) = true:=decide_eq_true c4
  clear c4
  by_cases c5 : 0 ≤ x5_1
  rotate_left
  ·rw [if_neg c5] at H
   exact absurd H (by simp)
  rw [if_pos c5] at H
  have c5b0 : decide (0 ≤ x5_1) = true:=decide_eq_true c5
  clear c5
  by_cases c6 : x5_1 < (l1.length : Int)
  rotate_left
  ·rw [if_neg c6] at H
   exact absurd H (by simp)
  rw [if_pos c6] at H
  have c6b0 : decide (x5_1 < (l1.length : Int)) = true:=decide_eq_true c6
  clear c6
  by_cases c7 : (rd l0 x5_1) = (rd l1 x5_1)
  rotate_left
  ·rw [if_neg c7] at H
   have c7b0 : ((rd l0 x5_1) == (rd l1 x5_1)) = false:=beq_eq_false_iff_ne.mpr c7
   have c7b1 : ((rd l0 x5_1) != (rd l1 x5_1)) = true:=bne_iff_ne.mpr c7
   obtain rfl:=Option.some.inj H
   have p462 : 0 ≤ (x5_1 : Int):=od
   have q462 : x5_1 < (l0.length : Int):=od
   obtain ⟨ad462,e462,hx462_0⟩:=Kd.at_int HR0.out x5_1 p462 q462
   cases e462
   replace p462:=eq_true p462
   replace q462:=eq_true q462
   have p463 : 0 ≤ (x5_1 : Int):=od
   have q463 : x5_1 < (l1.length : Int):=od
   obtain ⟨ad463,e463,hx463_0⟩:=Kd.at_int HR1.out x5_1 p463 q463
   cases e463
   replace p463:=eq_true p463
   replace q463:=eq_true q463
   go_wp2
   repeat (go_quiet (fail);try go_wp2)
   go_ret
   exact ⟨by first|rfl|(simp;done)|(simp [*];done),by repeat (first|exact Drawn0.refl _|apply Drawn0.step)⟩
  rw [if_pos c7] at H
  have c7b0 : ((rd l0 x5_1) == (rd l1 x5_1)) = true:=beq_iff_eq.mpr c7
  have c7b1 : ((rd l0 x5_1) != (rd l1 x5_1)) = false:=bne_eq_false_iff_eq.mpr c7
  clear c7
  have H':=Aside0.mk H
  clear H
  have p462 : 0 ≤ (x5_1 : Int):=od
  have q462 : x5_1 < (l0.length : Int):=od
  obtain ⟨ad462,e462,hx462_0⟩:=Kd.at_int HR0.out x5_1 p462 q462
  cases e462
  replace p462:=eq_true p462
  replace q462:=eq_true q462
  have p463 : 0 ≤ (x5_1 : Int):=od
  have q463 : x5_1 < (l1.length : Int):=od
  obtain ⟨ad463,e463,hx463_0⟩:=Kd.at_int HR1.out x5_1 p463 q463
  cases e463
  replace p463:=eq_true p463
  replace q463:=eq_true q463
  go_wp2
  repeat (go_quiet (fail);try go_wp2)
  go_roundg k1
  case measure=>have:=HK1.out;omega
  case rel=>exact ⟨(wrap64 (x5_1 + 1)),fd,H',⟨by have:=HK1.out;omega⟩,by repeat (first|exact Drawn0.refl _|apply Drawn0.step)⟩


end
end Go.Proofs.Ytknfhoghimnieaa.QFnSensors
