/- Functions that the law FnWires comes to, and their walks: no condition but those named. -/
import Derived.Test.YtciihopkgblpkaaQFnWiresx0
import Derived.Test.YtciihopkgblpkaaQFnWiresx11
import Derived.Test.YtciihopkgblpkaaQFnWiresx12
namespace Go.Proofs.Ytciihopkgblpkaa.QFnWires
open Go.RowKit Go.Proofs.YtciihopkgblpkaaW.PrintWords Go.Proofs.YtciihopkgblpkaaW.PrintLast Go.Proofs.YtciihopkgblpkaaW.PrintMore Go.Proofs.Ytciihopkgblpkaa.Short
attribute [local go_sem] max2_int min2_int max_two min_two max_three min_three max_four min_four
set_option linter.unusedVariables false
set_option linter.unusedSimpArgs false

section
open Kd
/-! ### spec_l1Cur_wire: function 56 -/
mutual
def spec_l1Cur_wire.l0 : Nat → Int → List Int → Int → Int → Int → List Int → List Int → Option (Int × List Int × List Int × Int × Int)
 | 0,_,_,_,_,_,_,_=>none
 | k + 1,x4,x1000,x1001,x1002,x426000,x426001,x426002=>if x4 ≤ x426000 then (spec_l1Cur_wire.j1 k x4 (decide ((x426001.length : Int) < 8)) x1000 x1001 x1002 x426000 x426001 x426002) else (spec_l1Cur_wire.j1 k x4 false x1000 x1001 x1002 x426000 x426001 x426002)
def spec_l1Cur_wire.j1 : Nat → Int → Bool → List Int → Int → Int → Int → List Int → List Int → Option (Int × List Int × List Int × Int × Int)
 | 0,_,_,_,_,_,_,_,_=>none
 | k + 1,x4,x19,x1000,x1001,x1002,x426000,x426001,x426002=>if x19 = true then ((spec_l1Cur_one.f x1000 x1001 x1002 3).bind fun bt426=>(if bt426.1 = true then (if x426001.length < 17592186044416 then ((spec_l1Cur_pick.f x1000 bt426.2.1 bt426.2.2 2).bind fun bt432=>(if x426002.length < 17592186044416 then (spec_l1Cur_wire.l0 k (wrap64 (x4 + 1)) x1000 bt432.2.1 bt432.2.2 x426000 (x426001 ++ [x4]) (x426002 ++ [wrap64 (1 - (wrap64 (2 * bt432.1)))])) else (none))) else (none)) else (spec_l1Cur_wire.l0 k (wrap64 (x4 + 1)) x1000 bt426.2.1 bt426.2.2 x426000 x426001 x426002))) else ((spec_l1Cur_pick.f x1000 x1001 x1002 50).bind fun bt438=>(if bt438.1 = 0 then ((spec_l1Cur_among.f x1000 bt438.2.1 bt438.2.2 (([0,31,(-1)] : List Int))).bind fun bt444=>(some (bt444.1,x426001,x426002,bt444.2.1,bt444.2.2))) else (if bt438.1 = 1 then (if (x426001.length : Int) > 0 then ((spec_l1Cur_pick.f x1000 bt438.2.1 bt438.2.2 (x426001.length : Int)).bind fun bt447=>((spec_l1Cur_among.f x1000 bt447.2.1 bt447.2.2 (([(-1),wrap64 (x426000 + 1),0] : List Int))).bind fun bt453=>(if 0 ≤ bt447.1 then (if bt447.1 < (x426001.length : Int) then (some (x426000,(x426001.set (bt447.1 : Int).toNat bt453.1),x426002,bt453.2.1,bt453.2.2)) else (none)) else (none)))) else (some (x426000,x426001,x426002,bt438.2.1,bt438.2.2))) else (if bt438.1 = 2 then (if (x426001.length : Int) > 0 then ((spec_l1Cur_pick.f x1000 bt438.2.1 bt438.2.2 (x426001.length : Int)).bind fun bt457=>((spec_l1Cur_among.f x1000 bt457.2.1 bt457.2.2 (([0,2] : List Int))).bind fun bt463=>(if 0 ≤ bt457.1 then (if bt457.1 < (x426002.length : Int) then (some (x426000,x426001,(x426002.set (bt457.1 : Int).toNat bt463.1),bt463.2.1,bt463.2.2)) else (none)) else (none)))) else (some (x426000,x426001,x426002,bt438.2.1,bt438.2.2))) else (if bt438.1 = 3 then (if x426002.length < 17592186044416 then (some (x426000,x426001,(x426002 ++ [1]),bt438.2.1,bt438.2.2)) else (none)) else (if bt438.1 = 4 then (some (30,(([0,1,2,3,4,5,6,7,8] : List Int)),(([1,1,1,1,1,1,1,1,1] : List Int)),bt438.2.1,bt438.2.2)) else (some (x426000,x426001,x426002,bt438.2.1,bt438.2.2))))))))
end
def spec_l1Cur_wire.f (k : Nat) (s0_0 : List Int) (s0_1 : Int) (s0_2 : Int) : Option (Int × List Int × List Int × Int × Int):=(spec_l1Cur_among.f s0_0 s0_1 s0_2 (([6,8,10,5,3,1,20,30] : List Int))).bind fun bt422=>(spec_l1Cur_wire.l0 k 0 s0_0 bt422.2.1 bt422.2.2 bt422.1 ([] : List Int) ([] : List Int))
theorem spec_l1Cur_wire.mono_l : ∀ k,(∀ y0 y1 y2 y3 y4 y5 y6,LeO (spec_l1Cur_wire.l0 k y0 y1 y2 y3 y4 y5 y6) (spec_l1Cur_wire.l0 (k + 1) y0 y1 y2 y3 y4 y5 y6)) ∧ (∀ y0 y1 y2 y3 y4 y5 y6 y7,LeO (spec_l1Cur_wire.j1 k y0 y1 y2 y3 y4 y5 y6 y7) (spec_l1Cur_wire.j1 (k + 1) y0 y1 y2 y3 y4 y5 y6 y7))
 | 0=>by
  refine ⟨?_,?_⟩<;>(intros;intro r h;simp [spec_l1Cur_wire.l0,spec_l1Cur_wire.j1] at h)
 | k + 1=>by
  obtain ⟨ih0,ih1⟩:=spec_l1Cur_wire.mono_l k
  refine ⟨?_,?_⟩<;>intros<;>(first|unfold spec_l1Cur_wire.l0 | unfold spec_l1Cur_wire.j1)<;>(repeat' first|(with_reducible exact ih0 ..)|(with_reducible exact ih1 ..)|(with_reducible exact LeO.refl _)|(with_reducible exact LeO.none _)|(with_reducible refine LeO.ite ?_ ?_)|(with_reducible refine LeO.bind ?_ (fun _=>?_))|exact ih0 ..|exact ih1 ..|exact LeO.none _|refine LeO.ite ?_ ?_|refine LeO.bind ?_ (fun _=>?_))
theorem spec_l1Cur_wire.mono : ∀ a0 a1 a2 k,LeO (spec_l1Cur_wire.f k a0 a1 a2) (spec_l1Cur_wire.f (k + 1) a0 a1 a2):=by
 intro a0 a1 a2 k
 obtain ⟨ih0,ih1⟩:=spec_l1Cur_wire.mono_l k
 unfold spec_l1Cur_wire.f
 repeat' first
   | (with_reducible exact ih0 _ _ _ _ _ _ _)
   | (with_reducible exact ih1 _ _ _ _ _ _ _ _)
   | (with_reducible exact LeO.refl _)
   | (with_reducible exact LeO.none _)
   | (with_reducible refine LeO.ite ?_ ?_)
   | (with_reducible refine LeO.bind ?_ (fun _=>?_))
   | exact ih0 _ _ _ _ _ _ _
   | exact ih1 _ _ _ _ _ _ _ _
   | exact LeO.none _
   | refine LeO.ite ?_ ?_
   | refine LeO.bind ?_ (fun _=>?_)
def spec_l1Cur_wire.T7 : Bool × List (List Nat × List Nat):=(true,[([],[]),([0],[0]),([],[]),([2],[2]),([3],[3]),([4],[4]),([5],[5]),([1,6,3],[1,6]),([0,1,2,3,4,5,6,7],[]),([8,7,7,0,1,2,3,4,5,6,7],[7,8])])
def spec_l1Cur_wire.B7 : List Nat:=[0,1,0,4,12,28,60,127,255,511]
theorem spec_l1Cur_wire.tab7 : rtab .any (opsOf Try.f56 7) = spec_l1Cur_wire.T7:=by kernel_rfl
theorem spec_l1Cur_wire.bits7 : waitsOk spec_l1Cur_wire.T7.2 spec_l1Cur_wire.B7 = true:=by kernel_rfl
def spec_l1Cur_wire.T14 : Bool × List (List Nat × List Nat):=(true,[([],[]),([0],[0]),([],[]),([],[]),([2,3],[2,3]),([],[]),([],[]),([6],[6]),([7],[7]),([8],[8]),([5,9,4],[5,9]),([1,4,0,1,2,3,4,5,6,7,8,9,10],[1,4]),([11,10,10,0,1,2,3,4,5,6,7,8,9,10],[10,11])])
def spec_l1Cur_wire.B14 : List Nat:=[0,1,0,0,12,0,0,64,192,448,1020,2047,4095]
theorem spec_l1Cur_wire.tab14 : rtab .any (opsOf Try.f56 14) = spec_l1Cur_wire.T14:=by kernel_rfl
theorem spec_l1Cur_wire.bits14 : waitsOk spec_l1Cur_wire.T14.2 spec_l1Cur_wire.B14 = true:=by kernel_rfl
def spec_l1Cur_wire.T17 : Bool × List (List Nat × List Nat):=(true,[([],[]),([0],[0]),([],[]),([],[]),([2,3],[2,3]),([],[]),([],[]),([5,6,4],[5,6]),([1,4,0,1,2,3,4,5,6,7],[1,4]),([8,7,7,0,1,2,3,4,5,6,7],[7,8])])
def spec_l1Cur_wire.B17 : List Nat:=[0,1,0,0,12,0,0,124,255,511]
theorem spec_l1Cur_wire.tab17 : rtab .any (opsOf Try.f56 17) = spec_l1Cur_wire.T17:=by kernel_rfl
theorem spec_l1Cur_wire.bits17 : waitsOk spec_l1Cur_wire.T17.2 spec_l1Cur_wire.B17 = true:=by kernel_rfl
set_option maxHeartbeats 8000000 in
set_option maxRecDepth 100000 in
theorem spec_l1Cur_wire.calls (k : Nat) (g : Nat) (s0_0 : List Int) (s0_1 : Int) (s0_2 : Int) (r1 : Int) (r2 : List Int) (r3 : List Int) (r4 : Int) (r5 : Int) (w0 w : World) (hI : IsS64 w0 w g s0_0 s0_1 s0_2) (hB : Below w0.heap.size w0 w) (h : spec_l1Cur_wire.f k s0_0 s0_1 s0_2 = some (r1,r2,r3,r4,r5)) :
  Calls Try.prog 56 #[.pointer (some ⟨g,0,none⟩)] w fun e w'=>∃ v1_ v2_ : Value,e = .returned (.agg #[.int .i64 r1,v1_,v2_]) ∧ Kd.R (Kd.int .i64) 3 w' w.heap.size (fun k_=>ob k_ v2_) v1_ r2 ∧ Kd.R (Kd.int .i64) 3 w' w.heap.size (fun k_=>ob k_ v1_) v2_ r3 ∧ IsS64 w0 w' g s0_0 r4 r5 ∧ Below w0.heap.size w0 w' ∧ KeepBut w w' g none:=by
 have hu27:=Try.underlying27
 have HI0:=Aside0.mk hI
 have HK:=Aside0.mk (KeepBut.refl w g none)
 have HL:=Aside0.mk hB.size
 clear hI
 have HW0:=Aside0.mk hB.size
 have HB:=Aside0.mk hB
 clear hB
 have H : ((spec_l1Cur_among.f s0_0 s0_1 s0_2 (([6,8,10,5,3,1,20,30] : List Int))).bind fun bt422=>(spec_l1Cur_wire.l0 k 0 s0_0 bt422.2.1 bt422.2.2 bt422.1 ([] : List Int) ([] : List Int))) = some (r1,r2,r3,r4,r5):=h
 clear h
 obtain ⟨y419,hy419⟩ : ∃ y_ : List Int,y_ = (([6,8,10,5,3,1,20,30] : List Int)):=⟨_,rfl⟩
 replace H : ((spec_l1Cur_among.f s0_0 s0_1 s0_2 y419).bind fun bt422=>(spec_l1Cur_wire.l0 k 0 s0_0 bt422.2.1 bt422.2.2 bt422.1 ([] : List Int) ([] : List Int))) = some (r1,r2,r3,r4,r5):=by first|(rw [hy419];with_reducible exact H)|(have H2_:=(Option.bind_some _ _).symm.trans H;rw [hy419];with_reducible exact H2_)|(have H2_:=(Option.bind_some _ _).symm.trans H;with_reducible exact H2_)|with_reducible exact H|(rw [hy419];exact H)|exact H
 have Ny419:=Aside0.mk hy419
 clear hy419
 replace H:=Option.bind_eq_some_iff.mp H
 obtain ⟨⟨t422,t423,t424⟩,A20,H⟩:=H
 (try dsimp only at H)
 have A2:=Aside0.mk A20
 clear A20
 have H':=Aside0.mk H
 clear H
 go_enter Try.func56,Try.ntmps56
 go_wp2_with (first|((with_reducible refine gate_dst (N:=2) rfl ?_);(try (refine gate_guard (by rfl) ?_;dsimp only));refine box_event ?hg (N:=2) ?hd (cs:=#[.int .i64 0,.slice none 0 0,.slice none 0 0]) (t:=27) ?hr ?_;(case hd=>rfl);(case hg=>rfl);(case hr=>first|(go_simp;done)|(go_simp;rfl));intro gb418 hg w3 hbox hb;replace HB:=ak (below_step (h1 HB.out (IsS64.ge HI0.out)) hb);have BK418:=ak hbox;have GW418:=ak ((by rw [hg];exact (keep_size (w:=w) (g:=g) (row:=none) (kn HK.out)) : w.heap.size ≤ gb418));have GE418:=ak ((Nat.le_trans HW0.out (by rw [hg];exact (keep_size (w:=w) (g:=g) (row:=none) (kn HK.out)) : w.heap.size ≤ gb418) : w0.heap.size ≤ gb418));replace HK:=ak (KeepBut.trans (kn HK.out) (KeepBut.of_below hb g none) (.inl rfl));have NB0_418:=ak ((by rw [hg];exact Nat.ne_of_lt (IsS64.lt (show IsS64 w0 _ g s0_0 s0_1 s0_2 from (IsS64.now HI0.out))) : g ≠ gb418));have NB418_0:=ak ((by rw [hg];exact Nat.ne_of_gt (IsS64.lt (show IsS64 w0 _ g s0_0 s0_1 s0_2 from (IsS64.now HI0.out))) : gb418 ≠ g));replace HI0:=ak (IsS64.below (g:=g) (IsS64.now HI0.out) hb);clear hb hbox hg)|((with_reducible refine gate_dst (N:=7) rfl ?_);(try (refine gate_guard (by rfl) ?_;dsimp only));refine R_lit (Kd.int .i64) _ 3 ?hg (N:=7) ?hd (xs:=([6,8,10,5,3,1,20,30] : List Int)) (inner:=[.int .i64 6,.int .i64 8,.int .i64 10,.int .i64 5,.int .i64 3,.int .i64 1,.int .i64 20,.int .i64 30]) (ok:=fun _=>True) (okp:=fun _=>True) ?hr ?hp (fun _ hk=>hk) trivial (Below.refl _ _) (Nat.le_refl _) (by simp) ?_;(case hd=>rfl);(case hg=>rfl);(case hr=>first|(go_simp;done)|(go_simp;rfl));(case hp=>exact (Reps.one (show Kd.M (Kd.int .i64) _ _ _ 6 [.int .i64 6] from rfl) (Reps.one (show Kd.M (Kd.int .i64) _ _ _ 8 [.int .i64 8] from rfl) (Reps.one (show Kd.M (Kd.int .i64) _ _ _ 10 [.int .i64 10] from rfl) (Reps.one (show Kd.M (Kd.int .i64) _ _ _ 5 [.int .i64 5] from rfl) (Reps.one (show Kd.M (Kd.int .i64) _ _ _ 3 [.int .i64 3] from rfl) (Reps.one (show Kd.M (Kd.int .i64) _ _ _ 1 [.int .i64 1] from rfl) (Reps.one (show Kd.M (Kd.int .i64) _ _ _ 20 [.int .i64 20] from rfl) (Reps.one (show Kd.M (Kd.int .i64) _ _ _ 30 [.int .i64 30] from rfl) (Reps.none _ _))))))))));intro v420 w4 ho5 hb hg_ hnew_;clear hg_ hnew_;(rw [← Ny419.out] at ho5);have HO421:=ak (R_lower ho5 (keep_size (w:=w) (g:=g) (row:=none) (kn HK.out)));replace BK418:=kb BK418 hb;replace HK:=ak (KeepBut.trans (kn HK.out) (KeepBut.of_below hb g none) (.inl rfl));replace HB:=ak (below_step (h2 HB.out (IsS64.ge HI0.out) GE418.out) hb);replace HI0:=ak (IsS64.below (g:=g) (IsS64.now HI0.out) hb);clear hb ho5;obtain ⟨Ao6,co6,eo6⟩:=R_slice HO421.out;subst eo6)|((with_reducible refine gate_callee (f:=57) rfl ?_);refine goesL_ (some 8) rfl rfl Try.func57 (by kernel_rfl) rfl #[.pointer (some ⟨g,0,none⟩),.slice Ao6 y419.length co6] rfl gl ?_;(with_reducible refine (spec_l1Cur_among.calls g s0_0 s0_1 s0_2 _ _ y419 t422 t423 t424 w0 _ ?side1 ?side2 ?side3 ?side4 ?side5 A2.out).mono ?_);(case side1=>exact IsS64.now HI0.out);(case side2=>exact h2 HB.out (IsS64.ge HI0.out) GE418.out);(case side3=>exact cm (R_reads' HO421.out).2.2);(case side4=>exact (R_reads' HO421.out).2.1);(case side5=>exact far_slice (IsS64.own_ne HI0.out HO421.out (by decide)));rintro e w7 ⟨rfl,hi,hb,hk⟩;refine ⟨_,rfl,?_⟩;replace BK418:=ak (KeepBut.blk hk (g':=gb418) (o:=.cells #[.int .i64 0,.slice none 0 0,.slice none 0 0] 27 (0,0)) (bm BK418.out) NB418_0.out (by simp));replace HO421:=ak (R_mono (R_keep (IsS64.apart (show IsS64 w0 _ g s0_0 s0_1 s0_2 from (IsS64.now HI0.out)) (rm HO421.out) (by decide)) hk (fun _ h=>h.2)) (fun _ h=>h.1));replace HK:=ak (KeepBut.trans (kn HK.out) hk (.inl rfl));replace HB:=ak hb;replace HI0:=ak hi;(try clear hb);(try clear hk);(try clear hi))|((with_reducible refine gate_dst (N:=3) rfl ?_);(try (refine gate_guard (by rfl) ?_;dsimp only));refine box_event ?hg (N:=3) ?hd (cs:=#[.int .i64 0,.slice none 0 0,.slice none 0 0]) (t:=27) ?hr ?_;(case hd=>rfl);(case hg=>rfl);(case hr=>first|(go_simp;done)|(go_simp;rfl));intro gb425 hg w8 hbox hb;replace HO421:=rb HO421 hb;replace HB:=ak (below_step (h2 HB.out (IsS64.ge HI0.out) GE418.out) hb);have BK425:=ak hbox;have GW425:=ak ((by rw [hg];exact (keep_size (w:=w) (g:=g) (row:=none) (kn HK.out)) : w.heap.size ≤ gb425));have GE425:=ak ((Nat.le_trans HW0.out (by rw [hg];exact (keep_size (w:=w) (g:=g) (row:=none) (kn HK.out)) : w.heap.size ≤ gb425) : w0.heap.size ≤ gb425));replace HK:=ak (KeepBut.trans (kn HK.out) (KeepBut.of_below hb g none) (.inl rfl));have NB418_425:=ak ((by rw [hg];exact Nat.ne_of_lt (blk_lt (g:=gb418) (o:=.cells #[.int .i64 0,.slice none 0 0,.slice none 0 0] 27 (0,0)) (bm BK418.out)) : gb418 ≠ gb425));have NB425_418:=ak ((by rw [hg];exact Nat.ne_of_gt (blk_lt (g:=gb418) (o:=.cells #[.int .i64 0,.slice none 0 0,.slice none 0 0] 27 (0,0)) (bm BK418.out)) : gb425 ≠ gb418));replace BK418:=kb BK418 hb;have NB0_425:=ak ((by rw [hg];exact Nat.ne_of_lt (IsS64.lt (show IsS64 w0 _ g s0_0 t423 t424 from (IsS64.now HI0.out))) : g ≠ gb425));have NB425_0:=ak ((by rw [hg];exact Nat.ne_of_gt (IsS64.lt (show IsS64 w0 _ g s0_0 t423 t424 from (IsS64.now HI0.out))) : gb425 ≠ g));replace HI0:=ak (IsS64.below (g:=g) (IsS64.now HI0.out) hb);clear hb hbox hg;have hnb9:=NB425_418.out;have hnc9:=NB418_425.out;have hnb10:=NB425_0.out;have hnc10:=NB0_425.out;have hcz11_0 : w8.cell? ⟨gb425,0,none⟩ = some (.int .i64 0):=(blk_cell BK425.out 0).trans rfl;have hcz11_1 : w8.cell? ⟨gb425,1,none⟩ = some (.slice none 0 0):=(blk_cell BK425.out 1).trans rfl;have hcz11_2 : w8.cell? ⟨gb425,2,none⟩ = some (.slice none 0 0):=(blk_cell BK425.out 2).trans rfl;have hfz11_0:=blk_frozen BK425.out 0;have hfz11_1:=blk_frozen BK425.out 1;have hfz11_2:=blk_frozen BK425.out 2))
 go_loopg [4] k (fun kq v4 w'=>∃ (x4_1 : Int) (x1001_1 : Int) (x1002_1 : Int) (x426001_1 : List Int) (x426002_1 : List Int) (u426001 : Value) (u426002 : Value),v4 = .int .i64 x4_1 ∧ Aside0 (spec_l1Cur_wire.l0 kq x4_1 s0_0 x1001_1 x1002_1 t422 x426001_1 x426002_1 = some (r1,r2,r3,r4,r5)) ∧ Aside0 (kq ≤ k) ∧ Aside0 (Kd.R (Kd.int .i64) 3 w' w.heap.size (fun k_=>ob k_ u426002) u426001 x426001_1) ∧ Aside0 (Kd.R (Kd.int .i64) 3 w' w.heap.size (fun k_=>ob k_ u426001) u426002 x426002_1) ∧ Aside0 (w'.heap[gb418]? = some (.cells #[.int .i64 0,(.slice none 0 0),(.slice none 0 0)] 27 (0,0))) ∧ Aside0 (w'.heap[gb425]? = some (.cells #[.int .i64 t422,u426001,u426002] 27 (0,0))) ∧ Aside0 (IsS64 w0 w' g s0_0 x1001_1 x1002_1) ∧ Aside0 (KeepBut w w' g none) ∧ Aside0 (Below w0.heap.size w0 w'))
 case atStart=>exact ⟨(0),(t423),(t424),(([] : List Int)),(([] : List Int)),(.slice none 0 0),(.slice none 0 0),fd,H',⟨Nat.le_refl _⟩,⟨by first|exact R_nil _ _ _ _ _|exact Kd.N_nil _ _ _ _ _|exact Kd.V_nil _ _ _ _ _|exact Kd.Q_nil _ _ _ _ _|exact Kd.S_nil _ _ _ _ _⟩,⟨by first|exact R_nil _ _ _ _ _|exact Kd.N_nil _ _ _ _ _|exact Kd.V_nil _ _ _ _ _|exact Kd.Q_nil _ _ _ _ _|exact Kd.S_nil _ _ _ _ _⟩,⟨by (with_reducible repeat (fail));refine blk_far ?_ NB418_425.out _;(with_reducible repeat (fail));refine blk_far ?_ NB418_425.out _;(with_reducible repeat (fail));refine blk_far ?_ NB418_425.out _;exact bm BK418.out⟩,⟨by (with_reducible repeat (fail));refine blk_put (cs:=#[.int .i64 t422,.slice none 0 0,.slice none 0 0]) ?_ 2 _ rfl;(with_reducible repeat (fail));refine blk_put (cs:=#[.int .i64 t422,.slice none 0 0,.slice none 0 0]) ?_ 1 _ rfl;(with_reducible repeat (fail));refine blk_put (cs:=#[.int .i64 0,.slice none 0 0,.slice none 0 0]) ?_ 0 _ rfl;exact bm BK425.out⟩,⟨(IsS64.now HI0.out)⟩,⟨(kn HK.out)⟩,⟨h3 HB.out (IsS64.ge HI0.out) GE418.out GE425.out⟩⟩
 clear H'
 clear hcz11_0 hcz11_1 hcz11_2 hfz11_0 hfz11_1 hfz11_2
 obtain ⟨x4_1,x1001_1,x1002_1,x426001_1,x426002_1,u426001,u426002,rfl,HA,HK1,HO_426001,HO_426002,BK418,BK425,HI0,HK,HB⟩:=hrel
 cases gk with
 | zero=>exact absurd HA.out (by simp [spec_l1Cur_wire.l0])
 | succ k1 =>
  have H:=HA.out
  clear HA
  simp only [spec_l1Cur_wire.l0] at H
  have HC12:=Aside0.mk H
  clear H
  go_upto_region 3 with (fail)
  go_cut [19] (fun v19 wc=>∃ (kq : Nat) (x19_11 : Bool),v19 = .bool x19_11 ∧ Aside0 (spec_l1Cur_wire.j1 kq x4_1 x19_11 s0_0 x1001_1 x1002_1 t422 x426001_1 x426002_1 = some (r1,r2,r3,r4,r5)) ∧ Aside0 (kq ≤ k1) ∧ Aside0 (Kd.R (Kd.int .i64) 3 wc w.heap.size (fun k_=>ob k_ u426002) u426001 x426001_1) ∧ Aside0 (Kd.R (Kd.int .i64) 3 wc w.heap.size (fun k_=>ob k_ u426001) u426002 x426002_1) ∧ Aside0 (wc.heap[gb418]? = some (.cells #[.int .i64 0,(.slice none 0 0),(.slice none 0 0)] 27 (0,0))) ∧ Aside0 (wc.heap[gb425]? = some (.cells #[.int .i64 t422,u426001,u426002] 27 (0,0))) ∧ Aside0 (IsS64 w0 wc g s0_0 x1001_1 x1002_1) ∧ Aside0 (KeepBut w wc g none) ∧ Aside0 (Below w0.heap.size w0 wc))
  case first =>
   have H:=HC12.out
   clear HC12
   by_cases c13 : x4_1 ≤ t422
   rotate_left
   ·rw [if_neg c13] at H
    have c13b0 : decide (x4_1 ≤ t422) = false:=decide_eq_false c13
    clear c13
    have H':=Aside0.mk H
    clear H
    have hnb18:=NB425_418.out
    have hnc18:=NB418_425.out
    have hnb19:=NB425_0.out
    have hnc19:=NB0_425.out
    have hcz20_0 : wr.cell? ⟨gb425,0,none⟩ = some (.int .i64 t422):=(blk_cell BK425.out 0).trans rfl
    have hcz20_1 : wr.cell? ⟨gb425,1,none⟩ = some (u426001):=(blk_cell BK425.out 1).trans rfl
    have hcz20_2 : wr.cell? ⟨gb425,2,none⟩ = some (u426002):=(blk_cell BK425.out 2).trans rfl
    have hfz20_0:=blk_frozen BK425.out 0
    have hfz20_1:=blk_frozen BK425.out 1
    have hfz20_2:=blk_frozen BK425.out 2
    go_wp2
    go_meet
    case rel=>exact ⟨_,(false),fd,H',⟨by have:=HK1.out;first|omega|exact Nat.le_refl _⟩,⟨rm HO_426001.out⟩,⟨rm HO_426002.out⟩,⟨bm BK418.out⟩,⟨bm BK425.out⟩,⟨(IsS64.now HI0.out)⟩,⟨(kn HK.out)⟩,⟨h3 HB.out (IsS64.ge HI0.out) GE418.out GE425.out⟩⟩
   rw [if_pos c13] at H
   have c13b0 : decide (x4_1 ≤ t422) = true:=decide_eq_true c13
   clear c13
   have H':=Aside0.mk H
   clear H
   have hnb14:=NB425_418.out
   have hnc14:=NB418_425.out
   have hnb15:=NB425_0.out
   have hnc15:=NB0_425.out
   have hcz16_0 : wr.cell? ⟨gb425,0,none⟩ = some (.int .i64 t422):=(blk_cell BK425.out 0).trans rfl
   have hcz16_1 : wr.cell? ⟨gb425,1,none⟩ = some (u426001):=(blk_cell BK425.out 1).trans rfl
   have hcz16_2 : wr.cell? ⟨gb425,2,none⟩ = some (u426002):=(blk_cell BK425.out 2).trans rfl
   have hfz16_0:=blk_frozen BK425.out 0
   have hfz16_1:=blk_frozen BK425.out 1
   have hfz16_2:=blk_frozen BK425.out 2
   obtain ⟨Ao17,co17,eo17⟩:=R_slice HO_426001.out
   subst eo17
   go_wp2
   go_meet
   case rel=>exact ⟨_,(decide ((x426001_1.length : Int) < 8)),fd,H',⟨by have:=HK1.out;first|omega|exact Nat.le_refl _⟩,⟨rm HO_426001.out⟩,⟨rm HO_426002.out⟩,⟨bm BK418.out⟩,⟨bm BK425.out⟩,⟨(IsS64.now HI0.out)⟩,⟨(kn HK.out)⟩,⟨h3 HB.out (IsS64.ge HI0.out) GE418.out GE425.out⟩⟩
  clear HC12
  obtain ⟨kq,x19_11,rfl,HA,HJ11,HO_426001,HO_426002,BK418,BK425,HI0,HK,HB⟩:=hcut
  cases kq with
  | zero=>exact absurd HA.out (by simp [spec_l1Cur_wire.j1])
  | succ kj11 =>
   have H:=HA.out
   clear HA
   simp only [spec_l1Cur_wire.j1] at H
   by_cases c21 : x19_11 = true
   ·subst c21
    rw [if_pos rfl] at H
    replace H:=Option.bind_eq_some_iff.mp H
    obtain ⟨⟨t426,t427,t428⟩,A220,H⟩:=H
    (try dsimp only at H)
    have A22:=Aside0.mk A220
    clear A220
    by_cases c23 : t426 = true
    rotate_left
    ·replace c23:=Bool.eq_false_iff.mpr c23
     subst c23
     rw [if_neg (show ¬ (false = true) by decide)] at H
     have H':=Aside0.mk H
     clear H
     go_wp2_with (((with_reducible refine gate_callee (f:=62) rfl ?_);refine goesL_ (some 23) rfl rfl Try.func62 (by kernel_rfl) rfl #[.pointer (some ⟨g,0,none⟩),.int .i64 3] rfl gl ?_;(with_reducible refine (spec_l1Cur_one.calls g s0_0 x1001_1 x1002_1 3 false t427 t428 w0 _ ?side1 ?side2 A22.out).mono ?_);(case side1=>exact IsS64.now HI0.out);(case side2=>exact h3 HB.out (IsS64.ge HI0.out) GE418.out GE425.out);rintro e w40 ⟨rfl,hi,hb,hk⟩;refine ⟨_,rfl,?_⟩;replace HO_426001:=ak (R_mono (R_keep (IsS64.apart (show IsS64 w0 _ g s0_0 x1001_1 x1002_1 from (IsS64.now HI0.out)) (rm HO_426001.out) (by decide)) hk (fun _ h=>h.2)) (fun _ h=>h.1));replace HO_426002:=ak (R_mono (R_keep (IsS64.apart (show IsS64 w0 _ g s0_0 x1001_1 x1002_1 from (IsS64.now HI0.out)) (rm HO_426002.out) (by decide)) hk (fun _ h=>h.2)) (fun _ h=>h.1));replace BK418:=ak (KeepBut.blk hk (g':=gb418) (o:=.cells #[.int .i64 0,.slice none 0 0,.slice none 0 0] 27 (0,0)) (bm BK418.out) NB418_0.out (by simp));replace BK425:=ak (KeepBut.blk hk (g':=gb425) (o:=.cells #[.int .i64 t422,u426001,u426002] 27 (0,0)) (bm BK425.out) NB425_0.out (by simp));replace HK:=ak (KeepBut.trans (kn HK.out) hk (.inl rfl));replace HB:=ak hb;replace HI0:=ak hi;(try clear hb);(try clear hk);(try clear hi)))
     go_roundg kj11
     case measure=>have:=HK1.out;have:=HJ11.out;omega
     case rel=>exact ⟨(wrap64 (x4_1 + 1)),(t427),(t428),(x426001_1),(x426002_1),(u426001),(u426002),fd,H',⟨by have:=HK1.out;have:=HJ11.out;omega⟩,⟨rm HO_426001.out⟩,⟨rm HO_426002.out⟩,⟨bm BK418.out⟩,⟨bm BK425.out⟩,⟨(IsS64.now HI0.out)⟩,⟨(kn HK.out)⟩,⟨h3 HB.out (IsS64.ge HI0.out) GE418.out GE425.out⟩⟩
    subst c23
    rw [if_pos rfl] at H
    by_cases c24 : x426001_1.length < 17592186044416
    rotate_left
    ·rw [if_neg c24] at H
     exact absurd H (by simp)
    rw [if_pos c24] at H
    have LMc24:=Aside0.mk c24
    clear c24
    obtain ⟨y429,hy429⟩ : ∃ y_ : List Int,y_ = (x426001_1 ++ [x4_1]):=⟨_,rfl⟩
    replace H : ((spec_l1Cur_pick.f s0_0 t427 t428 2).bind fun bt432=>(if x426002_1.length < 17592186044416 then (spec_l1Cur_wire.l0 kj11 (wrap64 (x4_1 + 1)) s0_0 bt432.2.1 bt432.2.2 t422 y429 (x426002_1 ++ [wrap64 (1 - (wrap64 (2 * bt432.1)))])) else (none))) = some (r1,r2,r3,r4,r5):=by first|(rw [hy429];with_reducible exact H)|(have H2_:=(Option.bind_some _ _).symm.trans H;rw [hy429];with_reducible exact H2_)|(have H2_:=(Option.bind_some _ _).symm.trans H;with_reducible exact H2_)|with_reducible exact H|(rw [hy429];exact H)|exact H
    have Ny429:=Aside0.mk hy429
    clear hy429
    replace H:=Option.bind_eq_some_iff.mp H
    obtain ⟨⟨t432,t433,t434⟩,A250,H⟩:=H
    (try dsimp only at H)
    have A25:=Aside0.mk A250
    clear A250
    by_cases c26 : x426002_1.length < 17592186044416
    rotate_left
    ·rw [if_neg c26] at H
     exact absurd H (by simp)
    rw [if_pos c26] at H
    have LMc26:=Aside0.mk c26
    clear c26
    obtain ⟨y435,hy435⟩ : ∃ y_ : List Int,y_ = (x426002_1 ++ [wrap64 (1 - (wrap64 (2 * t432)))]):=⟨_,rfl⟩
    replace H : (spec_l1Cur_wire.l0 kj11 (wrap64 (x4_1 + 1)) s0_0 t433 t434 t422 y429 y435) = some (r1,r2,r3,r4,r5):=by first|(rw [hy435];with_reducible exact H)|(have H2_:=(Option.bind_some _ _).symm.trans H;rw [hy435];with_reducible exact H2_)|(have H2_:=(Option.bind_some _ _).symm.trans H;with_reducible exact H2_)|with_reducible exact H|(rw [hy435];exact H)|exact H
    have Ny435:=Aside0.mk hy435
    clear hy435
    have H':=Aside0.mk H
    clear H
    try go_wp2_with (first|((with_reducible refine gate_callee (f:=62) rfl ?_);refine goesL_ (some 23) rfl rfl Try.func62 (by kernel_rfl) rfl #[.pointer (some ⟨g,0,none⟩),.int .i64 3] rfl gl ?_;(with_reducible refine (spec_l1Cur_one.calls g s0_0 x1001_1 x1002_1 3 true t427 t428 w0 _ ?side1 ?side2 A22.out).mono ?_);(case side1=>exact IsS64.now HI0.out);(case side2=>exact h3 HB.out (IsS64.ge HI0.out) GE418.out GE425.out);rintro e w27 ⟨rfl,hi,hb,hk⟩;refine ⟨_,rfl,?_⟩;replace HO_426001:=ak (R_mono (R_keep (IsS64.apart (show IsS64 w0 _ g s0_0 x1001_1 x1002_1 from (IsS64.now HI0.out)) (rm HO_426001.out) (by decide)) hk (fun _ h=>h.2)) (fun _ h=>h.1));replace HO_426002:=ak (R_mono (R_keep (IsS64.apart (show IsS64 w0 _ g s0_0 x1001_1 x1002_1 from (IsS64.now HI0.out)) (rm HO_426002.out) (by decide)) hk (fun _ h=>h.2)) (fun _ h=>h.1));replace BK418:=ak (KeepBut.blk hk (g':=gb418) (o:=.cells #[.int .i64 0,.slice none 0 0,.slice none 0 0] 27 (0,0)) (bm BK418.out) NB418_0.out (by simp));replace BK425:=ak (KeepBut.blk hk (g':=gb425) (o:=.cells #[.int .i64 t422,u426001,u426002] 27 (0,0)) (bm BK425.out) NB425_0.out (by simp));replace HK:=ak (KeepBut.trans (kn HK.out) hk (.inl rfl));replace HB:=ak hb;replace HI0:=ak hi;(try clear hb);(try clear hk);(try clear hi);have hnb28:=NB425_418.out;have hnc28:=NB418_425.out;have hnb29:=NB425_0.out;have hnc29:=NB0_425.out;have hcz30_0 : w27.cell? ⟨gb425,0,none⟩ = some (.int .i64 t422):=(blk_cell BK425.out 0).trans rfl;have hcz30_1 : w27.cell? ⟨gb425,1,none⟩ = some (u426001):=(blk_cell BK425.out 1).trans rfl;have hcz30_2 : w27.cell? ⟨gb425,2,none⟩ = some (u426002):=(blk_cell BK425.out 2).trans rfl;have hfz30_0:=blk_frozen BK425.out 0;have hfz30_1:=blk_frozen BK425.out 1;have hfz30_2:=blk_frozen BK425.out 2)|((with_reducible refine gate_builtin (b:=.append) (xs:=#[.tmp 25,.tmp 27]) rfl ?_);(try (refine gate_guard (by rfl) ?_;dsimp only));at_builtin;refine R_append (Kd.int .i64) w.heap.size rfl (.tmp 25) (.tmp 27) 22 3 (.int .i64 0) 8 rfl Try.underlying22 info3 rfl (by decide) (by omega) u426001 x426001_1 x4_1 [.int .i64 x4_1] (fun k_=>ob k_ u426002) (fun _=>False) rfl rfl ?aP (fun _ hk=>hk.elim) ?aF ?aO (Below.refl _ _) ?aS ?aL ?_;(case aP=>exact rfl);(case aF=>exact (fun k_ hk=>Kd.fresh' (R_lt (rm HO_426002.out)) k_ hk));(case aO=>exact (rm HO_426001.out));(case aS=>exact (keep_size (w:=w) (g:=g) (row:=none) (kn HK.out)));(case aL=>have:=LMc24.out;omega);intro v430 w31 ho hb hg hat;rw [← Ny429.out] at ho;replace HO_426002:=ak (R_after (ok:=(fun _=>True)) (rm (R_mono HO_426002.out (fun _ hk=>⟨trivial,hk⟩))) hg hat);replace BK418:=ak (blk_grown (g:=gb418) (o:=.cells #[.int .i64 0,.slice none 0 0,.slice none 0 0] 27 (0,0)) (bm BK418.out) hg (R_ne HO_426001.out BK418.out (by decide)));replace BK425:=ak (blk_grown (g:=gb425) (o:=.cells #[.int .i64 t422,u426001,u426002] 27 (0,0)) (bm BK425.out) hg (R_ne HO_426001.out BK425.out (by decide)));replace HB:=ak (below_weaken (h3 HB.out (IsS64.ge HI0.out) GE418.out GE425.out) HL.out hb);replace HI0:=ak (IsS64.grown (show IsS64 w0 _ g s0_0 t427 t428 from (IsS64.now HI0.out)) hg (IsS64.own_ne HI0.out HO_426001.out (by decide)));replace HK:=ak (KeepBut.trans (kn HK.out) (KeepBut.of_grown hg g) (R_base2 HO_426001.out));have HO431:=ak ho;clear HO_426001;clear ho hb hg hat;obtain ⟨Ao32,co32,eo32⟩:=R_slice HO431.out;subst eo32;have hcz33_0 : w31.cell? ⟨gb425,0,none⟩ = some (.int .i64 t422):=(blk_cell BK425.out 0).trans rfl;have hcz33_1 : w31.cell? ⟨gb425,1,none⟩ = some (u426001):=(blk_cell BK425.out 1).trans rfl;have hcz33_2 : w31.cell? ⟨gb425,2,none⟩ = some (u426002):=(blk_cell BK425.out 2).trans rfl;have hfz33_0:=blk_frozen BK425.out 0;have hfz33_1:=blk_frozen BK425.out 1;have hfz33_2:=blk_frozen BK425.out 2))
    have n0_ : Aside0 (Kd.R (Kd.int .i64) 3 (w31.setCell ⟨gb425,1,none⟩ (.slice Ao32 y429.length co32)) w.heap.size (fun k_=>ob k_ (.slice Ao32 y429.length co32)) u426002 x426002_1):=⟨by (with_reducible repeat (fail));exact R_mono (R_far (p:=⟨gb425,1,none⟩) (R_types HO_426002.out BK425.out (by decide)) (fun _ hk=>hk.2) (.slice Ao32 y429.length co32)) (fun _ hk=>hk.1.2)⟩
    have n1_ : Aside0 (Kd.R (Kd.int .i64) 3 (w31.setCell ⟨gb425,1,none⟩ (.slice Ao32 y429.length co32)) w.heap.size (fun k_=>ob k_ u426002) (.slice Ao32 y429.length co32) y429):=⟨by (with_reducible repeat (fail));exact R_mono (R_far (p:=⟨gb425,1,none⟩) (R_types HO431.out BK425.out (by decide)) (fun _ hk=>hk.2) (.slice Ao32 y429.length co32)) (fun _ hk=>hk.1)⟩
    have n2_ : Aside0 ((w31.setCell ⟨gb425,1,none⟩ (.slice Ao32 y429.length co32)).heap[gb418]? = some (.cells #[.int .i64 0,.slice none 0 0,.slice none 0 0] 27 (0,0))):=⟨by (with_reducible repeat (fail));refine blk_far ?_ NB418_425.out _;exact bm BK418.out⟩
    have n3_ : Aside0 ((w31.setCell ⟨gb425,1,none⟩ (.slice Ao32 y429.length co32)).heap[gb425]? = some (.cells #[.int .i64 t422,.slice Ao32 y429.length co32,u426002] 27 (0,0))):=⟨by (with_reducible repeat (fail));refine blk_put (cs:=#[.int .i64 t422,u426001,u426002]) ?_ 1 _ rfl;exact bm BK425.out⟩
    have n4_ : Aside0 (IsS64 w0 (w31.setCell ⟨gb425,1,none⟩ (.slice Ao32 y429.length co32)) g s0_0 t427 t428):=⟨(IsS64.now HI0.out)⟩
    have n5_ : Aside0 (KeepBut w (w31.setCell ⟨gb425,1,none⟩ (.slice Ao32 y429.length co32)) g none):=⟨(kn HK.out)⟩
    have n6_ : Aside0 (Below w0.heap.size w0 (w31.setCell ⟨gb425,1,none⟩ (.slice Ao32 y429.length co32))):=⟨h3 HB.out (IsS64.ge HI0.out) GE418.out GE425.out⟩
    (try clear HO_426002)
    (try clear HO431)
    (try clear BK418)
    (try clear BK425)
    (try clear HI0)
    (try clear HK)
    (try clear HB)
    generalize (w31.setCell ⟨gb425,1,none⟩ (.slice Ao32 y429.length co32)) = w34 at n0_ n1_ n2_ n3_ n4_ n5_ n6_ ⊢
    have HO_426002:=n0_
    have HO431:=n1_
    have BK418:=n2_
    have BK425:=n3_
    have HI0:=n4_
    have HK:=n5_
    have HB:=n6_
    clear n0_ n1_ n2_ n3_ n4_ n5_ n6_
    replace HO_426002:=ak (R_drew HO_426002.out)
    replace HO431:=ak (R_drew HO431.out)
    replace BK418:=ak (blk_drew BK418.out)
    replace BK425:=ak (blk_drew BK425.out)
    replace HI0:=ak (IsS64.drew HI0.out)
    replace HK:=ak (keep_drew HK.out)
    replace HB:=ak (below_drew1 HB.out)
    refine start_ (n:=10) (S:=fun w'=>w'.cell? ⟨gb425,0,none⟩ = some (.int .i64 t422) ∧ w'.cell? ⟨gb425,1,none⟩ = some (.slice Ao32 y429.length co32) ∧ w'.cell? ⟨gb425,2,none⟩ = some (u426002)) (ds:=[9]) (lb 10 0) (by kernel_rfl) rfl rfl ⟨(blk_cell BK425.out 0).trans rfl,(blk_cell BK425.out 1).trans rfl,(blk_cell BK425.out 2).trans rfl⟩ (fun hHeld=>?_);refine with_tabW spec_l1Cur_wire.tab7 spec_l1Cur_wire.bits7 (fun HT_ HW_=>?_)
    generalize w34.drew = w35 at HO_426002 HO431 BK418 BK425 HI0 HK HB hHeld ⊢
    refine pq 0 (N:=some 30) (lb 10 1) HT_ ?_
    refine pq 2 (N:=some 32) (lb 10 5) HT_ ?_
    refine tq 1 (N:=some 31) (lb 10 7) HT_ HW_ hHeld ?_
    refine one_ (i:=3) (N:=some 33) (lb 10 15) rfl rfl (one_of HT_.out (by kernel_rfl)) (by decide) (fun K hK=>?_)
    refine goes_ Try.func63 (by kernel_rfl) rfl #[.pointer (some ⟨g,0,none⟩),.int .i64 2] (by rfl) rfl rfl gl ?_
    with_reducible refine (spec_l1Cur_pick.calls g s0_0 t427 t428 2 t432 t433 t434 w0 _ ?side1 ?side2 A25.out).mono ?_
    (case side1=>exact IsS64.now HI0.out)
    (case side2=>exact h3 HB.out (IsS64.ge HI0.out) GE418.out GE425.out)
    rintro e w36 ⟨rfl,hi,hb,hk⟩
    refine ⟨_,rfl,?_⟩
    replace HO_426002:=ak (R_mono (R_keep (IsS64.apart (show IsS64 w0 _ g s0_0 t427 t428 from (IsS64.now HI0.out)) (rm HO_426002.out) (by decide)) hk (fun _ h=>h.2)) (fun _ h=>h.1))
    replace BK418:=ak (KeepBut.blk hk (g':=gb418) (o:=.cells #[.int .i64 0,.slice none 0 0,.slice none 0 0] 27 (0,0)) (bm BK418.out) NB418_0.out (by simp))
    replace BK425:=ak (KeepBut.blk hk (g':=gb425) (o:=.cells #[.int .i64 t422,.slice Ao32 y429.length co32,u426002] 27 (0,0)) (bm BK425.out) NB425_0.out (by simp))
    replace HO431:=ak (R_mono (R_keep (IsS64.apart (show IsS64 w0 _ g s0_0 t427 t428 from (IsS64.now HI0.out)) (rm HO431.out) (by decide)) hk (fun _ h=>h.2)) (fun _ h=>h.1))
    replace HK:=ak (KeepBut.trans (kn HK.out) hk (.inl rfl))
    replace HB:=ak hb
    replace HI0:=ak hi
    (try clear hb)
    (try clear hk)
    (try clear hi)
    refine hK.out _ _ ⟨(blk_cell BK425.out 0).trans rfl,(blk_cell BK425.out 1).trans rfl,(blk_cell BK425.out 2).trans rfl⟩ (fun hHeld=>?_)
    clear hK K
    refine norm_ (a':=?_) ?_ ?_
    rotate_left
    ·show Act.put _ (some 33) _ = _
     simp only [ap]
     rfl
    refine pq 4 (N:=some 34) (lb 10 31) HT_ ?_
    refine pq 5 (N:=some 35) (lb 10 63) HT_ ?_
    refine one_ (i:=6) (N:=some 36) (lb 10 127) rfl rfl (one_of HT_.out (by kernel_rfl)) (by decide) (fun K hK=>?_)
    refine value_ (w1:=?_) (v:=?_) (by rfl) rfl ?_ ?_
    rotate_left 2
    ·go_simp
     constructor
     rotate_left
     ·rfl
     rfl
    refine hK.out _ _ ⟨(blk_cell (blk_alloc BK425.out _) 0).trans rfl,(blk_cell (blk_alloc BK425.out _) 1).trans rfl,(blk_cell (blk_alloc BK425.out _) 2).trans rfl⟩ (fun hHeld=>?_)
    clear hK K
    refine norm_ (a':=?_) ?_ ?_
    rotate_left
    ·show Act.put _ (some 36) _ = _
     simp only [ap]
     rfl
    refine one_ (i:=7) (N:=some 37) (lb 10 255) rfl rfl (one_of HT_.out (by kernel_rfl)) (by decide) (fun K hK=>?_)
    refine R_append_step (Kd.int .i64) w.heap.size (by rfl) (.tmp 31) (.tmp 36) 22 3 (.int .i64 0) 8 rfl Try.underlying22 info3 rfl (by decide) (by omega) u426002 x426002_1 (wrap64 (1 - (wrap64 (2 * t432)))) [.int .i64 (wrap64 (1 - (wrap64 (2 * t432))))] (fun k_=>ob k_ (.slice Ao32 y429.length co32)) (fun _=>False) rfl rfl ?aP (fun _ hk=>hk.elim) ?aF ?aO (Below.refl _ _) ?aS ?aL ?_
    (case aP=>exact rfl)
    (case aF=>exact (fun k_ hk=>Kd.fresh' (R_lt (rm HO431.out)) k_ hk))
    (case aO=>exact (rm HO_426002.out))
    (case aS=>exact (keep_size (w:=w) (g:=g) (row:=none) (kn HK.out)))
    (case aL=>have:=LMc26.out;omega)
    intro v436 w37 ho hb hg hat
    rw [← Ny435.out] at ho
    replace BK418:=ak (blk_grown (g:=gb418) (o:=.cells #[.int .i64 0,.slice none 0 0,.slice none 0 0] 27 (0,0)) (bm BK418.out) hg (R_ne HO_426002.out BK418.out (by decide)))
    replace BK425:=ak (blk_grown (g:=gb425) (o:=.cells #[.int .i64 t422,.slice Ao32 y429.length co32,u426002] 27 (0,0)) (bm BK425.out) hg (R_ne HO_426002.out BK425.out (by decide)))
    replace HO431:=ak (R_after (ok:=(fun _=>True)) (rm (R_mono HO431.out (fun _ hk=>⟨trivial,hk⟩))) hg hat)
    replace HB:=ak (below_weaken (h3 HB.out (IsS64.ge HI0.out) GE418.out GE425.out) HL.out hb)
    replace HI0:=ak (IsS64.grown (show IsS64 w0 _ g s0_0 t433 t434 from (IsS64.now HI0.out)) hg (IsS64.own_ne HI0.out HO_426002.out (by decide)))
    replace HK:=ak (KeepBut.trans (kn HK.out) (KeepBut.of_grown hg g) (R_base2 HO_426002.out))
    have HO437:=ak ho
    clear HO_426002
    clear ho hb hg hat
    obtain ⟨Ao38,co38,eo38⟩:=R_slice HO437.out
    (subst eo38)
    refine hK.out _ _ ⟨(blk_cell BK425.out 0).trans rfl,(blk_cell BK425.out 1).trans rfl,(blk_cell BK425.out 2).trans rfl⟩ (fun hHeld=>?_)
    clear hK K
    refine norm_ (a':=?_) ?_ ?_
    rotate_left
    ·show Act.put _ (some 37) _ = _
     simp only [ap]
     rfl
    refine pq 8 (N:=some 38) (lb 10 511) HT_ ?_
    refine last_ (i:=9) (N:=none) (lb 10 1023) rfl rfl (one_of HT_.out (by kernel_rfl)) (by decide) (fun K hK=>?_)
    have hs39 : w37.cell? ⟨gb425,2,none⟩ = some (u426002):=(blk_cell BK425.out 2).trans rfl
    have hfs39:=blk_frozen BK425.out 2
    have hns39_0:=NB418_425.out
    have hms39_0:=NB425_418.out
    refine skip_ (w1:=?_) (by rfl) rfl ?_ ?_
    rotate_left
    ·go_simp
     rfl
    refine hK.out _ _ ?_
    clear hK K
    refine done_ (done_of HT_.out (by kernel_rfl)) ?_
    try go_wp2
    go_roundg kj11
    case measure=>have:=HK1.out;have:=HJ11.out;omega
    case rel=>exact ⟨(wrap64 (x4_1 + 1)),(t433),(t434),(y429),(y435),(.slice Ao32 y429.length co32),(.slice Ao38 y435.length co38),fd,H',⟨by have:=HK1.out;have:=HJ11.out;omega⟩,⟨by (with_reducible repeat (fail));exact R_mono (R_far (p:=⟨gb425,2,none⟩) (R_types HO431.out BK425.out (by decide)) (fun _ hk=>hk.2) (.slice Ao38 y435.length co38)) (fun _ hk=>hk.1.2)⟩,⟨by (with_reducible repeat (fail));exact R_mono (R_far (p:=⟨gb425,2,none⟩) (R_types HO437.out BK425.out (by decide)) (fun _ hk=>hk.2) (.slice Ao38 y435.length co38)) (fun _ hk=>hk.1)⟩,⟨by (with_reducible repeat (fail));refine blk_far ?_ NB418_425.out _;exact bm BK418.out⟩,⟨by (with_reducible repeat (fail));refine blk_put (cs:=#[.int .i64 t422,.slice Ao32 y429.length co32,u426002]) ?_ 2 _ rfl;exact bm BK425.out⟩,⟨(IsS64.now HI0.out)⟩,⟨(kn HK.out)⟩,⟨h3 HB.out (IsS64.ge HI0.out) GE418.out GE425.out⟩⟩
   replace c21:=Bool.eq_false_iff.mpr c21
   subst c21
   rw [if_neg (show ¬ (false = true) by decide)] at H
   replace H:=Option.bind_eq_some_iff.mp H
   obtain ⟨⟨t438,t439,t440⟩,A410,H⟩:=H
   (try dsimp only at H)
   have A41:=Aside0.mk A410
   clear A410
   by_cases c42 : t438 = 0
   ·rw [if_pos c42] at H
    have c42b0 : (t438 == 0) = true:=beq_iff_eq.mpr c42
    have c42b1 : (t438 != 0) = false:=bne_eq_false_iff_eq.mpr c42
    clear c42
    obtain ⟨y441,hy441⟩ : ∃ y_ : List Int,y_ = (([0,31,(-1)] : List Int)):=⟨_,rfl⟩
    replace H : ((spec_l1Cur_among.f s0_0 t439 t440 y441).bind fun bt444=>(some (bt444.1,x426001_1,x426002_1,bt444.2.1,bt444.2.2))) = some (r1,r2,r3,r4,r5):=by first|(rw [hy441];with_reducible exact H)|(have H2_:=(Option.bind_some _ _).symm.trans H;rw [hy441];with_reducible exact H2_)|(have H2_:=(Option.bind_some _ _).symm.trans H;with_reducible exact H2_)|with_reducible exact H|(rw [hy441];exact H)|exact H
    have Ny441:=Aside0.mk hy441
    clear hy441
    replace H:=Option.bind_eq_some_iff.mp H
    obtain ⟨⟨t444,t445,t446⟩,A430,H⟩:=H
    (try dsimp only at H)
    have A43:=Aside0.mk A430
    clear A430
    simp only [Option.some.injEq,Prod.mk.injEq] at H
    obtain ⟨rfl,rfl,rfl,rfl,rfl⟩:=H
    have hnb44:=NB425_418.out
    have hnc44:=NB418_425.out
    have hnb45:=NB425_0.out
    have hnc45:=NB0_425.out
    have hcz46_0 : wc.cell? ⟨gb425,0,none⟩ = some (.int .i64 t422):=(blk_cell BK425.out 0).trans rfl
    have hcz46_1 : wc.cell? ⟨gb425,1,none⟩ = some (u426001):=(blk_cell BK425.out 1).trans rfl
    have hcz46_2 : wc.cell? ⟨gb425,2,none⟩ = some (u426002):=(blk_cell BK425.out 2).trans rfl
    have hfz46_0:=blk_frozen BK425.out 0
    have hfz46_1:=blk_frozen BK425.out 1
    have hfz46_2:=blk_frozen BK425.out 2
    obtain ⟨Ao47,co47,eo47⟩:=R_slice HO_426001.out
    subst eo47
    go_wp2_with (first|((with_reducible refine gate_callee (f:=63) rfl ?_);refine goesL_ (some 43) rfl rfl Try.func63 (by kernel_rfl) rfl #[.pointer (some ⟨g,0,none⟩),.int .i64 50] rfl gl ?_;(with_reducible refine (spec_l1Cur_pick.calls g s0_0 x1001_1 x1002_1 50 t438 t439 t440 w0 _ ?side1 ?side2 A41.out).mono ?_);(case side1=>exact IsS64.now HI0.out);(case side2=>exact h3 HB.out (IsS64.ge HI0.out) GE418.out GE425.out);rintro e w48 ⟨rfl,hi,hb,hk⟩;refine ⟨_,rfl,?_⟩;replace HO_426001:=ak (R_mono (R_keep (IsS64.apart (show IsS64 w0 _ g s0_0 x1001_1 x1002_1 from (IsS64.now HI0.out)) (rm HO_426001.out) (by decide)) hk (fun _ h=>h.2)) (fun _ h=>h.1));replace HO_426002:=ak (R_mono (R_keep (IsS64.apart (show IsS64 w0 _ g s0_0 x1001_1 x1002_1 from (IsS64.now HI0.out)) (rm HO_426002.out) (by decide)) hk (fun _ h=>h.2)) (fun _ h=>h.1));replace BK418:=ak (KeepBut.blk hk (g':=gb418) (o:=.cells #[.int .i64 0,.slice none 0 0,.slice none 0 0] 27 (0,0)) (bm BK418.out) NB418_0.out (by simp));replace BK425:=ak (KeepBut.blk hk (g':=gb425) (o:=.cells #[.int .i64 t422,.slice Ao47 x426001_1.length co47,u426002] 27 (0,0)) (bm BK425.out) NB425_0.out (by simp));replace HK:=ak (KeepBut.trans (kn HK.out) hk (.inl rfl));replace HB:=ak hb;replace HI0:=ak hi;(try clear hb);(try clear hk);(try clear hi))|((with_reducible refine gate_dst (N:=47) rfl ?_);(try (refine gate_guard (by rfl) ?_;dsimp only));refine R_lit (Kd.int .i64) _ 3 ?hg (N:=47) ?hd (xs:=([0,31,(-1)] : List Int)) (inner:=[.int .i64 0,.int .i64 31,.int .i64 (-1)]) (ok:=fun _=>True) (okp:=fun _=>True) ?hr ?hp (fun _ hk=>hk) trivial (Below.refl _ _) (Nat.le_refl _) (by simp) ?_;(case hd=>rfl);(case hg=>rfl);(case hr=>first|(go_simp;done)|(go_simp;rfl));(case hp=>exact (Reps.one (show Kd.M (Kd.int .i64) _ _ _ 0 [.int .i64 0] from rfl) (Reps.one (show Kd.M (Kd.int .i64) _ _ _ 31 [.int .i64 31] from rfl) (Reps.one (show Kd.M (Kd.int .i64) _ _ _ (-1) [.int .i64 (-1)] from rfl) (Reps.none _ _)))));intro v442 w49 ho50 hb hg_ hnew_;clear hg_ hnew_;(rw [← Ny441.out] at ho50);have HO443:=ak (R_lower (R_new' (R_new' ho50 (R_lt (rm HO_426001.out))) (R_lt (rm HO_426002.out))) (keep_size (w:=w) (g:=g) (row:=none) (kn HK.out)));replace HO_426001:=ak (R_elder' (rm HO_426001.out) (R_base ho50) hb);replace HO_426002:=ak (R_elder' (rm HO_426002.out) (R_base ho50) hb);replace BK418:=kb BK418 hb;replace BK425:=kb BK425 hb;replace HK:=ak (KeepBut.trans (kn HK.out) (KeepBut.of_below hb g none) (.inl rfl));replace HB:=ak (below_step (h3 HB.out (IsS64.ge HI0.out) GE418.out GE425.out) hb);replace HI0:=ak (IsS64.below (g:=g) (IsS64.now HI0.out) hb);clear hb ho50;obtain ⟨Ao51,co51,eo51⟩:=R_slice HO443.out;subst eo51)|((with_reducible refine gate_callee (f:=57) rfl ?_);refine goesL_ (some 48) rfl rfl Try.func57 (by kernel_rfl) rfl #[.pointer (some ⟨g,0,none⟩),.slice Ao51 y441.length co51] rfl gl ?_;(with_reducible refine (spec_l1Cur_among.calls g s0_0 t439 t440 _ _ y441 t444 t445 t446 w0 _ ?side1 ?side2 ?side3 ?side4 ?side5 A43.out).mono ?_);(case side1=>exact IsS64.now HI0.out);(case side2=>exact h3 HB.out (IsS64.ge HI0.out) GE418.out GE425.out);(case side3=>exact cm (R_reads' HO443.out).2.2);(case side4=>exact (R_reads' HO443.out).2.1);(case side5=>exact far_slice (IsS64.own_ne HI0.out HO443.out (by decide)));rintro e w52 ⟨rfl,hi,hb,hk⟩;refine ⟨_,rfl,?_⟩;replace HO_426001:=ak (R_mono (R_keep (IsS64.apart (show IsS64 w0 _ g s0_0 t439 t440 from (IsS64.now HI0.out)) (rm HO_426001.out) (by decide)) hk (fun _ h=>h.2)) (fun _ h=>h.1));replace HO_426002:=ak (R_mono (R_keep (IsS64.apart (show IsS64 w0 _ g s0_0 t439 t440 from (IsS64.now HI0.out)) (rm HO_426002.out) (by decide)) hk (fun _ h=>h.2)) (fun _ h=>h.1));replace BK418:=ak (KeepBut.blk hk (g':=gb418) (o:=.cells #[.int .i64 0,.slice none 0 0,.slice none 0 0] 27 (0,0)) (bm BK418.out) NB418_0.out (by simp));replace BK425:=ak (KeepBut.blk hk (g':=gb425) (o:=.cells #[.int .i64 t422,.slice Ao47 x426001_1.length co47,u426002] 27 (0,0)) (bm BK425.out) NB425_0.out (by simp));replace HO443:=ak (R_mono (R_keep (IsS64.apart (show IsS64 w0 _ g s0_0 t439 t440 from (IsS64.now HI0.out)) (rm HO443.out) (by decide)) hk (fun _ h=>h.2)) (fun _ h=>h.1));replace HK:=ak (KeepBut.trans (kn HK.out) hk (.inl rfl));replace HB:=ak hb;replace HI0:=ak hi;(try clear hb);(try clear hk);(try clear hi);have hcz53_0 : w52.cell? ⟨gb425,0,none⟩ = some (.int .i64 t422):=(blk_cell BK425.out 0).trans rfl;have hcz53_1 : w52.cell? ⟨gb425,1,none⟩ = some (.slice Ao47 x426001_1.length co47):=(blk_cell BK425.out 1).trans rfl;have hcz53_2 : w52.cell? ⟨gb425,2,none⟩ = some (u426002):=(blk_cell BK425.out 2).trans rfl;have hfz53_0:=blk_frozen BK425.out 0;have hfz53_1:=blk_frozen BK425.out 1;have hfz53_2:=blk_frozen BK425.out 2;have hnb54:=NB418_0.out;have hnc54:=NB0_418.out;have hcz55_0 : w52.cell? ⟨gb418,0,none⟩ = some (.int .i64 0):=(blk_cell BK418.out 0).trans rfl;have hcz55_1 : w52.cell? ⟨gb418,1,none⟩ = some (.slice none 0 0):=(blk_cell BK418.out 1).trans rfl;have hcz55_2 : w52.cell? ⟨gb418,2,none⟩ = some (.slice none 0 0):=(blk_cell BK418.out 2).trans rfl;have hfz55_0:=blk_frozen BK418.out 0;have hfz55_1:=blk_frozen BK418.out 1;have hfz55_2:=blk_frozen BK418.out 2;obtain ⟨Ao56,co56,eo56⟩:=R_slice HO_426002.out;subst eo56))
    refine bodyPost_ret (results_cell_row rfl _ _ gb418 27 #[.int .i64 t444,.slice Ao47 x426001_1.length co47,.slice Ao56 x426002_1.length co56] (0,0) _ rfl (by (with_reducible repeat (fail));refine blk_put (cs:=#[.int .i64 t444,.slice Ao47 x426001_1.length co47,.slice none 0 0]) ?_ 2 _ rfl;(with_reducible repeat (fail));refine blk_put (cs:=#[.int .i64 t444,.slice none 0 0,.slice none 0 0]) ?_ 1 _ rfl;(with_reducible repeat (fail));refine blk_put (cs:=#[.int .i64 0,.slice none 0 0,.slice none 0 0]) ?_ 0 _ rfl;(with_reducible repeat (fail));refine blk_far ?_ NB418_425.out _;exact bm BK418.out) Try.underlying27 rfl (by kernel_rfl)) rfl ?_
    exact ⟨_,_,fe,by (with_reducible repeat (fail));exact R_mono (R_far (p:=⟨gb418,2,none⟩) (R_far (p:=⟨gb418,1,none⟩) (R_far (p:=⟨gb418,0,none⟩) (R_far (p:=⟨gb425,0,none⟩) (R_types (R_types HO_426001.out BK425.out (by decide)) BK418.out (by decide)) (fun _ hk=>hk.1.2) (.int .i64 t444)) (fun _ hk=>hk.2) (.int .i64 t444)) (fun _ hk=>hk.2) (.slice Ao47 x426001_1.length co47)) (fun _ hk=>hk.2) (.slice Ao56 x426002_1.length co56)) (fun _ hk=>hk.1.1.1),by (with_reducible repeat (fail));exact R_mono (R_far (p:=⟨gb418,2,none⟩) (R_far (p:=⟨gb418,1,none⟩) (R_far (p:=⟨gb418,0,none⟩) (R_far (p:=⟨gb425,0,none⟩) (R_types (R_types HO_426002.out BK425.out (by decide)) BK418.out (by decide)) (fun _ hk=>hk.1.2) (.int .i64 t444)) (fun _ hk=>hk.2) (.int .i64 t444)) (fun _ hk=>hk.2) (.slice Ao47 x426001_1.length co47)) (fun _ hk=>hk.2) (.slice Ao56 x426002_1.length co56)) (fun _ hk=>hk.1.1.1),(IsS64.now HI0.out),h3 HB.out (IsS64.ge HI0.out) GE418.out GE425.out,(kn HK.out)⟩
   rw [if_neg c42] at H
   have c42b0 : (t438 == 0) = false:=beq_eq_false_iff_ne.mpr c42
   have c42b1 : (t438 != 0) = true:=bne_iff_ne.mpr c42
   by_cases c57 : t438 = 1
   ·rw [if_pos c57] at H
    have c57b0 : (t438 == 1) = true:=beq_iff_eq.mpr c57
    have c57b1 : (t438 != 1) = false:=bne_eq_false_iff_eq.mpr c57
    clear c57
    by_cases c58 : (x426001_1.length : Int) > 0
    rotate_left
    ·rw [if_neg c58] at H
     have c58b0 : decide (0 < (x426001_1.length : Int)) = false:=decide_eq_false c58
     have c58b1 : decide (0 < x426001_1.length) = false:=decide_eq_false (by omega)
     clear c58
     simp only [Option.some.injEq,Prod.mk.injEq] at H
     obtain ⟨rfl,rfl,rfl,rfl,rfl⟩:=H
     have hnb82:=NB425_418.out
     have hnc82:=NB418_425.out
     have hnb83:=NB425_0.out
     have hnc83:=NB0_425.out
     have hcz84_0 : wc.cell? ⟨gb425,0,none⟩ = some (.int .i64 t422):=(blk_cell BK425.out 0).trans rfl
     have hcz84_1 : wc.cell? ⟨gb425,1,none⟩ = some (u426001):=(blk_cell BK425.out 1).trans rfl
     have hcz84_2 : wc.cell? ⟨gb425,2,none⟩ = some (u426002):=(blk_cell BK425.out 2).trans rfl
     have hfz84_0:=blk_frozen BK425.out 0
     have hfz84_1:=blk_frozen BK425.out 1
     have hfz84_2:=blk_frozen BK425.out 2
     obtain ⟨Ao85,co85,eo85⟩:=R_slice HO_426001.out
     subst eo85
     go_wp2_with (((with_reducible refine gate_callee (f:=63) rfl ?_);refine goesL_ (some 43) rfl rfl Try.func63 (by kernel_rfl) rfl #[.pointer (some ⟨g,0,none⟩),.int .i64 50] rfl gl ?_;(with_reducible refine (spec_l1Cur_pick.calls g s0_0 x1001_1 x1002_1 50 t438 t439 t440 w0 _ ?side1 ?side2 A41.out).mono ?_);(case side1=>exact IsS64.now HI0.out);(case side2=>exact h3 HB.out (IsS64.ge HI0.out) GE418.out GE425.out);rintro e w86 ⟨rfl,hi,hb,hk⟩;refine ⟨_,rfl,?_⟩;replace HO_426001:=ak (R_mono (R_keep (IsS64.apart (show IsS64 w0 _ g s0_0 x1001_1 x1002_1 from (IsS64.now HI0.out)) (rm HO_426001.out) (by decide)) hk (fun _ h=>h.2)) (fun _ h=>h.1));replace HO_426002:=ak (R_mono (R_keep (IsS64.apart (show IsS64 w0 _ g s0_0 x1001_1 x1002_1 from (IsS64.now HI0.out)) (rm HO_426002.out) (by decide)) hk (fun _ h=>h.2)) (fun _ h=>h.1));replace BK418:=ak (KeepBut.blk hk (g':=gb418) (o:=.cells #[.int .i64 0,.slice none 0 0,.slice none 0 0] 27 (0,0)) (bm BK418.out) NB418_0.out (by simp));replace BK425:=ak (KeepBut.blk hk (g':=gb425) (o:=.cells #[.int .i64 t422,.slice Ao85 x426001_1.length co85,u426002] 27 (0,0)) (bm BK425.out) NB425_0.out (by simp));replace HK:=ak (KeepBut.trans (kn HK.out) hk (.inl rfl));replace HB:=ak hb;replace HI0:=ak hi;(try clear hb);(try clear hk);(try clear hi);have hcz87_0 : w86.cell? ⟨gb425,0,none⟩ = some (.int .i64 t422):=(blk_cell BK425.out 0).trans rfl;have hcz87_1 : w86.cell? ⟨gb425,1,none⟩ = some (.slice Ao85 x426001_1.length co85):=(blk_cell BK425.out 1).trans rfl;have hcz87_2 : w86.cell? ⟨gb425,2,none⟩ = some (u426002):=(blk_cell BK425.out 2).trans rfl;have hfz87_0:=blk_frozen BK425.out 0;have hfz87_1:=blk_frozen BK425.out 1;have hfz87_2:=blk_frozen BK425.out 2;have hnb88:=NB418_0.out;have hnc88:=NB0_418.out;have hcz89_0 : w86.cell? ⟨gb418,0,none⟩ = some (.int .i64 0):=(blk_cell BK418.out 0).trans rfl;have hcz89_1 : w86.cell? ⟨gb418,1,none⟩ = some (.slice none 0 0):=(blk_cell BK418.out 1).trans rfl;have hcz89_2 : w86.cell? ⟨gb418,2,none⟩ = some (.slice none 0 0):=(blk_cell BK418.out 2).trans rfl;have hfz89_0:=blk_frozen BK418.out 0;have hfz89_1:=blk_frozen BK418.out 1;have hfz89_2:=blk_frozen BK418.out 2;obtain ⟨Ao90,co90,eo90⟩:=R_slice HO_426002.out;subst eo90))
     refine bodyPost_ret (results_cell_row rfl _ _ gb418 27 #[.int .i64 t422,.slice Ao85 x426001_1.length co85,.slice Ao90 x426002_1.length co90] (0,0) _ rfl (by (with_reducible repeat (fail));refine blk_put (cs:=#[.int .i64 t422,.slice Ao85 x426001_1.length co85,.slice none 0 0]) ?_ 2 _ rfl;(with_reducible repeat (fail));refine blk_put (cs:=#[.int .i64 t422,.slice none 0 0,.slice none 0 0]) ?_ 1 _ rfl;(with_reducible repeat (fail));refine blk_put (cs:=#[.int .i64 0,.slice none 0 0,.slice none 0 0]) ?_ 0 _ rfl;exact bm BK418.out) Try.underlying27 rfl (by kernel_rfl)) rfl ?_
     exact ⟨_,_,fe,by (with_reducible repeat (fail));exact R_mono (R_far (p:=⟨gb418,2,none⟩) (R_far (p:=⟨gb418,1,none⟩) (R_far (p:=⟨gb418,0,none⟩) (R_types HO_426001.out BK418.out (by decide)) (fun _ hk=>hk.2) (.int .i64 t422)) (fun _ hk=>hk.2) (.slice Ao85 x426001_1.length co85)) (fun _ hk=>hk.2) (.slice Ao90 x426002_1.length co90)) (fun _ hk=>hk.1),by (with_reducible repeat (fail));exact R_mono (R_far (p:=⟨gb418,2,none⟩) (R_far (p:=⟨gb418,1,none⟩) (R_far (p:=⟨gb418,0,none⟩) (R_types HO_426002.out BK418.out (by decide)) (fun _ hk=>hk.2) (.int .i64 t422)) (fun _ hk=>hk.2) (.slice Ao85 x426001_1.length co85)) (fun _ hk=>hk.2) (.slice Ao90 x426002_1.length co90)) (fun _ hk=>hk.1),(IsS64.now HI0.out),h3 HB.out (IsS64.ge HI0.out) GE418.out GE425.out,(kn HK.out)⟩
    rw [if_pos c58] at H
    have c58b0 : decide (0 < (x426001_1.length : Int)) = true:=decide_eq_true c58
    have c58b1 : decide (0 < x426001_1.length) = true:=decide_eq_true (by omega)
    clear c58
    replace H:=Option.bind_eq_some_iff.mp H
    obtain ⟨⟨t447,t448,t449⟩,A590,H⟩:=H
    (try dsimp only at H)
    have A59:=Aside0.mk A590
    clear A590
    obtain ⟨y450,hy450⟩ : ∃ y_ : List Int,y_ = (([(-1),wrap64 (t422 + 1),0] : List Int)):=⟨_,rfl⟩
    replace H : ((spec_l1Cur_among.f s0_0 t448 t449 y450).bind fun bt453=>(if 0 ≤ t447 then (if t447 < (x426001_1.length : Int) then (some (t422,(x426001_1.set (t447 : Int).toNat bt453.1),x426002_1,bt453.2.1,bt453.2.2)) else (none)) else (none))) = some (r1,r2,r3,r4,r5):=by first|(rw [hy450];with_reducible exact H)|(have H2_:=(Option.bind_some _ _).symm.trans H;rw [hy450];with_reducible exact H2_)|(have H2_:=(Option.bind_some _ _).symm.trans H;with_reducible exact H2_)|with_reducible exact H|(rw [hy450];exact H)|exact H
    have Ny450:=Aside0.mk hy450
    clear hy450
    replace H:=Option.bind_eq_some_iff.mp H
    obtain ⟨⟨t453,t454,t455⟩,A600,H⟩:=H
    (try dsimp only at H)
    have A60:=Aside0.mk A600
    clear A600
    by_cases c61 : 0 ≤ t447
    rotate_left
    ·rw [if_neg c61] at H
     exact absurd H (by simp)
    rw [if_pos c61] at H
    have c61b0 : decide (0 ≤ t447) = true:=decide_eq_true c61
    clear c61
    by_cases c62 : t447 < (x426001_1.length : Int)
    rotate_left
    ·rw [if_neg c62] at H
     exact absurd H (by simp)
    rw [if_pos c62] at H
    have c62b0 : decide (t447 < (x426001_1.length : Int)) = true:=decide_eq_true c62
    clear c62
    obtain ⟨y456,hy456⟩ : ∃ y_ : List Int,y_ = (x426001_1.set (t447 : Int).toNat t453):=⟨_,rfl⟩
    replace H : (some (t422,y456,x426002_1,t454,t455)) = some (r1,r2,r3,r4,r5):=by first|(rw [hy456];with_reducible exact H)|(have H2_:=(Option.bind_some _ _).symm.trans H;rw [hy456];with_reducible exact H2_)|(have H2_:=(Option.bind_some _ _).symm.trans H;with_reducible exact H2_)|with_reducible exact H|(rw [hy456];exact H)|exact H
    have Ny456:=Aside0.mk hy456
    clear hy456
    simp only [Option.some.injEq,Prod.mk.injEq] at H
    obtain ⟨rfl,rfl,rfl,rfl,rfl⟩:=H
    have hnb64:=NB425_418.out
    have hnc64:=NB418_425.out
    have hnb65:=NB425_0.out
    have hnc65:=NB0_425.out
    have hcz66_0 : wc.cell? ⟨gb425,0,none⟩ = some (.int .i64 t422):=(blk_cell BK425.out 0).trans rfl
    have hcz66_1 : wc.cell? ⟨gb425,1,none⟩ = some (u426001):=(blk_cell BK425.out 1).trans rfl
    have hcz66_2 : wc.cell? ⟨gb425,2,none⟩ = some (u426002):=(blk_cell BK425.out 2).trans rfl
    have hfz66_0:=blk_frozen BK425.out 0
    have hfz66_1:=blk_frozen BK425.out 1
    have hfz66_2:=blk_frozen BK425.out 2
    obtain ⟨Ao67,co67,eo67⟩:=R_slice HO_426001.out
    subst eo67
    try go_wp2_with (((with_reducible refine gate_callee (f:=63) rfl ?_);refine goesL_ (some 43) rfl rfl Try.func63 (by kernel_rfl) rfl #[.pointer (some ⟨g,0,none⟩),.int .i64 50] rfl gl ?_;(with_reducible refine (spec_l1Cur_pick.calls g s0_0 x1001_1 x1002_1 50 t438 t439 t440 w0 _ ?side1 ?side2 A41.out).mono ?_);(case side1=>exact IsS64.now HI0.out);(case side2=>exact h3 HB.out (IsS64.ge HI0.out) GE418.out GE425.out);rintro e w68 ⟨rfl,hi,hb,hk⟩;refine ⟨_,rfl,?_⟩;replace HO_426001:=ak (R_mono (R_keep (IsS64.apart (show IsS64 w0 _ g s0_0 x1001_1 x1002_1 from (IsS64.now HI0.out)) (rm HO_426001.out) (by decide)) hk (fun _ h=>h.2)) (fun _ h=>h.1));replace HO_426002:=ak (R_mono (R_keep (IsS64.apart (show IsS64 w0 _ g s0_0 x1001_1 x1002_1 from (IsS64.now HI0.out)) (rm HO_426002.out) (by decide)) hk (fun _ h=>h.2)) (fun _ h=>h.1));replace BK418:=ak (KeepBut.blk hk (g':=gb418) (o:=.cells #[.int .i64 0,.slice none 0 0,.slice none 0 0] 27 (0,0)) (bm BK418.out) NB418_0.out (by simp));replace BK425:=ak (KeepBut.blk hk (g':=gb425) (o:=.cells #[.int .i64 t422,.slice Ao67 x426001_1.length co67,u426002] 27 (0,0)) (bm BK425.out) NB425_0.out (by simp));replace HK:=ak (KeepBut.trans (kn HK.out) hk (.inl rfl));replace HB:=ak hb;replace HI0:=ak hi;(try clear hb);(try clear hk);(try clear hi)))
    replace HO_426001:=ak (R_drew HO_426001.out)
    replace HO_426002:=ak (R_drew HO_426002.out)
    replace BK418:=ak (blk_drew BK418.out)
    replace BK425:=ak (blk_drew BK425.out)
    replace HI0:=ak (IsS64.drew HI0.out)
    replace HK:=ak (keep_drew HK.out)
    replace HB:=ak (below_drew1 HB.out)
    refine start_ (n:=13) (S:=fun w'=>w'.cell? ⟨gb425,0,none⟩ = some (.int .i64 t422) ∧ w'.cell? ⟨gb425,1,none⟩ = some (.slice Ao67 x426001_1.length co67) ∧ w'.cell? ⟨gb425,2,none⟩ = some (u426002)) (ds:=[12]) (lb 13 0) (by kernel_rfl) rfl rfl ⟨(blk_cell BK425.out 0).trans rfl,(blk_cell BK425.out 1).trans rfl,(blk_cell BK425.out 2).trans rfl⟩ (fun hHeld=>?_);refine with_tabW spec_l1Cur_wire.tab14 spec_l1Cur_wire.bits14 (fun HT_ HW_=>?_)
    generalize w68.drew = w69 at HO_426001 HO_426002 BK418 BK425 HI0 HK HB hHeld ⊢
    refine pq 0 (N:=some 54) (lb 13 1) HT_ ?_
    refine pq 2 (N:=some 56) (lb 13 5) HT_ ?_
    refine pq 3 (N:=some 57) (lb 13 13) HT_ ?_
    refine pq 5 (N:=some 59) (lb 13 45) HT_ ?_
    refine pq 6 (N:=some 60) (lb 13 109) HT_ ?_
    refine tq 1 (N:=some 55) (lb 13 111) HT_ HW_ hHeld ?_
    refine tq 7 (N:=some 61) (lb 13 239) HT_ HW_ hHeld ?_
    refine pq 8 (N:=some 62) (lb 13 495) HT_ ?_
    refine join_ (σ:=Value) 3 (lb 13 1023) (fun s_=>[(58,.int .i64 t447),(63,s_)]) (fun s_ w'=>(w'.cell? ⟨gb425,0,none⟩ = some (.int .i64 t422) ∧ w'.cell? ⟨gb425,1,none⟩ = some (.slice Ao67 x426001_1.length co67) ∧ w'.cell? ⟨gb425,2,none⟩ = some (u426002)) ∧ (Kd.R (Kd.int .i64) 3 w' w.heap.size (fun k_=>ob k_ (.slice Ao67 x426001_1.length co67) ∧ ob k_ u426002) s_ y450) ∧ (Kd.R (Kd.int .i64) 3 w' w.heap.size (fun k_=>ob k_ s_ ∧ ob k_ u426002) (.slice Ao67 x426001_1.length co67) x426001_1) ∧ (Kd.R (Kd.int .i64) 3 w' w.heap.size (fun k_=>ob k_ s_ ∧ ob k_ (.slice Ao67 x426001_1.length co67)) u426002 x426002_1) ∧ (w'.heap[gb418]? = some (.cells #[.int .i64 0,.slice none 0 0,.slice none 0 0] 27 (0,0))) ∧ (w'.heap[gb425]? = some (.cells #[.int .i64 t422,.slice Ao67 x426001_1.length co67,u426002] 27 (0,0))) ∧ (IsS64 w0 w' g s0_0 t448 t449) ∧ (KeepBut w w' g none) ∧ (Below w0.heap.size w0 w')) ?_ ?_
    rotate_left
    ·intro hCont
     refine two_ (i:=4) (j:=9) (Ni:=some 58) (Nj:=some 63) (lb 13 511) (lb 13 1007) rfl rfl rfl rfl (two_of HT_.out (by kernel_rfl)) (by decide) (by decide) (fun K hK=>?_) (fun K hK=>?_)
     ·skip
      refine goes_ Try.func63 (by kernel_rfl) rfl #[.pointer (some ⟨g,0,none⟩),.int .i64 (x426001_1.length : Int)] (by rfl) rfl rfl gl ?_
      with_reducible refine (spec_l1Cur_pick.calls g s0_0 t439 t440 (x426001_1.length : Int) t447 t448 t449 w0 _ ?side1 ?side2 A59.out).mono ?_
      (case side1=>exact IsS64.now HI0.out)
      (case side2=>exact h3 HB.out (IsS64.ge HI0.out) GE418.out GE425.out)
      rintro e w70 ⟨rfl,hi,hb,hk⟩
      refine ⟨_,rfl,?_⟩
      replace HO_426001:=ak (R_mono (R_keep (IsS64.apart (show IsS64 w0 _ g s0_0 t439 t440 from (IsS64.now HI0.out)) (rm HO_426001.out) (by decide)) hk (fun _ h=>h.2)) (fun _ h=>h.1))
      replace HO_426002:=ak (R_mono (R_keep (IsS64.apart (show IsS64 w0 _ g s0_0 t439 t440 from (IsS64.now HI0.out)) (rm HO_426002.out) (by decide)) hk (fun _ h=>h.2)) (fun _ h=>h.1))
      replace BK418:=ak (KeepBut.blk hk (g':=gb418) (o:=.cells #[.int .i64 0,.slice none 0 0,.slice none 0 0] 27 (0,0)) (bm BK418.out) NB418_0.out (by simp))
      replace BK425:=ak (KeepBut.blk hk (g':=gb425) (o:=.cells #[.int .i64 t422,.slice Ao67 x426001_1.length co67,u426002] 27 (0,0)) (bm BK425.out) NB425_0.out (by simp))
      replace HK:=ak (KeepBut.trans (kn HK.out) hk (.inl rfl))
      replace HB:=ak hb
      replace HI0:=ak hi
      (try clear hb)
      (try clear hk)
      (try clear hi)
      refine hK.out _ _ ⟨(blk_cell BK425.out 0).trans rfl,(blk_cell BK425.out 1).trans rfl,(blk_cell BK425.out 2).trans rfl⟩ (fun hHeld=>?_)
      clear hK K
      refine norm_ (a':=?_) ?_ ?_
      rotate_left
      ·show Act.put _ (some 58) _ = _
       simp only [ap]
       rfl
      refine one_ (i:=9) (N:=some 63) (lb 13 1023) rfl rfl (one_of HT_.out (by kernel_rfl)) (by decide) (fun K hK=>?_)
      refine R_lit_step (Kd.int .i64) _ 3 ?hg (N:=63) ?hd (xs:=([(-1),wrap64 (t422 + 1),0] : List Int)) (inner:=[.int .i64 (-1),.int .i64 (wrap64 (t422 + 1)),.int .i64 0]) (ok:=fun _=>True) (okp:=fun _=>True) ?hr ?hp (fun _ hk=>hk) trivial (Below.refl _ _) (Nat.le_refl _) (by simp) ?_;(case hd=>rfl);(case hg=>rfl);(case hr=>first|(go_simp;done)|(go_simp;rfl));(case hp=>exact (Reps.one (show Kd.M (Kd.int .i64) _ _ _ (-1) [.int .i64 (-1)] from rfl) (Reps.one (show Kd.M (Kd.int .i64) _ _ _ (wrap64 (t422 + 1)) [.int .i64 (wrap64 (t422 + 1))] from rfl) (Reps.one (show Kd.M (Kd.int .i64) _ _ _ 0 [.int .i64 0] from rfl) (Reps.none _ _)))))
      intro v451 w71 ho72 hb hg_ hnew_
      clear hg_ hnew_
      (rw [← Ny450.out] at ho72)
      have HO452:=ak (R_lower (R_new' (R_new' ho72 (R_lt (rm HO_426001.out))) (R_lt (rm HO_426002.out))) (keep_size (w:=w) (g:=g) (row:=none) (kn HK.out)))
      replace HO_426001:=ak (R_elder' (rm HO_426001.out) (R_base ho72) hb)
      replace HO_426002:=ak (R_elder' (rm HO_426002.out) (R_base ho72) hb)
      replace BK418:=kb BK418 hb
      replace BK425:=kb BK425 hb
      replace HK:=ak (KeepBut.trans (kn HK.out) (KeepBut.of_below hb g none) (.inl rfl))
      replace HB:=ak (below_step (h3 HB.out (IsS64.ge HI0.out) GE418.out GE425.out) hb)
      replace HI0:=ak (IsS64.below (g:=g) (IsS64.now HI0.out) hb)
      clear hb ho72
      refine hK.out _ _ ⟨(blk_cell BK425.out 0).trans rfl,(blk_cell BK425.out 1).trans rfl,(blk_cell BK425.out 2).trans rfl⟩ (fun hHeld=>?_)
      clear hK K
      refine norm_ (a':=?_) ?_ ?_
      rotate_left
      ·show Act.put _ (some 63) _ = _
       simp only [ap]
       rfl
      exact norm_ (by simp only [putAll,Act.put,List.setIfInBounds_toArray,List.set_cons_zero,List.set_cons_succ]) (hCont (v451) _ ⟨hHeld,(rm (R_mono HO452.out (fun _ hk=>⟨hk.1.2,hk.2⟩))),(rm (R_mono HO_426001.out (fun _ hk=>⟨hk.2,hk.1⟩))),(rm (R_mono HO_426002.out (fun _ hk=>⟨hk.2,hk.1⟩))),(bm BK418.out),(bm BK425.out),(IsS64.now HI0.out),(kn HK.out),(h3 HB.out (IsS64.ge HI0.out) GE418.out GE425.out)⟩)
     skip
     refine R_lit_step (Kd.int .i64) _ 3 ?hg (N:=63) ?hd (xs:=([(-1),wrap64 (t422 + 1),0] : List Int)) (inner:=[.int .i64 (-1),.int .i64 (wrap64 (t422 + 1)),.int .i64 0]) (ok:=fun _=>True) (okp:=fun _=>True) ?hr ?hp (fun _ hk=>hk) trivial (Below.refl _ _) (Nat.le_refl _) (by simp) ?_;(case hd=>rfl);(case hg=>rfl);(case hr=>first|(go_simp;done)|(go_simp;rfl));(case hp=>exact (Reps.one (show Kd.M (Kd.int .i64) _ _ _ (-1) [.int .i64 (-1)] from rfl) (Reps.one (show Kd.M (Kd.int .i64) _ _ _ (wrap64 (t422 + 1)) [.int .i64 (wrap64 (t422 + 1))] from rfl) (Reps.one (show Kd.M (Kd.int .i64) _ _ _ 0 [.int .i64 0] from rfl) (Reps.none _ _)))))
     intro v451 w70 ho71 hb hg_ hnew_
     clear hg_ hnew_
     (rw [← Ny450.out] at ho71)
     have HO452:=ak (R_lower (R_new' (R_new' ho71 (R_lt (rm HO_426001.out))) (R_lt (rm HO_426002.out))) (keep_size (w:=w) (g:=g) (row:=none) (kn HK.out)))
     replace HO_426001:=ak (R_elder' (rm HO_426001.out) (R_base ho71) hb)
     replace HO_426002:=ak (R_elder' (rm HO_426002.out) (R_base ho71) hb)
     replace BK418:=kb BK418 hb
     replace BK425:=kb BK425 hb
     replace HK:=ak (KeepBut.trans (kn HK.out) (KeepBut.of_below hb g none) (.inl rfl))
     replace HB:=ak (below_step (h3 HB.out (IsS64.ge HI0.out) GE418.out GE425.out) hb)
     replace HI0:=ak (IsS64.below (g:=g) (IsS64.now HI0.out) hb)
     clear hb ho71
     refine hK.out _ _ ⟨(blk_cell BK425.out 0).trans rfl,(blk_cell BK425.out 1).trans rfl,(blk_cell BK425.out 2).trans rfl⟩ (fun hHeld=>?_)
     clear hK K
     refine norm_ (a':=?_) ?_ ?_
     rotate_left
     ·show Act.put _ (some 63) _ = _
      simp only [ap]
      rfl
     refine one_ (i:=4) (N:=some 58) (lb 13 1023) rfl rfl (one_of HT_.out (by kernel_rfl)) (by decide) (fun K hK=>?_)
     refine goes_ Try.func63 (by kernel_rfl) rfl #[.pointer (some ⟨g,0,none⟩),.int .i64 (x426001_1.length : Int)] (by rfl) rfl rfl gl ?_
     with_reducible refine (spec_l1Cur_pick.calls g s0_0 t439 t440 (x426001_1.length : Int) t447 t448 t449 w0 _ ?side1 ?side2 A59.out).mono ?_
     (case side1=>exact IsS64.now HI0.out)
     (case side2=>exact h3 HB.out (IsS64.ge HI0.out) GE418.out GE425.out)
     rintro e w72 ⟨rfl,hi,hb,hk⟩
     refine ⟨_,rfl,?_⟩
     replace HO_426001:=ak (R_mono (R_keep (IsS64.apart (show IsS64 w0 _ g s0_0 t439 t440 from (IsS64.now HI0.out)) (rm HO_426001.out) (by decide)) hk (fun _ h=>h.2)) (fun _ h=>h.1))
     replace HO_426002:=ak (R_mono (R_keep (IsS64.apart (show IsS64 w0 _ g s0_0 t439 t440 from (IsS64.now HI0.out)) (rm HO_426002.out) (by decide)) hk (fun _ h=>h.2)) (fun _ h=>h.1))
     replace BK418:=ak (KeepBut.blk hk (g':=gb418) (o:=.cells #[.int .i64 0,.slice none 0 0,.slice none 0 0] 27 (0,0)) (bm BK418.out) NB418_0.out (by simp))
     replace BK425:=ak (KeepBut.blk hk (g':=gb425) (o:=.cells #[.int .i64 t422,.slice Ao67 x426001_1.length co67,u426002] 27 (0,0)) (bm BK425.out) NB425_0.out (by simp))
     replace HO452:=ak (R_mono (R_keep (IsS64.apart (show IsS64 w0 _ g s0_0 t439 t440 from (IsS64.now HI0.out)) (rm HO452.out) (by decide)) hk (fun _ h=>h.2)) (fun _ h=>h.1))
     replace HK:=ak (KeepBut.trans (kn HK.out) hk (.inl rfl))
     replace HB:=ak hb
     replace HI0:=ak hi
     (try clear hb)
     (try clear hk)
     (try clear hi)
     refine hK.out _ _ ⟨(blk_cell BK425.out 0).trans rfl,(blk_cell BK425.out 1).trans rfl,(blk_cell BK425.out 2).trans rfl⟩ (fun hHeld=>?_)
     clear hK K
     refine norm_ (a':=?_) ?_ ?_
     rotate_left
     ·show Act.put _ (some 58) _ = _
      simp only [ap]
      rfl
     exact norm_ (by simp only [putAll,Act.put,List.setIfInBounds_toArray,List.set_cons_zero,List.set_cons_succ]) (hCont (v451) _ ⟨hHeld,(rm (R_mono HO452.out (fun _ hk=>⟨hk.1.2,hk.2⟩))),(rm (R_mono HO_426001.out (fun _ hk=>⟨hk.2,hk.1⟩))),(rm (R_mono HO_426002.out (fun _ hk=>⟨hk.2,hk.1⟩))),(bm BK418.out),(bm BK425.out),(IsS64.now HI0.out),(kn HK.out),(h3 HB.out (IsS64.ge HI0.out) GE418.out GE425.out)⟩)
    rintro v451 w73 ⟨hS_,h0_,h1_,h2_,h3_,h4_,h5_,h6_,h7_⟩
    have n0_ : Aside0 (Kd.R (Kd.int .i64) 3 w73 w.heap.size (fun k_=>ob k_ (.slice Ao67 x426001_1.length co67) ∧ ob k_ u426002) v451 y450):=⟨h0_⟩
    have n1_ : Aside0 (Kd.R (Kd.int .i64) 3 w73 w.heap.size (fun k_=>ob k_ v451 ∧ ob k_ u426002) (.slice Ao67 x426001_1.length co67) x426001_1):=⟨h1_⟩
    have n2_ : Aside0 (Kd.R (Kd.int .i64) 3 w73 w.heap.size (fun k_=>ob k_ v451 ∧ ob k_ (.slice Ao67 x426001_1.length co67)) u426002 x426002_1):=⟨h2_⟩
    have n3_ : Aside0 (w73.heap[gb418]? = some (.cells #[.int .i64 0,.slice none 0 0,.slice none 0 0] 27 (0,0))):=⟨h3_⟩
    have n4_ : Aside0 (w73.heap[gb425]? = some (.cells #[.int .i64 t422,.slice Ao67 x426001_1.length co67,u426002] 27 (0,0))):=⟨h4_⟩
    have n5_ : Aside0 (IsS64 w0 w73 g s0_0 t448 t449):=⟨h5_⟩
    have n6_ : Aside0 (KeepBut w w73 g none):=⟨h6_⟩
    have n7_ : Aside0 (Below w0.heap.size w0 w73):=⟨h7_⟩
    clear HO_426001
    clear HO_426002
    clear BK418
    clear BK425
    clear HI0
    clear HK
    clear HB
    clear h0_ h1_ h2_ h3_ h4_ h5_ h6_ h7_
    have HO452:=n0_
    have HO_426001:=n1_
    have HO_426002:=n2_
    have BK418:=n3_
    have BK425:=n4_
    have HI0:=n5_
    have HK:=n6_
    have HB:=n7_
    clear n0_ n1_ n2_ n3_ n4_ n5_ n6_ n7_
    have hHeld : w73.cell? ⟨gb425,0,none⟩ = some (.int .i64 t422) ∧ w73.cell? ⟨gb425,1,none⟩ = some (.slice Ao67 x426001_1.length co67) ∧ w73.cell? ⟨gb425,2,none⟩ = some (u426002):=hS_
    obtain ⟨Ao74,co74,eo74⟩:=R_slice HO452.out
    (subst eo74)
    refine norm_ (a':=?_) ?_ ?_
    rotate_left
    ·simp only [putAll,Act.put,List.setIfInBounds_toArray,List.set_cons_zero,List.set_cons_succ]
     rfl
    refine one_ (i:=10) (N:=some 64) (lb 13 2047) rfl rfl (one_of HT_.out (by kernel_rfl)) (by decide) (fun K hK=>?_)
    refine goes_ Try.func57 (by kernel_rfl) rfl #[.pointer (some ⟨g,0,none⟩),.slice Ao74 y450.length co74] (by rfl) rfl rfl gl ?_
    with_reducible refine (spec_l1Cur_among.calls g s0_0 t448 t449 _ _ y450 t453 t454 t455 w0 _ ?side1 ?side2 ?side3 ?side4 ?side5 A60.out).mono ?_
    (case side1=>exact IsS64.now HI0.out)
    (case side2=>exact h3 HB.out (IsS64.ge HI0.out) GE418.out GE425.out)
    (case side3=>exact cm (R_reads' HO452.out).2.2)
    (case side4=>exact (R_reads' HO452.out).2.1)
    (case side5=>exact far_slice (IsS64.own_ne HI0.out HO452.out (by decide)))
    rintro e w75 ⟨rfl,hi,hb,hk⟩
    refine ⟨_,rfl,?_⟩
    replace HO_426001:=ak (R_mono (R_keep (IsS64.apart (show IsS64 w0 _ g s0_0 t448 t449 from (IsS64.now HI0.out)) (rm HO_426001.out) (by decide)) hk (fun _ h=>h.2)) (fun _ h=>h.1))
    replace HO_426002:=ak (R_mono (R_keep (IsS64.apart (show IsS64 w0 _ g s0_0 t448 t449 from (IsS64.now HI0.out)) (rm HO_426002.out) (by decide)) hk (fun _ h=>h.2)) (fun _ h=>h.1))
    replace BK418:=ak (KeepBut.blk hk (g':=gb418) (o:=.cells #[.int .i64 0,.slice none 0 0,.slice none 0 0] 27 (0,0)) (bm BK418.out) NB418_0.out (by simp))
    replace BK425:=ak (KeepBut.blk hk (g':=gb425) (o:=.cells #[.int .i64 t422,.slice Ao67 x426001_1.length co67,u426002] 27 (0,0)) (bm BK425.out) NB425_0.out (by simp))
    replace HO452:=ak (R_mono (R_keep (IsS64.apart (show IsS64 w0 _ g s0_0 t448 t449 from (IsS64.now HI0.out)) (rm HO452.out) (by decide)) hk (fun _ h=>h.2)) (fun _ h=>h.1))
    replace HK:=ak (KeepBut.trans (kn HK.out) hk (.inl rfl))
    replace HB:=ak hb
    replace HI0:=ak hi
    (try clear hb)
    (try clear hk)
    (try clear hi)
    have p63 : 0 ≤ (t447 : Int):=od
    have q63 : (t447 : Int) < ((x426001_1.length : Int) : Int):=od
    obtain ⟨go63,co63,eo63,gb63,gl63,cl63,HG63⟩:=R_form HO_426001.out (by omega)
    (cases eo63)
    have GB63:=Aside0.mk gb63
    have GG63:=Aside0.mk HG63
    clear gb63 gl63 HG63
    obtain ⟨hx63_0,hf63_0⟩:=R_celln 0 HO_426001.out (t447 : Int) p63 q63
    replace p63:=eq_true p63
    replace q63:=eq_true q63
    have HN0_go63:=Aside0.mk (show g ≠ go63 from by have h_:=IsS64.own_ne HI0.out HO_426001.out (by decide);intro e_;exact h_ (by rw [e_];rfl))
    have HP76:=R_putn HO_426001.out (t447 : Int) t453
    rw [← Ny456.out] at HP76
    have HQ76:=Aside0.mk HP76
    clear HP76
    refine hK.out _ _ ⟨(blk_cell BK425.out 0).trans rfl,(blk_cell BK425.out 1).trans rfl,(blk_cell BK425.out 2).trans rfl⟩ (fun hHeld=>?_)
    clear hK K
    refine norm_ (a':=?_) ?_ ?_
    rotate_left
    ·show Act.put _ (some 64) _ = _
     simp only [ap]
     rfl
    refine pq 11 (N:=some 65) (lb 13 4095) HT_ ?_
    refine last_ (i:=12) (N:=none) (lb 13 8191) rfl rfl (one_of HT_.out (by kernel_rfl)) (by decide) (fun K hK=>?_)
    refine skip_ (w1:=?_) (by rfl) rfl ?_ ?_
    rotate_left
    ·go_simp
     rfl
    refine hK.out _ _ ?_
    clear hK K
    refine done_ (done_of HT_.out (by kernel_rfl)) ?_
    have n0_ : Aside0 (Kd.R (Kd.int .i64) 3 (w75.setCell ⟨go63,(t447 : Int).toNat,none⟩ (.int .i64 t453)) w.heap.size (fun k_=>ob k_ u426002 ∧ ob k_ (.slice Ao74 y450.length co74)) (.slice (some ⟨go63,0,none⟩) x426001_1.length co67) y456):=⟨rm (R_mono HQ76.out (fun _ hk=>⟨hk.2,hk.1⟩))⟩
    have n1_ : Aside0 (Kd.R (Kd.int .i64) 3 (w75.setCell ⟨go63,(t447 : Int).toNat,none⟩ (.int .i64 t453)) w.heap.size (fun k_=>some k_ ≠ (.slice (some ⟨go63,0,none⟩) x426001_1.length co67 : Value).ownBlock ∧ ob k_ (.slice Ao74 y450.length co74)) u426002 x426002_1):=⟨by (with_reducible repeat (fail));exact R_mono (R_far (p:=⟨go63,(t447 : Int).toNat,none⟩) (R_mono HO_426002.out (fun k_ hk=>(⟨hk,fun e_=>hk.2 (by rw [e_];rfl)⟩ : _ ∧ k_ ≠ go63))) (fun _ hk=>hk.2) (.int .i64 t453)) (fun _ hk=>⟨hk.1.2,hk.1.1⟩)⟩
    have n2_ : Aside0 (Kd.R (Kd.int .i64) 3 (w75.setCell ⟨go63,(t447 : Int).toNat,none⟩ (.int .i64 t453)) w.heap.size (fun k_=>some k_ ≠ (.slice (some ⟨go63,0,none⟩) x426001_1.length co67 : Value).ownBlock ∧ ob k_ u426002) (.slice Ao74 y450.length co74) y450):=⟨by (with_reducible repeat (fail));exact R_mono (R_far (p:=⟨go63,(t447 : Int).toNat,none⟩) (R_mono HO452.out (fun k_ hk=>(⟨hk,fun e_=>hk.1 (by rw [e_];rfl)⟩ : _ ∧ k_ ≠ go63))) (fun _ hk=>hk.2) (.int .i64 t453)) (fun _ hk=>⟨hk.1.1,hk.1.2⟩)⟩
    have n3_ : Aside0 ((w75.setCell ⟨go63,(t447 : Int).toNat,none⟩ (.int .i64 t453)).heap[gb418]? = some (.cells #[.int .i64 0,.slice none 0 0,.slice none 0 0] 27 (0,0))):=⟨by (with_reducible repeat (fail));refine blk_far ?_ (by have h_:=R_ne HO_426001.out BK418.out (by decide);intro e_;exact h_ (by rw [e_];rfl)) _;exact bm BK418.out⟩
    have n4_ : Aside0 ((w75.setCell ⟨go63,(t447 : Int).toNat,none⟩ (.int .i64 t453)).heap[gb425]? = some (.cells #[.int .i64 t422,.slice (some ⟨go63,0,none⟩) x426001_1.length co67,u426002] 27 (0,0))):=⟨by (with_reducible repeat (fail));refine blk_far ?_ (by have h_:=R_ne HO_426001.out BK425.out (by decide);intro e_;exact h_ (by rw [e_];rfl)) _;exact bm BK425.out⟩
    have n5_ : Aside0 (IsS64 w0 (w75.setCell ⟨go63,(t447 : Int).toNat,none⟩ (.int .i64 t453)) g s0_0 t454 t455):=⟨by (skip);repeat ((with_reducible first|exact HI0.out|apply IsS64.alloc|apply IsS64.drewN|apply IsS64.drew|apply IsS64.set_1|apply IsS64.set_2|refine IsS64.far ?_ HN0_go63.out _|refine IsS64.far ?_ NB0_418.out _|refine IsS64.far ?_ NB0_425.out _))⟩
    have n6_ : Aside0 (KeepBut w (w75.setCell ⟨go63,(t447 : Int).toNat,none⟩ (.int .i64 t453)) g none):=⟨by repeat ((with_reducible first|exact HK.out|apply KeepBut.set_|apply keep_drewN|apply keep_drew|apply keep_alloc|refine keep_far ?_ GB63.out _|refine keep_far ?_ GW418.out _|refine keep_far ?_ GW425.out _))⟩
    have n7_ : Aside0 (Below w0.heap.size w0 (w75.setCell ⟨go63,(t447 : Int).toNat,none⟩ (.int .i64 t453))):=⟨by repeat ((with_reducible first|exact HB.out|apply below_alloc|apply pw_below_drewN|apply below_drew1|refine below_set ?_ (Nat.le_trans HL.out GB63.out)|refine below_set ?_ (IsS64.ge HI0.out)|refine below_set ?_ GE418.out|refine below_set ?_ GE425.out))⟩
    (try clear HO_426001)
    (try clear HO_426002)
    (try clear HO452)
    (try clear BK418)
    (try clear BK425)
    (try clear HI0)
    (try clear HK)
    (try clear HB)
    generalize (w75.setCell ⟨go63,(t447 : Int).toNat,none⟩ (.int .i64 t453)) = w77 at n0_ n1_ n2_ n3_ n4_ n5_ n6_ n7_ ⊢
    have HO_426001:=n0_
    have HO_426002:=n1_
    have HO452:=n2_
    have BK418:=n3_
    have BK425:=n4_
    have HI0:=n5_
    have HK:=n6_
    have HB:=n7_
    clear n0_ n1_ n2_ n3_ n4_ n5_ n6_ n7_
    have hcz78_0 : w77.cell? ⟨gb425,0,none⟩ = some (.int .i64 t422):=(blk_cell BK425.out 0).trans rfl
    have hcz78_1 : w77.cell? ⟨gb425,1,none⟩ = some (.slice (some ⟨go63,0,none⟩) x426001_1.length co67):=(blk_cell BK425.out 1).trans rfl
    have hcz78_2 : w77.cell? ⟨gb425,2,none⟩ = some (u426002):=(blk_cell BK425.out 2).trans rfl
    have hfz78_0:=blk_frozen BK425.out 0
    have hfz78_1:=blk_frozen BK425.out 1
    have hfz78_2:=blk_frozen BK425.out 2
    have hnb79:=NB418_0.out
    have hnc79:=NB0_418.out
    have hcz80_0 : w77.cell? ⟨gb418,0,none⟩ = some (.int .i64 0):=(blk_cell BK418.out 0).trans rfl
    have hcz80_1 : w77.cell? ⟨gb418,1,none⟩ = some (.slice none 0 0):=(blk_cell BK418.out 1).trans rfl
    have hcz80_2 : w77.cell? ⟨gb418,2,none⟩ = some (.slice none 0 0):=(blk_cell BK418.out 2).trans rfl
    have hfz80_0:=blk_frozen BK418.out 0
    have hfz80_1:=blk_frozen BK418.out 1
    have hfz80_2:=blk_frozen BK418.out 2
    obtain ⟨Ao81,co81,eo81⟩:=R_slice HO_426002.out
    subst eo81
    try go_wp2
    refine bodyPost_ret (results_cell_row rfl _ _ gb418 27 #[.int .i64 t422,.slice (some ⟨go63,0,none⟩) x426001_1.length co67,.slice Ao81 x426002_1.length co81] (0,0) _ rfl (by (with_reducible repeat (fail));refine blk_put (cs:=#[.int .i64 t422,.slice (some ⟨go63,0,none⟩) x426001_1.length co67,.slice none 0 0]) ?_ 2 _ rfl;(with_reducible repeat (fail));refine blk_put (cs:=#[.int .i64 t422,.slice none 0 0,.slice none 0 0]) ?_ 1 _ rfl;(with_reducible repeat (fail));refine blk_put (cs:=#[.int .i64 0,.slice none 0 0,.slice none 0 0]) ?_ 0 _ rfl;exact bm BK418.out) Try.underlying27 rfl (by kernel_rfl)) rfl ?_
    exact ⟨_,_,fe,by (with_reducible repeat (fail));exact R_mono (R_far (p:=⟨gb418,2,none⟩) (R_far (p:=⟨gb418,1,none⟩) (R_far (p:=⟨gb418,0,none⟩) (R_types HO_426001.out BK418.out (by decide)) (fun _ hk=>hk.2) (.int .i64 t422)) (fun _ hk=>hk.2) (.slice (some ⟨go63,0,none⟩) x426001_1.length co67)) (fun _ hk=>hk.2) (.slice Ao81 x426002_1.length co81)) (fun _ hk=>hk.1.1),by (with_reducible repeat (fail));exact R_mono (R_far (p:=⟨gb418,2,none⟩) (R_far (p:=⟨gb418,1,none⟩) (R_far (p:=⟨gb418,0,none⟩) (R_types HO_426002.out BK418.out (by decide)) (fun _ hk=>hk.2) (.int .i64 t422)) (fun _ hk=>hk.2) (.slice (some ⟨go63,0,none⟩) x426001_1.length co67)) (fun _ hk=>hk.2) (.slice Ao81 x426002_1.length co81)) (fun _ hk=>hk.1.1),(IsS64.now HI0.out),h3 HB.out (IsS64.ge HI0.out) GE418.out GE425.out,(kn HK.out)⟩
   rw [if_neg c57] at H
   have c57b0 : (t438 == 1) = false:=beq_eq_false_iff_ne.mpr c57
   have c57b1 : (t438 != 1) = true:=bne_iff_ne.mpr c57
   by_cases c91 : t438 = 2
   rotate_left
   ·rw [if_neg c91] at H
    have c91b0 : (t438 == 2) = false:=beq_eq_false_iff_ne.mpr c91
    have c91b1 : (t438 != 2) = true:=bne_iff_ne.mpr c91
    by_cases c124 : t438 = 3
    ·rw [if_pos c124] at H
     have c124b0 : (t438 == 3) = true:=beq_iff_eq.mpr c124
     have c124b1 : (t438 != 3) = false:=bne_eq_false_iff_eq.mpr c124
     clear c124
     by_cases c125 : x426002_1.length < 17592186044416
     rotate_left
     ·rw [if_neg c125] at H
      exact absurd H (by simp)
     rw [if_pos c125] at H
     have LMc125:=Aside0.mk c125
     clear c125
     obtain ⟨y467,hy467⟩ : ∃ y_ : List Int,y_ = (x426002_1 ++ [1]):=⟨_,rfl⟩
     replace H : (some (t422,x426001_1,y467,t439,t440)) = some (r1,r2,r3,r4,r5):=by first|(rw [hy467];with_reducible exact H)|(have H2_:=(Option.bind_some _ _).symm.trans H;rw [hy467];with_reducible exact H2_)|(have H2_:=(Option.bind_some _ _).symm.trans H;with_reducible exact H2_)|with_reducible exact H|(rw [hy467];exact H)|exact H
     have Ny467:=Aside0.mk hy467
     clear hy467
     simp only [Option.some.injEq,Prod.mk.injEq] at H
     obtain ⟨rfl,rfl,rfl,rfl,rfl⟩:=H
     have hnb126:=NB425_418.out
     have hnc126:=NB418_425.out
     have hnb127:=NB425_0.out
     have hnc127:=NB0_425.out
     have hcz128_0 : wc.cell? ⟨gb425,0,none⟩ = some (.int .i64 t422):=(blk_cell BK425.out 0).trans rfl
     have hcz128_1 : wc.cell? ⟨gb425,1,none⟩ = some (u426001):=(blk_cell BK425.out 1).trans rfl
     have hcz128_2 : wc.cell? ⟨gb425,2,none⟩ = some (u426002):=(blk_cell BK425.out 2).trans rfl
     have hfz128_0:=blk_frozen BK425.out 0
     have hfz128_1:=blk_frozen BK425.out 1
     have hfz128_2:=blk_frozen BK425.out 2
     obtain ⟨Ao129,co129,eo129⟩:=R_slice HO_426001.out
     subst eo129
     go_wp2_with (first|((with_reducible refine gate_callee (f:=63) rfl ?_);refine goesL_ (some 43) rfl rfl Try.func63 (by kernel_rfl) rfl #[.pointer (some ⟨g,0,none⟩),.int .i64 50] rfl gl ?_;(with_reducible refine (spec_l1Cur_pick.calls g s0_0 x1001_1 x1002_1 50 t438 t439 t440 w0 _ ?side1 ?side2 A41.out).mono ?_);(case side1=>exact IsS64.now HI0.out);(case side2=>exact h3 HB.out (IsS64.ge HI0.out) GE418.out GE425.out);rintro e w130 ⟨rfl,hi,hb,hk⟩;refine ⟨_,rfl,?_⟩;replace HO_426001:=ak (R_mono (R_keep (IsS64.apart (show IsS64 w0 _ g s0_0 x1001_1 x1002_1 from (IsS64.now HI0.out)) (rm HO_426001.out) (by decide)) hk (fun _ h=>h.2)) (fun _ h=>h.1));replace HO_426002:=ak (R_mono (R_keep (IsS64.apart (show IsS64 w0 _ g s0_0 x1001_1 x1002_1 from (IsS64.now HI0.out)) (rm HO_426002.out) (by decide)) hk (fun _ h=>h.2)) (fun _ h=>h.1));replace BK418:=ak (KeepBut.blk hk (g':=gb418) (o:=.cells #[.int .i64 0,.slice none 0 0,.slice none 0 0] 27 (0,0)) (bm BK418.out) NB418_0.out (by simp));replace BK425:=ak (KeepBut.blk hk (g':=gb425) (o:=.cells #[.int .i64 t422,.slice Ao129 x426001_1.length co129,u426002] 27 (0,0)) (bm BK425.out) NB425_0.out (by simp));replace HK:=ak (KeepBut.trans (kn HK.out) hk (.inl rfl));replace HB:=ak hb;replace HI0:=ak hi;(try clear hb);(try clear hk);(try clear hi);have hcz131_0 : w130.cell? ⟨gb425,0,none⟩ = some (.int .i64 t422):=(blk_cell BK425.out 0).trans rfl;have hcz131_1 : w130.cell? ⟨gb425,1,none⟩ = some (.slice Ao129 x426001_1.length co129):=(blk_cell BK425.out 1).trans rfl;have hcz131_2 : w130.cell? ⟨gb425,2,none⟩ = some (u426002):=(blk_cell BK425.out 2).trans rfl;have hfz131_0:=blk_frozen BK425.out 0;have hfz131_1:=blk_frozen BK425.out 1;have hfz131_2:=blk_frozen BK425.out 2)|((with_reducible refine gate_builtin (b:=.append) (xs:=#[.tmp 82,.tmp 83]) rfl ?_);(try (refine gate_guard (by rfl) ?_;dsimp only));at_builtin;refine R_append (Kd.int .i64) w.heap.size rfl (.tmp 82) (.tmp 83) 22 3 (.int .i64 0) 8 rfl Try.underlying22 info3 rfl (by decide) (by omega) u426002 x426002_1 1 [.int .i64 1] (fun k_=>ob k_ (.slice Ao129 x426001_1.length co129)) (fun _=>False) rfl rfl ?aP (fun _ hk=>hk.elim) ?aF ?aO (Below.refl _ _) ?aS ?aL ?_;(case aP=>exact rfl);(case aF=>exact (fun k_ hk=>Kd.fresh' (R_lt (rm HO_426001.out)) k_ hk));(case aO=>exact (rm HO_426002.out));(case aS=>exact (keep_size (w:=w) (g:=g) (row:=none) (kn HK.out)));(case aL=>have:=LMc125.out;omega);intro v468 w132 ho hb hg hat;rw [← Ny467.out] at ho;replace HO_426001:=ak (R_after (ok:=(fun _=>True)) (rm (R_mono HO_426001.out (fun _ hk=>⟨trivial,hk⟩))) hg hat);replace BK418:=ak (blk_grown (g:=gb418) (o:=.cells #[.int .i64 0,.slice none 0 0,.slice none 0 0] 27 (0,0)) (bm BK418.out) hg (R_ne HO_426002.out BK418.out (by decide)));replace BK425:=ak (blk_grown (g:=gb425) (o:=.cells #[.int .i64 t422,.slice Ao129 x426001_1.length co129,u426002] 27 (0,0)) (bm BK425.out) hg (R_ne HO_426002.out BK425.out (by decide)));replace HB:=ak (below_weaken (h3 HB.out (IsS64.ge HI0.out) GE418.out GE425.out) HL.out hb);replace HI0:=ak (IsS64.grown (show IsS64 w0 _ g s0_0 t439 t440 from (IsS64.now HI0.out)) hg (IsS64.own_ne HI0.out HO_426002.out (by decide)));replace HK:=ak (KeepBut.trans (kn HK.out) (KeepBut.of_grown hg g) (R_base2 HO_426002.out));have HO469:=ak ho;clear HO_426002;clear ho hb hg hat;obtain ⟨Ao133,co133,eo133⟩:=R_slice HO469.out;subst eo133;have hcz134_0 : w132.cell? ⟨gb425,0,none⟩ = some (.int .i64 t422):=(blk_cell BK425.out 0).trans rfl;have hcz134_1 : w132.cell? ⟨gb425,1,none⟩ = some (.slice Ao129 x426001_1.length co129):=(blk_cell BK425.out 1).trans rfl;have hcz134_2 : w132.cell? ⟨gb425,2,none⟩ = some (u426002):=(blk_cell BK425.out 2).trans rfl;have hfz134_0:=blk_frozen BK425.out 0;have hfz134_1:=blk_frozen BK425.out 1;have hfz134_2:=blk_frozen BK425.out 2;have hnb135:=NB418_0.out;have hnc135:=NB0_418.out;have hcz136_0 : w132.cell? ⟨gb418,0,none⟩ = some (.int .i64 0):=(blk_cell BK418.out 0).trans rfl;have hcz136_1 : w132.cell? ⟨gb418,1,none⟩ = some (.slice none 0 0):=(blk_cell BK418.out 1).trans rfl;have hcz136_2 : w132.cell? ⟨gb418,2,none⟩ = some (.slice none 0 0):=(blk_cell BK418.out 2).trans rfl;have hfz136_0:=blk_frozen BK418.out 0;have hfz136_1:=blk_frozen BK418.out 1;have hfz136_2:=blk_frozen BK418.out 2))
     refine bodyPost_ret (results_cell_row rfl _ _ gb418 27 #[.int .i64 t422,.slice Ao129 x426001_1.length co129,.slice Ao133 y467.length co133] (0,0) _ rfl (by (with_reducible repeat (fail));refine blk_put (cs:=#[.int .i64 t422,.slice Ao129 x426001_1.length co129,.slice none 0 0]) ?_ 2 _ rfl;(with_reducible repeat (fail));refine blk_put (cs:=#[.int .i64 t422,.slice none 0 0,.slice none 0 0]) ?_ 1 _ rfl;(with_reducible repeat (fail));refine blk_put (cs:=#[.int .i64 0,.slice none 0 0,.slice none 0 0]) ?_ 0 _ rfl;(with_reducible repeat (fail));refine blk_far ?_ NB418_425.out _;exact bm BK418.out) Try.underlying27 rfl (by kernel_rfl)) rfl ?_
     exact ⟨_,_,fe,by (with_reducible repeat (fail));exact R_mono (R_far (p:=⟨gb418,2,none⟩) (R_far (p:=⟨gb418,1,none⟩) (R_far (p:=⟨gb418,0,none⟩) (R_far (p:=⟨gb425,2,none⟩) (R_types (R_types HO_426001.out BK425.out (by decide)) BK418.out (by decide)) (fun _ hk=>hk.1.2) (.slice Ao133 y467.length co133)) (fun _ hk=>hk.2) (.int .i64 t422)) (fun _ hk=>hk.2) (.slice Ao129 x426001_1.length co129)) (fun _ hk=>hk.2) (.slice Ao133 y467.length co133)) (fun _ hk=>hk.1.1.2),by (with_reducible repeat (fail));exact R_mono (R_far (p:=⟨gb418,2,none⟩) (R_far (p:=⟨gb418,1,none⟩) (R_far (p:=⟨gb418,0,none⟩) (R_far (p:=⟨gb425,2,none⟩) (R_types (R_types HO469.out BK425.out (by decide)) BK418.out (by decide)) (fun _ hk=>hk.1.2) (.slice Ao133 y467.length co133)) (fun _ hk=>hk.2) (.int .i64 t422)) (fun _ hk=>hk.2) (.slice Ao129 x426001_1.length co129)) (fun _ hk=>hk.2) (.slice Ao133 y467.length co133)) (fun _ hk=>hk.1.1),(IsS64.now HI0.out),h3 HB.out (IsS64.ge HI0.out) GE418.out GE425.out,(kn HK.out)⟩
    rw [if_neg c124] at H
    have c124b0 : (t438 == 3) = false:=beq_eq_false_iff_ne.mpr c124
    have c124b1 : (t438 != 3) = true:=bne_iff_ne.mpr c124
    by_cases c137 : t438 = 4
    rotate_left
    ·rw [if_neg c137] at H
     have c137b0 : (t438 == 4) = false:=beq_eq_false_iff_ne.mpr c137
     have c137b1 : (t438 != 4) = true:=bne_iff_ne.mpr c137
     simp only [Option.some.injEq,Prod.mk.injEq] at H
     obtain ⟨rfl,rfl,rfl,rfl,rfl⟩:=H
     have hnb152:=NB425_418.out
     have hnc152:=NB418_425.out
     have hnb153:=NB425_0.out
     have hnc153:=NB0_425.out
     have hcz154_0 : wc.cell? ⟨gb425,0,none⟩ = some (.int .i64 t422):=(blk_cell BK425.out 0).trans rfl
     have hcz154_1 : wc.cell? ⟨gb425,1,none⟩ = some (u426001):=(blk_cell BK425.out 1).trans rfl
     have hcz154_2 : wc.cell? ⟨gb425,2,none⟩ = some (u426002):=(blk_cell BK425.out 2).trans rfl
     have hfz154_0:=blk_frozen BK425.out 0
     have hfz154_1:=blk_frozen BK425.out 1
     have hfz154_2:=blk_frozen BK425.out 2
     obtain ⟨Ao155,co155,eo155⟩:=R_slice HO_426001.out
     subst eo155
     go_wp2_with (((with_reducible refine gate_callee (f:=63) rfl ?_);refine goesL_ (some 43) rfl rfl Try.func63 (by kernel_rfl) rfl #[.pointer (some ⟨g,0,none⟩),.int .i64 50] rfl gl ?_;(with_reducible refine (spec_l1Cur_pick.calls g s0_0 x1001_1 x1002_1 50 t438 t439 t440 w0 _ ?side1 ?side2 A41.out).mono ?_);(case side1=>exact IsS64.now HI0.out);(case side2=>exact h3 HB.out (IsS64.ge HI0.out) GE418.out GE425.out);rintro e w156 ⟨rfl,hi,hb,hk⟩;refine ⟨_,rfl,?_⟩;replace HO_426001:=ak (R_mono (R_keep (IsS64.apart (show IsS64 w0 _ g s0_0 x1001_1 x1002_1 from (IsS64.now HI0.out)) (rm HO_426001.out) (by decide)) hk (fun _ h=>h.2)) (fun _ h=>h.1));replace HO_426002:=ak (R_mono (R_keep (IsS64.apart (show IsS64 w0 _ g s0_0 x1001_1 x1002_1 from (IsS64.now HI0.out)) (rm HO_426002.out) (by decide)) hk (fun _ h=>h.2)) (fun _ h=>h.1));replace BK418:=ak (KeepBut.blk hk (g':=gb418) (o:=.cells #[.int .i64 0,.slice none 0 0,.slice none 0 0] 27 (0,0)) (bm BK418.out) NB418_0.out (by simp));replace BK425:=ak (KeepBut.blk hk (g':=gb425) (o:=.cells #[.int .i64 t422,.slice Ao155 x426001_1.length co155,u426002] 27 (0,0)) (bm BK425.out) NB425_0.out (by simp));replace HK:=ak (KeepBut.trans (kn HK.out) hk (.inl rfl));replace HB:=ak hb;replace HI0:=ak hi;(try clear hb);(try clear hk);(try clear hi);have hcz157_0 : w156.cell? ⟨gb425,0,none⟩ = some (.int .i64 t422):=(blk_cell BK425.out 0).trans rfl;have hcz157_1 : w156.cell? ⟨gb425,1,none⟩ = some (.slice Ao155 x426001_1.length co155):=(blk_cell BK425.out 1).trans rfl;have hcz157_2 : w156.cell? ⟨gb425,2,none⟩ = some (u426002):=(blk_cell BK425.out 2).trans rfl;have hfz157_0:=blk_frozen BK425.out 0;have hfz157_1:=blk_frozen BK425.out 1;have hfz157_2:=blk_frozen BK425.out 2;have hnb158:=NB418_0.out;have hnc158:=NB0_418.out;have hcz159_0 : w156.cell? ⟨gb418,0,none⟩ = some (.int .i64 0):=(blk_cell BK418.out 0).trans rfl;have hcz159_1 : w156.cell? ⟨gb418,1,none⟩ = some (.slice none 0 0):=(blk_cell BK418.out 1).trans rfl;have hcz159_2 : w156.cell? ⟨gb418,2,none⟩ = some (.slice none 0 0):=(blk_cell BK418.out 2).trans rfl;have hfz159_0:=blk_frozen BK418.out 0;have hfz159_1:=blk_frozen BK418.out 1;have hfz159_2:=blk_frozen BK418.out 2;obtain ⟨Ao160,co160,eo160⟩:=R_slice HO_426002.out;subst eo160))
     refine bodyPost_ret (results_cell_row rfl _ _ gb418 27 #[.int .i64 t422,.slice Ao155 x426001_1.length co155,.slice Ao160 x426002_1.length co160] (0,0) _ rfl (by (with_reducible repeat (fail));refine blk_put (cs:=#[.int .i64 t422,.slice Ao155 x426001_1.length co155,.slice none 0 0]) ?_ 2 _ rfl;(with_reducible repeat (fail));refine blk_put (cs:=#[.int .i64 t422,.slice none 0 0,.slice none 0 0]) ?_ 1 _ rfl;(with_reducible repeat (fail));refine blk_put (cs:=#[.int .i64 0,.slice none 0 0,.slice none 0 0]) ?_ 0 _ rfl;exact bm BK418.out) Try.underlying27 rfl (by kernel_rfl)) rfl ?_
     exact ⟨_,_,fe,by (with_reducible repeat (fail));exact R_mono (R_far (p:=⟨gb418,2,none⟩) (R_far (p:=⟨gb418,1,none⟩) (R_far (p:=⟨gb418,0,none⟩) (R_types HO_426001.out BK418.out (by decide)) (fun _ hk=>hk.2) (.int .i64 t422)) (fun _ hk=>hk.2) (.slice Ao155 x426001_1.length co155)) (fun _ hk=>hk.2) (.slice Ao160 x426002_1.length co160)) (fun _ hk=>hk.1),by (with_reducible repeat (fail));exact R_mono (R_far (p:=⟨gb418,2,none⟩) (R_far (p:=⟨gb418,1,none⟩) (R_far (p:=⟨gb418,0,none⟩) (R_types HO_426002.out BK418.out (by decide)) (fun _ hk=>hk.2) (.int .i64 t422)) (fun _ hk=>hk.2) (.slice Ao155 x426001_1.length co155)) (fun _ hk=>hk.2) (.slice Ao160 x426002_1.length co160)) (fun _ hk=>hk.1),(IsS64.now HI0.out),h3 HB.out (IsS64.ge HI0.out) GE418.out GE425.out,(kn HK.out)⟩
    rw [if_pos c137] at H
    have c137b0 : (t438 == 4) = true:=beq_iff_eq.mpr c137
    have c137b1 : (t438 != 4) = false:=bne_eq_false_iff_eq.mpr c137
    clear c137
    obtain ⟨y470,hy470⟩ : ∃ y_ : List Int,y_ = (([0,1,2,3,4,5,6,7,8] : List Int)):=⟨_,rfl⟩
    replace H : (some (30,y470,(([1,1,1,1,1,1,1,1,1] : List Int)),t439,t440)) = some (r1,r2,r3,r4,r5):=by first|(rw [hy470];with_reducible exact H)|(have H2_:=(Option.bind_some _ _).symm.trans H;rw [hy470];with_reducible exact H2_)|(have H2_:=(Option.bind_some _ _).symm.trans H;with_reducible exact H2_)|with_reducible exact H|(rw [hy470];exact H)|exact H
    have Ny470:=Aside0.mk hy470
    clear hy470
    obtain ⟨y473,hy473⟩ : ∃ y_ : List Int,y_ = (([1,1,1,1,1,1,1,1,1] : List Int)):=⟨_,rfl⟩
    replace H : (some (30,y470,y473,t439,t440)) = some (r1,r2,r3,r4,r5):=by first|(rw [hy473];with_reducible exact H)|(have H2_:=(Option.bind_some _ _).symm.trans H;rw [hy473];with_reducible exact H2_)|(have H2_:=(Option.bind_some _ _).symm.trans H;with_reducible exact H2_)|with_reducible exact H|(rw [hy473];exact H)|exact H
    have Ny473:=Aside0.mk hy473
    clear hy473
    simp only [Option.some.injEq,Prod.mk.injEq] at H
    obtain ⟨rfl,rfl,rfl,rfl,rfl⟩:=H
    have hnb138:=NB425_418.out
    have hnc138:=NB418_425.out
    have hnb139:=NB425_0.out
    have hnc139:=NB0_425.out
    have hcz140_0 : wc.cell? ⟨gb425,0,none⟩ = some (.int .i64 t422):=(blk_cell BK425.out 0).trans rfl
    have hcz140_1 : wc.cell? ⟨gb425,1,none⟩ = some (u426001):=(blk_cell BK425.out 1).trans rfl
    have hcz140_2 : wc.cell? ⟨gb425,2,none⟩ = some (u426002):=(blk_cell BK425.out 2).trans rfl
    have hfz140_0:=blk_frozen BK425.out 0
    have hfz140_1:=blk_frozen BK425.out 1
    have hfz140_2:=blk_frozen BK425.out 2
    obtain ⟨Ao141,co141,eo141⟩:=R_slice HO_426001.out
    subst eo141
    go_wp2_with (first|((with_reducible refine gate_callee (f:=63) rfl ?_);refine goesL_ (some 43) rfl rfl Try.func63 (by kernel_rfl) rfl #[.pointer (some ⟨g,0,none⟩),.int .i64 50] rfl gl ?_;(with_reducible refine (spec_l1Cur_pick.calls g s0_0 x1001_1 x1002_1 50 t438 t439 t440 w0 _ ?side1 ?side2 A41.out).mono ?_);(case side1=>exact IsS64.now HI0.out);(case side2=>exact h3 HB.out (IsS64.ge HI0.out) GE418.out GE425.out);rintro e w142 ⟨rfl,hi,hb,hk⟩;refine ⟨_,rfl,?_⟩;replace HO_426001:=ak (R_mono (R_keep (IsS64.apart (show IsS64 w0 _ g s0_0 x1001_1 x1002_1 from (IsS64.now HI0.out)) (rm HO_426001.out) (by decide)) hk (fun _ h=>h.2)) (fun _ h=>h.1));replace HO_426002:=ak (R_mono (R_keep (IsS64.apart (show IsS64 w0 _ g s0_0 x1001_1 x1002_1 from (IsS64.now HI0.out)) (rm HO_426002.out) (by decide)) hk (fun _ h=>h.2)) (fun _ h=>h.1));replace BK418:=ak (KeepBut.blk hk (g':=gb418) (o:=.cells #[.int .i64 0,.slice none 0 0,.slice none 0 0] 27 (0,0)) (bm BK418.out) NB418_0.out (by simp));replace BK425:=ak (KeepBut.blk hk (g':=gb425) (o:=.cells #[.int .i64 t422,.slice Ao141 x426001_1.length co141,u426002] 27 (0,0)) (bm BK425.out) NB425_0.out (by simp));replace HK:=ak (KeepBut.trans (kn HK.out) hk (.inl rfl));replace HB:=ak hb;replace HI0:=ak hi;(try clear hb);(try clear hk);(try clear hi))|((with_reducible refine gate_dst (N:=88) rfl ?_);(try (refine gate_guard (by rfl) ?_;dsimp only));refine R_lit (Kd.int .i64) _ 3 ?hg (N:=88) ?hd (xs:=([0,1,2,3,4,5,6,7,8] : List Int)) (inner:=[.int .i64 0,.int .i64 1,.int .i64 2,.int .i64 3,.int .i64 4,.int .i64 5,.int .i64 6,.int .i64 7,.int .i64 8]) (ok:=fun _=>True) (okp:=fun _=>True) ?hr ?hp (fun _ hk=>hk) trivial (Below.refl _ _) (Nat.le_refl _) (by simp) ?_;(case hd=>rfl);(case hg=>rfl);(case hr=>first|(go_simp;done)|(go_simp;rfl));(case hp=>exact (Reps.one (show Kd.M (Kd.int .i64) _ _ _ 0 [.int .i64 0] from rfl) (Reps.one (show Kd.M (Kd.int .i64) _ _ _ 1 [.int .i64 1] from rfl) (Reps.one (show Kd.M (Kd.int .i64) _ _ _ 2 [.int .i64 2] from rfl) (Reps.one (show Kd.M (Kd.int .i64) _ _ _ 3 [.int .i64 3] from rfl) (Reps.one (show Kd.M (Kd.int .i64) _ _ _ 4 [.int .i64 4] from rfl) (Reps.one (show Kd.M (Kd.int .i64) _ _ _ 5 [.int .i64 5] from rfl) (Reps.one (show Kd.M (Kd.int .i64) _ _ _ 6 [.int .i64 6] from rfl) (Reps.one (show Kd.M (Kd.int .i64) _ _ _ 7 [.int .i64 7] from rfl) (Reps.one (show Kd.M (Kd.int .i64) _ _ _ 8 [.int .i64 8] from rfl) (Reps.none _ _)))))))))));intro v471 w143 ho144 hb hg_ hnew_;clear hg_ hnew_;(rw [← Ny470.out] at ho144);have HO472:=ak (R_lower (R_new' (R_new' ho144 (R_lt (rm HO_426001.out))) (R_lt (rm HO_426002.out))) (keep_size (w:=w) (g:=g) (row:=none) (kn HK.out)));replace HO_426001:=ak (R_elder' (rm HO_426001.out) (R_base ho144) hb);replace HO_426002:=ak (R_elder' (rm HO_426002.out) (R_base ho144) hb);replace BK418:=kb BK418 hb;replace BK425:=kb BK425 hb;replace HK:=ak (KeepBut.trans (kn HK.out) (KeepBut.of_below hb g none) (.inl rfl));replace HB:=ak (below_step (h3 HB.out (IsS64.ge HI0.out) GE418.out GE425.out) hb);replace HI0:=ak (IsS64.below (g:=g) (IsS64.now HI0.out) hb);clear hb ho144)|((with_reducible refine gate_dst (N:=89) rfl ?_);(try (refine gate_guard (by rfl) ?_;dsimp only));refine R_lit (Kd.int .i64) _ 3 ?hg (N:=89) ?hd (xs:=([1,1,1,1,1,1,1,1,1] : List Int)) (inner:=[.int .i64 1,.int .i64 1,.int .i64 1,.int .i64 1,.int .i64 1,.int .i64 1,.int .i64 1,.int .i64 1,.int .i64 1]) (ok:=fun _=>True) (okp:=fun _=>True) ?hr ?hp (fun _ hk=>hk) trivial (Below.refl _ _) (Nat.le_refl _) (by simp) ?_;(case hd=>rfl);(case hg=>rfl);(case hr=>first|(go_simp;done)|(go_simp;rfl));(case hp=>exact (Reps.one (show Kd.M (Kd.int .i64) _ _ _ 1 [.int .i64 1] from rfl) (Reps.one (show Kd.M (Kd.int .i64) _ _ _ 1 [.int .i64 1] from rfl) (Reps.one (show Kd.M (Kd.int .i64) _ _ _ 1 [.int .i64 1] from rfl) (Reps.one (show Kd.M (Kd.int .i64) _ _ _ 1 [.int .i64 1] from rfl) (Reps.one (show Kd.M (Kd.int .i64) _ _ _ 1 [.int .i64 1] from rfl) (Reps.one (show Kd.M (Kd.int .i64) _ _ _ 1 [.int .i64 1] from rfl) (Reps.one (show Kd.M (Kd.int .i64) _ _ _ 1 [.int .i64 1] from rfl) (Reps.one (show Kd.M (Kd.int .i64) _ _ _ 1 [.int .i64 1] from rfl) (Reps.one (show Kd.M (Kd.int .i64) _ _ _ 1 [.int .i64 1] from rfl) (Reps.none _ _)))))))))));intro v474 w145 ho146 hb hg_ hnew_;clear hg_ hnew_;(rw [← Ny473.out] at ho146);have HO475:=ak (R_lower (R_new' (R_new' (R_new' ho146 (R_lt (rm HO_426001.out))) (R_lt (rm HO_426002.out))) (R_lt (rm HO472.out))) (keep_size (w:=w) (g:=g) (row:=none) (kn HK.out)));replace HO_426001:=ak (R_elder' (rm HO_426001.out) (R_base ho146) hb);replace HO_426002:=ak (R_elder' (rm HO_426002.out) (R_base ho146) hb);replace HO472:=ak (R_elder' (rm HO472.out) (R_base ho146) hb);replace BK418:=kb BK418 hb;replace BK425:=kb BK425 hb;replace HK:=ak (KeepBut.trans (kn HK.out) (KeepBut.of_below hb g none) (.inl rfl));replace HB:=ak (below_step (h3 HB.out (IsS64.ge HI0.out) GE418.out GE425.out) hb);replace HI0:=ak (IsS64.below (g:=g) (IsS64.now HI0.out) hb);clear hb ho146;obtain ⟨Ao147,co147,eo147⟩:=R_slice HO475.out;subst eo147;obtain ⟨Ao148,co148,eo148⟩:=R_slice HO472.out;subst eo148;have hcz149_0 : w145.cell? ⟨gb425,0,none⟩ = some (.int .i64 t422):=(blk_cell BK425.out 0).trans rfl;have hcz149_1 : w145.cell? ⟨gb425,1,none⟩ = some (.slice Ao141 x426001_1.length co141):=(blk_cell BK425.out 1).trans rfl;have hcz149_2 : w145.cell? ⟨gb425,2,none⟩ = some (u426002):=(blk_cell BK425.out 2).trans rfl;have hfz149_0:=blk_frozen BK425.out 0;have hfz149_1:=blk_frozen BK425.out 1;have hfz149_2:=blk_frozen BK425.out 2;have hnb150:=NB418_0.out;have hnc150:=NB0_418.out;have hcz151_0 : w145.cell? ⟨gb418,0,none⟩ = some (.int .i64 0):=(blk_cell BK418.out 0).trans rfl;have hcz151_1 : w145.cell? ⟨gb418,1,none⟩ = some (.slice none 0 0):=(blk_cell BK418.out 1).trans rfl;have hcz151_2 : w145.cell? ⟨gb418,2,none⟩ = some (.slice none 0 0):=(blk_cell BK418.out 2).trans rfl;have hfz151_0:=blk_frozen BK418.out 0;have hfz151_1:=blk_frozen BK418.out 1;have hfz151_2:=blk_frozen BK418.out 2))
    refine bodyPost_ret (results_cell_row rfl _ _ gb418 27 #[.int .i64 30,.slice Ao148 y470.length co148,.slice Ao147 y473.length co147] (0,0) _ rfl (by (with_reducible repeat (fail));refine blk_put (cs:=#[.int .i64 30,.slice Ao148 y470.length co148,.slice none 0 0]) ?_ 2 _ rfl;(with_reducible repeat (fail));refine blk_put (cs:=#[.int .i64 30,.slice none 0 0,.slice none 0 0]) ?_ 1 _ rfl;(with_reducible repeat (fail));refine blk_put (cs:=#[.int .i64 0,.slice none 0 0,.slice none 0 0]) ?_ 0 _ rfl;(with_reducible repeat (fail));refine blk_far ?_ NB418_425.out _;(with_reducible repeat (fail));refine blk_far ?_ NB418_425.out _;(with_reducible repeat (fail));refine blk_far ?_ NB418_425.out _;exact bm BK418.out) Try.underlying27 rfl (by kernel_rfl)) rfl ?_
    exact ⟨_,_,fe,by (with_reducible repeat (fail));exact R_mono (R_far (p:=⟨gb418,2,none⟩) (R_far (p:=⟨gb418,1,none⟩) (R_far (p:=⟨gb418,0,none⟩) (R_far (p:=⟨gb425,2,none⟩) (R_far (p:=⟨gb425,1,none⟩) (R_far (p:=⟨gb425,0,none⟩) (R_types (R_types HO472.out BK425.out (by decide)) BK418.out (by decide)) (fun _ hk=>hk.1.2) (.int .i64 30)) (fun _ hk=>hk.1.2) (.slice Ao148 y470.length co148)) (fun _ hk=>hk.1.2) (.slice Ao147 y473.length co147)) (fun _ hk=>hk.2) (.int .i64 30)) (fun _ hk=>hk.2) (.slice Ao148 y470.length co148)) (fun _ hk=>hk.2) (.slice Ao147 y473.length co147)) (fun _ hk=>hk.1.1.2),by (with_reducible repeat (fail));exact R_mono (R_far (p:=⟨gb418,2,none⟩) (R_far (p:=⟨gb418,1,none⟩) (R_far (p:=⟨gb418,0,none⟩) (R_far (p:=⟨gb425,2,none⟩) (R_far (p:=⟨gb425,1,none⟩) (R_far (p:=⟨gb425,0,none⟩) (R_types (R_types HO475.out BK425.out (by decide)) BK418.out (by decide)) (fun _ hk=>hk.1.2) (.int .i64 30)) (fun _ hk=>hk.1.2) (.slice Ao148 y470.length co148)) (fun _ hk=>hk.1.2) (.slice Ao147 y473.length co147)) (fun _ hk=>hk.2) (.int .i64 30)) (fun _ hk=>hk.2) (.slice Ao148 y470.length co148)) (fun _ hk=>hk.2) (.slice Ao147 y473.length co147)) (fun _ hk=>hk.1.1.2),(IsS64.now HI0.out),h3 HB.out (IsS64.ge HI0.out) GE418.out GE425.out,(kn HK.out)⟩
   rw [if_pos c91] at H
   have c91b0 : (t438 == 2) = true:=beq_iff_eq.mpr c91
   have c91b1 : (t438 != 2) = false:=bne_eq_false_iff_eq.mpr c91
   clear c91
   by_cases c92 : (x426001_1.length : Int) > 0
   rotate_left
   ·rw [if_neg c92] at H
    have c92b0 : decide (0 < (x426001_1.length : Int)) = false:=decide_eq_false c92
    have c92b1 : decide (0 < x426001_1.length) = false:=decide_eq_false (by omega)
    clear c92
    simp only [Option.some.injEq,Prod.mk.injEq] at H
    obtain ⟨rfl,rfl,rfl,rfl,rfl⟩:=H
    have hnb115:=NB425_418.out
    have hnc115:=NB418_425.out
    have hnb116:=NB425_0.out
    have hnc116:=NB0_425.out
    have hcz117_0 : wc.cell? ⟨gb425,0,none⟩ = some (.int .i64 t422):=(blk_cell BK425.out 0).trans rfl
    have hcz117_1 : wc.cell? ⟨gb425,1,none⟩ = some (u426001):=(blk_cell BK425.out 1).trans rfl
    have hcz117_2 : wc.cell? ⟨gb425,2,none⟩ = some (u426002):=(blk_cell BK425.out 2).trans rfl
    have hfz117_0:=blk_frozen BK425.out 0
    have hfz117_1:=blk_frozen BK425.out 1
    have hfz117_2:=blk_frozen BK425.out 2
    obtain ⟨Ao118,co118,eo118⟩:=R_slice HO_426001.out
    subst eo118
    go_wp2_with (((with_reducible refine gate_callee (f:=63) rfl ?_);refine goesL_ (some 43) rfl rfl Try.func63 (by kernel_rfl) rfl #[.pointer (some ⟨g,0,none⟩),.int .i64 50] rfl gl ?_;(with_reducible refine (spec_l1Cur_pick.calls g s0_0 x1001_1 x1002_1 50 t438 t439 t440 w0 _ ?side1 ?side2 A41.out).mono ?_);(case side1=>exact IsS64.now HI0.out);(case side2=>exact h3 HB.out (IsS64.ge HI0.out) GE418.out GE425.out);rintro e w119 ⟨rfl,hi,hb,hk⟩;refine ⟨_,rfl,?_⟩;replace HO_426001:=ak (R_mono (R_keep (IsS64.apart (show IsS64 w0 _ g s0_0 x1001_1 x1002_1 from (IsS64.now HI0.out)) (rm HO_426001.out) (by decide)) hk (fun _ h=>h.2)) (fun _ h=>h.1));replace HO_426002:=ak (R_mono (R_keep (IsS64.apart (show IsS64 w0 _ g s0_0 x1001_1 x1002_1 from (IsS64.now HI0.out)) (rm HO_426002.out) (by decide)) hk (fun _ h=>h.2)) (fun _ h=>h.1));replace BK418:=ak (KeepBut.blk hk (g':=gb418) (o:=.cells #[.int .i64 0,.slice none 0 0,.slice none 0 0] 27 (0,0)) (bm BK418.out) NB418_0.out (by simp));replace BK425:=ak (KeepBut.blk hk (g':=gb425) (o:=.cells #[.int .i64 t422,.slice Ao118 x426001_1.length co118,u426002] 27 (0,0)) (bm BK425.out) NB425_0.out (by simp));replace HK:=ak (KeepBut.trans (kn HK.out) hk (.inl rfl));replace HB:=ak hb;replace HI0:=ak hi;(try clear hb);(try clear hk);(try clear hi);have hcz120_0 : w119.cell? ⟨gb425,0,none⟩ = some (.int .i64 t422):=(blk_cell BK425.out 0).trans rfl;have hcz120_1 : w119.cell? ⟨gb425,1,none⟩ = some (.slice Ao118 x426001_1.length co118):=(blk_cell BK425.out 1).trans rfl;have hcz120_2 : w119.cell? ⟨gb425,2,none⟩ = some (u426002):=(blk_cell BK425.out 2).trans rfl;have hfz120_0:=blk_frozen BK425.out 0;have hfz120_1:=blk_frozen BK425.out 1;have hfz120_2:=blk_frozen BK425.out 2;have hnb121:=NB418_0.out;have hnc121:=NB0_418.out;have hcz122_0 : w119.cell? ⟨gb418,0,none⟩ = some (.int .i64 0):=(blk_cell BK418.out 0).trans rfl;have hcz122_1 : w119.cell? ⟨gb418,1,none⟩ = some (.slice none 0 0):=(blk_cell BK418.out 1).trans rfl;have hcz122_2 : w119.cell? ⟨gb418,2,none⟩ = some (.slice none 0 0):=(blk_cell BK418.out 2).trans rfl;have hfz122_0:=blk_frozen BK418.out 0;have hfz122_1:=blk_frozen BK418.out 1;have hfz122_2:=blk_frozen BK418.out 2;obtain ⟨Ao123,co123,eo123⟩:=R_slice HO_426002.out;subst eo123))
    refine bodyPost_ret (results_cell_row rfl _ _ gb418 27 #[.int .i64 t422,.slice Ao118 x426001_1.length co118,.slice Ao123 x426002_1.length co123] (0,0) _ rfl (by (with_reducible repeat (fail));refine blk_put (cs:=#[.int .i64 t422,.slice Ao118 x426001_1.length co118,.slice none 0 0]) ?_ 2 _ rfl;(with_reducible repeat (fail));refine blk_put (cs:=#[.int .i64 t422,.slice none 0 0,.slice none 0 0]) ?_ 1 _ rfl;(with_reducible repeat (fail));refine blk_put (cs:=#[.int .i64 0,.slice none 0 0,.slice none 0 0]) ?_ 0 _ rfl;exact bm BK418.out) Try.underlying27 rfl (by kernel_rfl)) rfl ?_
    exact ⟨_,_,fe,by (with_reducible repeat (fail));exact R_mono (R_far (p:=⟨gb418,2,none⟩) (R_far (p:=⟨gb418,1,none⟩) (R_far (p:=⟨gb418,0,none⟩) (R_types HO_426001.out BK418.out (by decide)) (fun _ hk=>hk.2) (.int .i64 t422)) (fun _ hk=>hk.2) (.slice Ao118 x426001_1.length co118)) (fun _ hk=>hk.2) (.slice Ao123 x426002_1.length co123)) (fun _ hk=>hk.1),by (with_reducible repeat (fail));exact R_mono (R_far (p:=⟨gb418,2,none⟩) (R_far (p:=⟨gb418,1,none⟩) (R_far (p:=⟨gb418,0,none⟩) (R_types HO_426002.out BK418.out (by decide)) (fun _ hk=>hk.2) (.int .i64 t422)) (fun _ hk=>hk.2) (.slice Ao118 x426001_1.length co118)) (fun _ hk=>hk.2) (.slice Ao123 x426002_1.length co123)) (fun _ hk=>hk.1),(IsS64.now HI0.out),h3 HB.out (IsS64.ge HI0.out) GE418.out GE425.out,(kn HK.out)⟩
   rw [if_pos c92] at H
   have c92b0 : decide (0 < (x426001_1.length : Int)) = true:=decide_eq_true c92
   have c92b1 : decide (0 < x426001_1.length) = true:=decide_eq_true (by omega)
   clear c92
   replace H:=Option.bind_eq_some_iff.mp H
   obtain ⟨⟨t457,t458,t459⟩,A930,H⟩:=H
   (try dsimp only at H)
   have A93:=Aside0.mk A930
   clear A930
   obtain ⟨y460,hy460⟩ : ∃ y_ : List Int,y_ = (([0,2] : List Int)):=⟨_,rfl⟩
   replace H : ((spec_l1Cur_among.f s0_0 t458 t459 y460).bind fun bt463=>(if 0 ≤ t457 then (if t457 < (x426002_1.length : Int) then (some (t422,x426001_1,(x426002_1.set (t457 : Int).toNat bt463.1),bt463.2.1,bt463.2.2)) else (none)) else (none))) = some (r1,r2,r3,r4,r5):=by first|(rw [hy460];with_reducible exact H)|(have H2_:=(Option.bind_some _ _).symm.trans H;rw [hy460];with_reducible exact H2_)|(have H2_:=(Option.bind_some _ _).symm.trans H;with_reducible exact H2_)|with_reducible exact H|(rw [hy460];exact H)|exact H
   have Ny460:=Aside0.mk hy460
   clear hy460
   replace H:=Option.bind_eq_some_iff.mp H
   obtain ⟨⟨t463,t464,t465⟩,A940,H⟩:=H
   (try dsimp only at H)
   have A94:=Aside0.mk A940
   clear A940
   by_cases c95 : 0 ≤ t457
   rotate_left
   ·rw [if_neg c95] at H
    exact absurd H (by simp)
   rw [if_pos c95] at H
   have c95b0 : decide (0 ≤ t457) = true:=decide_eq_true c95
   clear c95
   by_cases c96 : t457 < (x426002_1.length : Int)
   rotate_left
   ·rw [if_neg c96] at H
    exact absurd H (by simp)
   rw [if_pos c96] at H
   have c96b0 : decide (t457 < (x426002_1.length : Int)) = true:=decide_eq_true c96
   clear c96
   obtain ⟨y466,hy466⟩ : ∃ y_ : List Int,y_ = (x426002_1.set (t457 : Int).toNat t463):=⟨_,rfl⟩
   replace H : (some (t422,x426001_1,y466,t464,t465)) = some (r1,r2,r3,r4,r5):=by first|(rw [hy466];with_reducible exact H)|(have H2_:=(Option.bind_some _ _).symm.trans H;rw [hy466];with_reducible exact H2_)|(have H2_:=(Option.bind_some _ _).symm.trans H;with_reducible exact H2_)|with_reducible exact H|(rw [hy466];exact H)|exact H
   have Ny466:=Aside0.mk hy466
   clear hy466
   simp only [Option.some.injEq,Prod.mk.injEq] at H
   obtain ⟨rfl,rfl,rfl,rfl,rfl⟩:=H
   have hnb98:=NB425_418.out
   have hnc98:=NB418_425.out
   have hnb99:=NB425_0.out
   have hnc99:=NB0_425.out
   have hcz100_0 : wc.cell? ⟨gb425,0,none⟩ = some (.int .i64 t422):=(blk_cell BK425.out 0).trans rfl
   have hcz100_1 : wc.cell? ⟨gb425,1,none⟩ = some (u426001):=(blk_cell BK425.out 1).trans rfl
   have hcz100_2 : wc.cell? ⟨gb425,2,none⟩ = some (u426002):=(blk_cell BK425.out 2).trans rfl
   have hfz100_0:=blk_frozen BK425.out 0
   have hfz100_1:=blk_frozen BK425.out 1
   have hfz100_2:=blk_frozen BK425.out 2
   obtain ⟨Ao101,co101,eo101⟩:=R_slice HO_426001.out
   subst eo101
   try go_wp2_with (((with_reducible refine gate_callee (f:=63) rfl ?_);refine goesL_ (some 43) rfl rfl Try.func63 (by kernel_rfl) rfl #[.pointer (some ⟨g,0,none⟩),.int .i64 50] rfl gl ?_;(with_reducible refine (spec_l1Cur_pick.calls g s0_0 x1001_1 x1002_1 50 t438 t439 t440 w0 _ ?side1 ?side2 A41.out).mono ?_);(case side1=>exact IsS64.now HI0.out);(case side2=>exact h3 HB.out (IsS64.ge HI0.out) GE418.out GE425.out);rintro e w102 ⟨rfl,hi,hb,hk⟩;refine ⟨_,rfl,?_⟩;replace HO_426001:=ak (R_mono (R_keep (IsS64.apart (show IsS64 w0 _ g s0_0 x1001_1 x1002_1 from (IsS64.now HI0.out)) (rm HO_426001.out) (by decide)) hk (fun _ h=>h.2)) (fun _ h=>h.1));replace HO_426002:=ak (R_mono (R_keep (IsS64.apart (show IsS64 w0 _ g s0_0 x1001_1 x1002_1 from (IsS64.now HI0.out)) (rm HO_426002.out) (by decide)) hk (fun _ h=>h.2)) (fun _ h=>h.1));replace BK418:=ak (KeepBut.blk hk (g':=gb418) (o:=.cells #[.int .i64 0,.slice none 0 0,.slice none 0 0] 27 (0,0)) (bm BK418.out) NB418_0.out (by simp));replace BK425:=ak (KeepBut.blk hk (g':=gb425) (o:=.cells #[.int .i64 t422,.slice Ao101 x426001_1.length co101,u426002] 27 (0,0)) (bm BK425.out) NB425_0.out (by simp));replace HK:=ak (KeepBut.trans (kn HK.out) hk (.inl rfl));replace HB:=ak hb;replace HI0:=ak hi;(try clear hb);(try clear hk);(try clear hi)))
   replace HO_426001:=ak (R_drew HO_426001.out)
   replace HO_426002:=ak (R_drew HO_426002.out)
   replace BK418:=ak (blk_drew BK418.out)
   replace BK425:=ak (blk_drew BK425.out)
   replace HI0:=ak (IsS64.drew HI0.out)
   replace HK:=ak (keep_drew HK.out)
   replace HB:=ak (below_drew1 HB.out)
   refine start_ (n:=10) (S:=fun w'=>w'.cell? ⟨gb425,0,none⟩ = some (.int .i64 t422) ∧ w'.cell? ⟨gb425,1,none⟩ = some (.slice Ao101 x426001_1.length co101) ∧ w'.cell? ⟨gb425,2,none⟩ = some (u426002)) (ds:=[9]) (lb 10 0) (by kernel_rfl) rfl rfl ⟨(blk_cell BK425.out 0).trans rfl,(blk_cell BK425.out 1).trans rfl,(blk_cell BK425.out 2).trans rfl⟩ (fun hHeld=>?_);refine with_tabW spec_l1Cur_wire.tab17 spec_l1Cur_wire.bits17 (fun HT_ HW_=>?_)
   generalize w102.drew = w103 at HO_426001 HO_426002 BK418 BK425 HI0 HK HB hHeld ⊢
   refine pq 0 (N:=some 70) (lb 10 1) HT_ ?_
   refine pq 2 (N:=some 72) (lb 10 5) HT_ ?_
   refine pq 3 (N:=some 73) (lb 10 13) HT_ ?_
   refine pq 5 (N:=some 75) (lb 10 45) HT_ ?_
   refine tq 1 (N:=some 71) (lb 10 47) HT_ HW_ hHeld ?_
   refine join_ (σ:=Value) 3 (lb 10 127) (fun s_=>[(74,.int .i64 t457),(76,s_)]) (fun s_ w'=>(w'.cell? ⟨gb425,0,none⟩ = some (.int .i64 t422) ∧ w'.cell? ⟨gb425,1,none⟩ = some (.slice Ao101 x426001_1.length co101) ∧ w'.cell? ⟨gb425,2,none⟩ = some (u426002)) ∧ (Kd.R (Kd.int .i64) 3 w' w.heap.size (fun k_=>ob k_ (.slice Ao101 x426001_1.length co101) ∧ ob k_ u426002) s_ y460) ∧ (Kd.R (Kd.int .i64) 3 w' w.heap.size (fun k_=>ob k_ s_ ∧ ob k_ u426002) (.slice Ao101 x426001_1.length co101) x426001_1) ∧ (Kd.R (Kd.int .i64) 3 w' w.heap.size (fun k_=>ob k_ s_ ∧ ob k_ (.slice Ao101 x426001_1.length co101)) u426002 x426002_1) ∧ (w'.heap[gb418]? = some (.cells #[.int .i64 0,.slice none 0 0,.slice none 0 0] 27 (0,0))) ∧ (w'.heap[gb425]? = some (.cells #[.int .i64 t422,.slice Ao101 x426001_1.length co101,u426002] 27 (0,0))) ∧ (IsS64 w0 w' g s0_0 t458 t459) ∧ (KeepBut w w' g none) ∧ (Below w0.heap.size w0 w')) ?_ ?_
   rotate_left
   ·intro hCont
    refine two_ (i:=4) (j:=6) (Ni:=some 74) (Nj:=some 76) (lb 10 63) (lb 10 111) rfl rfl rfl rfl (two_of HT_.out (by kernel_rfl)) (by decide) (by decide) (fun K hK=>?_) (fun K hK=>?_)
    ·skip
     refine goes_ Try.func63 (by kernel_rfl) rfl #[.pointer (some ⟨g,0,none⟩),.int .i64 (x426001_1.length : Int)] (by rfl) rfl rfl gl ?_
     with_reducible refine (spec_l1Cur_pick.calls g s0_0 t439 t440 (x426001_1.length : Int) t457 t458 t459 w0 _ ?side1 ?side2 A93.out).mono ?_
     (case side1=>exact IsS64.now HI0.out)
     (case side2=>exact h3 HB.out (IsS64.ge HI0.out) GE418.out GE425.out)
     rintro e w104 ⟨rfl,hi,hb,hk⟩
     refine ⟨_,rfl,?_⟩
     replace HO_426001:=ak (R_mono (R_keep (IsS64.apart (show IsS64 w0 _ g s0_0 t439 t440 from (IsS64.now HI0.out)) (rm HO_426001.out) (by decide)) hk (fun _ h=>h.2)) (fun _ h=>h.1))
     replace HO_426002:=ak (R_mono (R_keep (IsS64.apart (show IsS64 w0 _ g s0_0 t439 t440 from (IsS64.now HI0.out)) (rm HO_426002.out) (by decide)) hk (fun _ h=>h.2)) (fun _ h=>h.1))
     replace BK418:=ak (KeepBut.blk hk (g':=gb418) (o:=.cells #[.int .i64 0,.slice none 0 0,.slice none 0 0] 27 (0,0)) (bm BK418.out) NB418_0.out (by simp))
     replace BK425:=ak (KeepBut.blk hk (g':=gb425) (o:=.cells #[.int .i64 t422,.slice Ao101 x426001_1.length co101,u426002] 27 (0,0)) (bm BK425.out) NB425_0.out (by simp))
     replace HK:=ak (KeepBut.trans (kn HK.out) hk (.inl rfl))
     replace HB:=ak hb
     replace HI0:=ak hi
     (try clear hb)
     (try clear hk)
     (try clear hi)
     refine hK.out _ _ ⟨(blk_cell BK425.out 0).trans rfl,(blk_cell BK425.out 1).trans rfl,(blk_cell BK425.out 2).trans rfl⟩ (fun hHeld=>?_)
     clear hK K
     refine norm_ (a':=?_) ?_ ?_
     rotate_left
     ·show Act.put _ (some 74) _ = _
      simp only [ap]
      rfl
     refine one_ (i:=6) (N:=some 76) (lb 10 127) rfl rfl (one_of HT_.out (by kernel_rfl)) (by decide) (fun K hK=>?_)
     refine R_lit_step (Kd.int .i64) _ 3 ?hg (N:=76) ?hd (xs:=([0,2] : List Int)) (inner:=[.int .i64 0,.int .i64 2]) (ok:=fun _=>True) (okp:=fun _=>True) ?hr ?hp (fun _ hk=>hk) trivial (Below.refl _ _) (Nat.le_refl _) (by simp) ?_;(case hd=>rfl);(case hg=>rfl);(case hr=>first|(go_simp;done)|(go_simp;rfl));(case hp=>exact (Reps.one (show Kd.M (Kd.int .i64) _ _ _ 0 [.int .i64 0] from rfl) (Reps.one (show Kd.M (Kd.int .i64) _ _ _ 2 [.int .i64 2] from rfl) (Reps.none _ _))))
     intro v461 w105 ho106 hb hg_ hnew_
     clear hg_ hnew_
     (rw [← Ny460.out] at ho106)
     have HO462:=ak (R_lower (R_new' (R_new' ho106 (R_lt (rm HO_426001.out))) (R_lt (rm HO_426002.out))) (keep_size (w:=w) (g:=g) (row:=none) (kn HK.out)))
     replace HO_426001:=ak (R_elder' (rm HO_426001.out) (R_base ho106) hb)
     replace HO_426002:=ak (R_elder' (rm HO_426002.out) (R_base ho106) hb)
     replace BK418:=kb BK418 hb
     replace BK425:=kb BK425 hb
     replace HK:=ak (KeepBut.trans (kn HK.out) (KeepBut.of_below hb g none) (.inl rfl))
     replace HB:=ak (below_step (h3 HB.out (IsS64.ge HI0.out) GE418.out GE425.out) hb)
     replace HI0:=ak (IsS64.below (g:=g) (IsS64.now HI0.out) hb)
     clear hb ho106
     refine hK.out _ _ ⟨(blk_cell BK425.out 0).trans rfl,(blk_cell BK425.out 1).trans rfl,(blk_cell BK425.out 2).trans rfl⟩ (fun hHeld=>?_)
     clear hK K
     refine norm_ (a':=?_) ?_ ?_
     rotate_left
     ·show Act.put _ (some 76) _ = _
      simp only [ap]
      rfl
     exact norm_ (by simp only [putAll,Act.put,List.setIfInBounds_toArray,List.set_cons_zero,List.set_cons_succ]) (hCont (v461) _ ⟨hHeld,(rm (R_mono HO462.out (fun _ hk=>⟨hk.1.2,hk.2⟩))),(rm (R_mono HO_426001.out (fun _ hk=>⟨hk.2,hk.1⟩))),(rm (R_mono HO_426002.out (fun _ hk=>⟨hk.2,hk.1⟩))),(bm BK418.out),(bm BK425.out),(IsS64.now HI0.out),(kn HK.out),(h3 HB.out (IsS64.ge HI0.out) GE418.out GE425.out)⟩)
    skip
    refine R_lit_step (Kd.int .i64) _ 3 ?hg (N:=76) ?hd (xs:=([0,2] : List Int)) (inner:=[.int .i64 0,.int .i64 2]) (ok:=fun _=>True) (okp:=fun _=>True) ?hr ?hp (fun _ hk=>hk) trivial (Below.refl _ _) (Nat.le_refl _) (by simp) ?_;(case hd=>rfl);(case hg=>rfl);(case hr=>first|(go_simp;done)|(go_simp;rfl));(case hp=>exact (Reps.one (show Kd.M (Kd.int .i64) _ _ _ 0 [.int .i64 0] from rfl) (Reps.one (show Kd.M (Kd.int .i64) _ _ _ 2 [.int .i64 2] from rfl) (Reps.none _ _))))
    intro v461 w104 ho105 hb hg_ hnew_
    clear hg_ hnew_
    (rw [← Ny460.out] at ho105)
    have HO462:=ak (R_lower (R_new' (R_new' ho105 (R_lt (rm HO_426001.out))) (R_lt (rm HO_426002.out))) (keep_size (w:=w) (g:=g) (row:=none) (kn HK.out)))
    replace HO_426001:=ak (R_elder' (rm HO_426001.out) (R_base ho105) hb)
    replace HO_426002:=ak (R_elder' (rm HO_426002.out) (R_base ho105) hb)
    replace BK418:=kb BK418 hb
    replace BK425:=kb BK425 hb
    replace HK:=ak (KeepBut.trans (kn HK.out) (KeepBut.of_below hb g none) (.inl rfl))
    replace HB:=ak (below_step (h3 HB.out (IsS64.ge HI0.out) GE418.out GE425.out) hb)
    replace HI0:=ak (IsS64.below (g:=g) (IsS64.now HI0.out) hb)
    clear hb ho105
    refine hK.out _ _ ⟨(blk_cell BK425.out 0).trans rfl,(blk_cell BK425.out 1).trans rfl,(blk_cell BK425.out 2).trans rfl⟩ (fun hHeld=>?_)
    clear hK K
    refine norm_ (a':=?_) ?_ ?_
    rotate_left
    ·show Act.put _ (some 76) _ = _
     simp only [ap]
     rfl
    refine one_ (i:=4) (N:=some 74) (lb 10 127) rfl rfl (one_of HT_.out (by kernel_rfl)) (by decide) (fun K hK=>?_)
    refine goes_ Try.func63 (by kernel_rfl) rfl #[.pointer (some ⟨g,0,none⟩),.int .i64 (x426001_1.length : Int)] (by rfl) rfl rfl gl ?_
    with_reducible refine (spec_l1Cur_pick.calls g s0_0 t439 t440 (x426001_1.length : Int) t457 t458 t459 w0 _ ?side1 ?side2 A93.out).mono ?_
    (case side1=>exact IsS64.now HI0.out)
    (case side2=>exact h3 HB.out (IsS64.ge HI0.out) GE418.out GE425.out)
    rintro e w106 ⟨rfl,hi,hb,hk⟩
    refine ⟨_,rfl,?_⟩
    replace HO_426001:=ak (R_mono (R_keep (IsS64.apart (show IsS64 w0 _ g s0_0 t439 t440 from (IsS64.now HI0.out)) (rm HO_426001.out) (by decide)) hk (fun _ h=>h.2)) (fun _ h=>h.1))
    replace HO_426002:=ak (R_mono (R_keep (IsS64.apart (show IsS64 w0 _ g s0_0 t439 t440 from (IsS64.now HI0.out)) (rm HO_426002.out) (by decide)) hk (fun _ h=>h.2)) (fun _ h=>h.1))
    replace BK418:=ak (KeepBut.blk hk (g':=gb418) (o:=.cells #[.int .i64 0,.slice none 0 0,.slice none 0 0] 27 (0,0)) (bm BK418.out) NB418_0.out (by simp))
    replace BK425:=ak (KeepBut.blk hk (g':=gb425) (o:=.cells #[.int .i64 t422,.slice Ao101 x426001_1.length co101,u426002] 27 (0,0)) (bm BK425.out) NB425_0.out (by simp))
    replace HO462:=ak (R_mono (R_keep (IsS64.apart (show IsS64 w0 _ g s0_0 t439 t440 from (IsS64.now HI0.out)) (rm HO462.out) (by decide)) hk (fun _ h=>h.2)) (fun _ h=>h.1))
    replace HK:=ak (KeepBut.trans (kn HK.out) hk (.inl rfl))
    replace HB:=ak hb
    replace HI0:=ak hi
    (try clear hb)
    (try clear hk)
    (try clear hi)
    refine hK.out _ _ ⟨(blk_cell BK425.out 0).trans rfl,(blk_cell BK425.out 1).trans rfl,(blk_cell BK425.out 2).trans rfl⟩ (fun hHeld=>?_)
    clear hK K
    refine norm_ (a':=?_) ?_ ?_
    rotate_left
    ·show Act.put _ (some 74) _ = _
     simp only [ap]
     rfl
    exact norm_ (by simp only [putAll,Act.put,List.setIfInBounds_toArray,List.set_cons_zero,List.set_cons_succ]) (hCont (v461) _ ⟨hHeld,(rm (R_mono HO462.out (fun _ hk=>⟨hk.1.2,hk.2⟩))),(rm (R_mono HO_426001.out (fun _ hk=>⟨hk.2,hk.1⟩))),(rm (R_mono HO_426002.out (fun _ hk=>⟨hk.2,hk.1⟩))),(bm BK418.out),(bm BK425.out),(IsS64.now HI0.out),(kn HK.out),(h3 HB.out (IsS64.ge HI0.out) GE418.out GE425.out)⟩)
   rintro v461 w107 ⟨hS_,h0_,h1_,h2_,h3_,h4_,h5_,h6_,h7_⟩
   have n0_ : Aside0 (Kd.R (Kd.int .i64) 3 w107 w.heap.size (fun k_=>ob k_ (.slice Ao101 x426001_1.length co101) ∧ ob k_ u426002) v461 y460):=⟨h0_⟩
   have n1_ : Aside0 (Kd.R (Kd.int .i64) 3 w107 w.heap.size (fun k_=>ob k_ v461 ∧ ob k_ u426002) (.slice Ao101 x426001_1.length co101) x426001_1):=⟨h1_⟩
   have n2_ : Aside0 (Kd.R (Kd.int .i64) 3 w107 w.heap.size (fun k_=>ob k_ v461 ∧ ob k_ (.slice Ao101 x426001_1.length co101)) u426002 x426002_1):=⟨h2_⟩
   have n3_ : Aside0 (w107.heap[gb418]? = some (.cells #[.int .i64 0,.slice none 0 0,.slice none 0 0] 27 (0,0))):=⟨h3_⟩
   have n4_ : Aside0 (w107.heap[gb425]? = some (.cells #[.int .i64 t422,.slice Ao101 x426001_1.length co101,u426002] 27 (0,0))):=⟨h4_⟩
   have n5_ : Aside0 (IsS64 w0 w107 g s0_0 t458 t459):=⟨h5_⟩
   have n6_ : Aside0 (KeepBut w w107 g none):=⟨h6_⟩
   have n7_ : Aside0 (Below w0.heap.size w0 w107):=⟨h7_⟩
   clear HO_426001
   clear HO_426002
   clear BK418
   clear BK425
   clear HI0
   clear HK
   clear HB
   clear h0_ h1_ h2_ h3_ h4_ h5_ h6_ h7_
   have HO462:=n0_
   have HO_426001:=n1_
   have HO_426002:=n2_
   have BK418:=n3_
   have BK425:=n4_
   have HI0:=n5_
   have HK:=n6_
   have HB:=n7_
   clear n0_ n1_ n2_ n3_ n4_ n5_ n6_ n7_
   have hHeld : w107.cell? ⟨gb425,0,none⟩ = some (.int .i64 t422) ∧ w107.cell? ⟨gb425,1,none⟩ = some (.slice Ao101 x426001_1.length co101) ∧ w107.cell? ⟨gb425,2,none⟩ = some (u426002):=hS_
   obtain ⟨Ao108,co108,eo108⟩:=R_slice HO462.out
   (subst eo108)
   refine norm_ (a':=?_) ?_ ?_
   rotate_left
   ·simp only [putAll,Act.put,List.setIfInBounds_toArray,List.set_cons_zero,List.set_cons_succ]
    rfl
   refine one_ (i:=7) (N:=some 77) (lb 10 255) rfl rfl (one_of HT_.out (by kernel_rfl)) (by decide) (fun K hK=>?_)
   refine goes_ Try.func57 (by kernel_rfl) rfl #[.pointer (some ⟨g,0,none⟩),.slice Ao108 y460.length co108] (by rfl) rfl rfl gl ?_
   with_reducible refine (spec_l1Cur_among.calls g s0_0 t458 t459 _ _ y460 t463 t464 t465 w0 _ ?side1 ?side2 ?side3 ?side4 ?side5 A94.out).mono ?_
   (case side1=>exact IsS64.now HI0.out)
   (case side2=>exact h3 HB.out (IsS64.ge HI0.out) GE418.out GE425.out)
   (case side3=>exact cm (R_reads' HO462.out).2.2)
   (case side4=>exact (R_reads' HO462.out).2.1)
   (case side5=>exact far_slice (IsS64.own_ne HI0.out HO462.out (by decide)))
   rintro e w109 ⟨rfl,hi,hb,hk⟩
   refine ⟨_,rfl,?_⟩
   replace HO_426001:=ak (R_mono (R_keep (IsS64.apart (show IsS64 w0 _ g s0_0 t458 t459 from (IsS64.now HI0.out)) (rm HO_426001.out) (by decide)) hk (fun _ h=>h.2)) (fun _ h=>h.1))
   replace HO_426002:=ak (R_mono (R_keep (IsS64.apart (show IsS64 w0 _ g s0_0 t458 t459 from (IsS64.now HI0.out)) (rm HO_426002.out) (by decide)) hk (fun _ h=>h.2)) (fun _ h=>h.1))
   replace BK418:=ak (KeepBut.blk hk (g':=gb418) (o:=.cells #[.int .i64 0,.slice none 0 0,.slice none 0 0] 27 (0,0)) (bm BK418.out) NB418_0.out (by simp))
   replace BK425:=ak (KeepBut.blk hk (g':=gb425) (o:=.cells #[.int .i64 t422,.slice Ao101 x426001_1.length co101,u426002] 27 (0,0)) (bm BK425.out) NB425_0.out (by simp))
   replace HO462:=ak (R_mono (R_keep (IsS64.apart (show IsS64 w0 _ g s0_0 t458 t459 from (IsS64.now HI0.out)) (rm HO462.out) (by decide)) hk (fun _ h=>h.2)) (fun _ h=>h.1))
   replace HK:=ak (KeepBut.trans (kn HK.out) hk (.inl rfl))
   replace HB:=ak hb
   replace HI0:=ak hi
   (try clear hb)
   (try clear hk)
   (try clear hi)
   have p97 : 0 ≤ (t457 : Int):=od
   have q97 : (t457 : Int) < ((x426002_1.length : Int) : Int):=od
   obtain ⟨go97,co97,eo97,gb97,gl97,cl97,HG97⟩:=R_form HO_426002.out (by omega)
   (cases eo97)
   have GB97:=Aside0.mk gb97
   have GG97:=Aside0.mk HG97
   clear gb97 gl97 HG97
   obtain ⟨hx97_0,hf97_0⟩:=R_celln 0 HO_426002.out (t457 : Int) p97 q97
   replace p97:=eq_true p97
   replace q97:=eq_true q97
   have HN0_go97:=Aside0.mk (show g ≠ go97 from by have h_:=IsS64.own_ne HI0.out HO_426002.out (by decide);intro e_;exact h_ (by rw [e_];rfl))
   have HP110:=R_putn HO_426002.out (t457 : Int) t463
   rw [← Ny466.out] at HP110
   have HQ110:=Aside0.mk HP110
   clear HP110
   refine hK.out _ _ ⟨(blk_cell BK425.out 0).trans rfl,(blk_cell BK425.out 1).trans rfl,(blk_cell BK425.out 2).trans rfl⟩ (fun hHeld=>?_)
   clear hK K
   refine norm_ (a':=?_) ?_ ?_
   rotate_left
   ·show Act.put _ (some 77) _ = _
    simp only [ap]
    rfl
   refine pq 8 (N:=some 78) (lb 10 511) HT_ ?_
   refine last_ (i:=9) (N:=none) (lb 10 1023) rfl rfl (one_of HT_.out (by kernel_rfl)) (by decide) (fun K hK=>?_)
   refine skip_ (w1:=?_) (by rfl) rfl ?_ ?_
   rotate_left
   ·go_simp
    rfl
   refine hK.out _ _ ?_
   clear hK K
   refine done_ (done_of HT_.out (by kernel_rfl)) ?_
   have n0_ : Aside0 (Kd.R (Kd.int .i64) 3 (w109.setCell ⟨go97,(t457 : Int).toNat,none⟩ (.int .i64 t463)) w.heap.size (fun k_=>some k_ ≠ (.slice (some ⟨go97,0,none⟩) x426002_1.length co97 : Value).ownBlock ∧ ob k_ (.slice Ao108 y460.length co108)) (.slice Ao101 x426001_1.length co101) x426001_1):=⟨by (with_reducible repeat (fail));exact R_mono (R_far (p:=⟨go97,(t457 : Int).toNat,none⟩) (R_mono HO_426001.out (fun k_ hk=>(⟨hk,fun e_=>hk.2 (by rw [e_];rfl)⟩ : _ ∧ k_ ≠ go97))) (fun _ hk=>hk.2) (.int .i64 t463)) (fun _ hk=>⟨hk.1.2,hk.1.1⟩)⟩
   have n1_ : Aside0 (Kd.R (Kd.int .i64) 3 (w109.setCell ⟨go97,(t457 : Int).toNat,none⟩ (.int .i64 t463)) w.heap.size (fun k_=>ob k_ (.slice Ao101 x426001_1.length co101) ∧ ob k_ (.slice Ao108 y460.length co108)) (.slice (some ⟨go97,0,none⟩) x426002_1.length co97) y466):=⟨rm (R_mono HQ110.out (fun _ hk=>⟨hk.2,hk.1⟩))⟩
   have n2_ : Aside0 (Kd.R (Kd.int .i64) 3 (w109.setCell ⟨go97,(t457 : Int).toNat,none⟩ (.int .i64 t463)) w.heap.size (fun k_=>ob k_ (.slice Ao101 x426001_1.length co101) ∧ some k_ ≠ (.slice (some ⟨go97,0,none⟩) x426002_1.length co97 : Value).ownBlock) (.slice Ao108 y460.length co108) y460):=⟨by (with_reducible repeat (fail));exact R_mono (R_far (p:=⟨go97,(t457 : Int).toNat,none⟩) (R_mono HO462.out (fun k_ hk=>(⟨hk,fun e_=>hk.2 (by rw [e_];rfl)⟩ : _ ∧ k_ ≠ go97))) (fun _ hk=>hk.2) (.int .i64 t463)) (fun _ hk=>⟨hk.1.1,hk.1.2⟩)⟩
   have n3_ : Aside0 ((w109.setCell ⟨go97,(t457 : Int).toNat,none⟩ (.int .i64 t463)).heap[gb418]? = some (.cells #[.int .i64 0,.slice none 0 0,.slice none 0 0] 27 (0,0))):=⟨by (with_reducible repeat (fail));refine blk_far ?_ (by have h_:=R_ne HO_426002.out BK418.out (by decide);intro e_;exact h_ (by rw [e_];rfl)) _;exact bm BK418.out⟩
   have n4_ : Aside0 ((w109.setCell ⟨go97,(t457 : Int).toNat,none⟩ (.int .i64 t463)).heap[gb425]? = some (.cells #[.int .i64 t422,.slice Ao101 x426001_1.length co101,.slice (some ⟨go97,0,none⟩) x426002_1.length co97] 27 (0,0))):=⟨by (with_reducible repeat (fail));refine blk_far ?_ (by have h_:=R_ne HO_426002.out BK425.out (by decide);intro e_;exact h_ (by rw [e_];rfl)) _;exact bm BK425.out⟩
   have n5_ : Aside0 (IsS64 w0 (w109.setCell ⟨go97,(t457 : Int).toNat,none⟩ (.int .i64 t463)) g s0_0 t464 t465):=⟨by (skip);repeat ((with_reducible first|exact HI0.out|apply IsS64.alloc|apply IsS64.drewN|apply IsS64.drew|apply IsS64.set_1|apply IsS64.set_2|refine IsS64.far ?_ HN0_go97.out _|refine IsS64.far ?_ NB0_418.out _|refine IsS64.far ?_ NB0_425.out _))⟩
   have n6_ : Aside0 (KeepBut w (w109.setCell ⟨go97,(t457 : Int).toNat,none⟩ (.int .i64 t463)) g none):=⟨by repeat ((with_reducible first|exact HK.out|apply KeepBut.set_|apply keep_drewN|apply keep_drew|apply keep_alloc|refine keep_far ?_ GB97.out _|refine keep_far ?_ GW418.out _|refine keep_far ?_ GW425.out _))⟩
   have n7_ : Aside0 (Below w0.heap.size w0 (w109.setCell ⟨go97,(t457 : Int).toNat,none⟩ (.int .i64 t463))):=⟨by repeat ((with_reducible first|exact HB.out|apply below_alloc|apply pw_below_drewN|apply below_drew1|refine below_set ?_ (Nat.le_trans HL.out GB97.out)|refine below_set ?_ (IsS64.ge HI0.out)|refine below_set ?_ GE418.out|refine below_set ?_ GE425.out))⟩
   (try clear HO_426001)
   (try clear HO_426002)
   (try clear HO462)
   (try clear BK418)
   (try clear BK425)
   (try clear HI0)
   (try clear HK)
   (try clear HB)
   generalize (w109.setCell ⟨go97,(t457 : Int).toNat,none⟩ (.int .i64 t463)) = w111 at n0_ n1_ n2_ n3_ n4_ n5_ n6_ n7_ ⊢
   have HO_426001:=n0_
   have HO_426002:=n1_
   have HO462:=n2_
   have BK418:=n3_
   have BK425:=n4_
   have HI0:=n5_
   have HK:=n6_
   have HB:=n7_
   clear n0_ n1_ n2_ n3_ n4_ n5_ n6_ n7_
   have hcz112_0 : w111.cell? ⟨gb425,0,none⟩ = some (.int .i64 t422):=(blk_cell BK425.out 0).trans rfl
   have hcz112_1 : w111.cell? ⟨gb425,1,none⟩ = some (.slice Ao101 x426001_1.length co101):=(blk_cell BK425.out 1).trans rfl
   have hcz112_2 : w111.cell? ⟨gb425,2,none⟩ = some (.slice (some ⟨go97,0,none⟩) x426002_1.length co97):=(blk_cell BK425.out 2).trans rfl
   have hfz112_0:=blk_frozen BK425.out 0
   have hfz112_1:=blk_frozen BK425.out 1
   have hfz112_2:=blk_frozen BK425.out 2
   have hnb113:=NB418_0.out
   have hnc113:=NB0_418.out
   have hcz114_0 : w111.cell? ⟨gb418,0,none⟩ = some (.int .i64 0):=(blk_cell BK418.out 0).trans rfl
   have hcz114_1 : w111.cell? ⟨gb418,1,none⟩ = some (.slice none 0 0):=(blk_cell BK418.out 1).trans rfl
   have hcz114_2 : w111.cell? ⟨gb418,2,none⟩ = some (.slice none 0 0):=(blk_cell BK418.out 2).trans rfl
   have hfz114_0:=blk_frozen BK418.out 0
   have hfz114_1:=blk_frozen BK418.out 1
   have hfz114_2:=blk_frozen BK418.out 2
   try go_wp2
   refine bodyPost_ret (results_cell_row rfl _ _ gb418 27 #[.int .i64 t422,.slice Ao101 x426001_1.length co101,.slice (some ⟨go97,0,none⟩) x426002_1.length co97] (0,0) _ rfl (by (with_reducible repeat (fail));refine blk_put (cs:=#[.int .i64 t422,.slice Ao101 x426001_1.length co101,.slice none 0 0]) ?_ 2 _ rfl;(with_reducible repeat (fail));refine blk_put (cs:=#[.int .i64 t422,.slice none 0 0,.slice none 0 0]) ?_ 1 _ rfl;(with_reducible repeat (fail));refine blk_put (cs:=#[.int .i64 0,.slice none 0 0,.slice none 0 0]) ?_ 0 _ rfl;exact bm BK418.out) Try.underlying27 rfl (by kernel_rfl)) rfl ?_
   exact ⟨_,_,fe,by (with_reducible repeat (fail));exact R_mono (R_far (p:=⟨gb418,2,none⟩) (R_far (p:=⟨gb418,1,none⟩) (R_far (p:=⟨gb418,0,none⟩) (R_types HO_426001.out BK418.out (by decide)) (fun _ hk=>hk.2) (.int .i64 t422)) (fun _ hk=>hk.2) (.slice Ao101 x426001_1.length co101)) (fun _ hk=>hk.2) (.slice (some ⟨go97,0,none⟩) x426002_1.length co97)) (fun _ hk=>hk.1.1),by (with_reducible repeat (fail));exact R_mono (R_far (p:=⟨gb418,2,none⟩) (R_far (p:=⟨gb418,1,none⟩) (R_far (p:=⟨gb418,0,none⟩) (R_types HO_426002.out BK418.out (by decide)) (fun _ hk=>hk.2) (.int .i64 t422)) (fun _ hk=>hk.2) (.slice Ao101 x426001_1.length co101)) (fun _ hk=>hk.2) (.slice (some ⟨go97,0,none⟩) x426002_1.length co97)) (fun _ hk=>hk.1.1),(IsS64.now HI0.out),h3 HB.out (IsS64.ge HI0.out) GE418.out GE425.out,(kn HK.out)⟩


end
end Go.Proofs.Ytciihopkgblpkaa.QFnWires
