/- Functions that the law FnReaches comes to, and their walks: no condition but those named. -/
import Derived.Test.YthagkpoinjpmfaaQFnReachesx0
import Derived.Test.YthagkpoinjpmfaaQFnReachesx1
import Derived.Test.YthagkpoinjpmfaaQFnReachesx9
namespace Go.Proofs.Ythagkpoinjpmfaa.QFnReaches
open Go.RowKit Go.Proofs.YthagkpoinjpmfaaW.PrintWords Go.Proofs.YthagkpoinjpmfaaW.PrintLast Go.Proofs.YthagkpoinjpmfaaW.PrintMore Go.Proofs.Ythagkpoinjpmfaa.Short
attribute [local go_sem] max2_int min2_int max_two min_two max_three min_three max_four min_four
set_option linter.unusedVariables false
set_option linter.unusedSimpArgs false
section
open Kd
def spec_l1Cur_size.f (s0_0:List Int) (s0_1:Int) (s0_2:Int):Option (Int × Int × Int):=(spec_l1Cur_one.f s0_0 s0_1 s0_2 40).bind fun bt332=>(if bt332.1=true then((spec_l1Cur_among.f s0_0 bt332.2.1 bt332.2.2 (([1,2,24,25,0,(-1),4611686018427387904]:List Int))).bind fun bt338=>(some (bt338.1,bt338.2.1,bt338.2.2)))else((spec_l1Cur_among.f s0_0 bt332.2.1 bt332.2.2 (([5,6,4,8,3,10,7,13,24,2]:List Int))).bind fun bt344=>(some (bt344.1,bt344.2.1,bt344.2.2))))
set_option maxHeartbeats 8000000 in
set_option maxRecDepth 100000 in
theorem spec_l1Cur_size.calls (g:Nat) (s0_0:List Int) (s0_1:Int) (s0_2:Int) (r1:Int) (r2:Int) (r3:Int) (w0 w:World) (hI:IsS95 w0 w g s0_0 s0_1 s0_2) (hB:Below w0.heap.size w0 w) (h:spec_l1Cur_size.f s0_0 s0_1 s0_2=some (r1,r2,r3)):
  Calls Try.prog 112 #[.pointer (some ⟨g,0,none⟩)] w fun e w'=>e= .returned (.int .i64 r1)∧IsS95 w0 w' g s0_0 r2 r3∧Below w0.heap.size w0 w'∧KeepBut w w' g none:=by
 have HI0:=Aside0.mk hI
 have HK:=Aside0.mk (KeepBut.refl w g none)
 have HL:=Aside0.mk hB.size
 clear hI
 have HW0:=Aside0.mk hB.size
 have HB:=Aside0.mk hB
 clear hB
 unfold spec_l1Cur_size.f at h
 have H:=h
 clear h
 obtain⟨⟨t332,t333,t334⟩,A2,H⟩:=bd H;(try dsimp only at H)
 by_cases c3:t332=true
 ·subst c3
  rw[if_pos rfl]at H
  generalize hy335: ([1,2,24,25,0,(-1),4611686018427387904]:List Int)=y335 at H
  have Ny335:=ak hy335.symm
  clear hy335
  obtain⟨⟨t338,t339,t340⟩,A4,H⟩:=bd H;(try dsimp only at H)
  simp only[Option.some.injEq,Prod.mk.injEq]at H
  obtain⟨rfl,rfl,rfl⟩:=H
  go_enter Try.func112,Try.ntmps112
  go_wp2_with (first|(refine gs 4 Try.func81 #[.pointer (some ⟨g,0,none⟩),.int .i64 40] ?_;(with_reducible refine(spec_l1Cur_one.calls g s0_0 s0_1 s0_2 40 true t333 t334 w0 _ ?side1 ?side2 A2.out).mono ?_);(case side1=>exact IsS95.now HI0.out);(case side2=>exact h1 HB.out (IsS95.ge HI0.out));rintro e w5 ⟨rfl,hi,hb,hk⟩;refine⟨_,rfl,?_⟩;replace HK:=ak (KeepBut.trans (kn HK.out) hk (.inl rfl));replace HB:=ak hb;replace HI0:=ak hi;(try clear hb);(try clear hk);(try clear hi))|((with_reducible refine gate_dst (N:=6) rfl ?_);refine R_lit (Kd.int .i64) _ 3 ?hg (N:=6) ?hd (xs:=([1,2,24,25,0,(-1),4611686018427387904]:List Int)) (inner:=[.int .i64 1,.int .i64 2,.int .i64 24,.int .i64 25,.int .i64 0,.int .i64 (-1),.int .i64 4611686018427387904]) (ok:=fun _=>True) (okp:=fun _=>True) ?hr ?hp (fun _ hk=>hk) trivial (Below.refl _ _) (Nat.le_refl _) (by simp) ?_;(case hd=>rfl);(case hg=>rfl);(case hr=>first|(go_simp;done)|(go_simp;rfl));(case hp=>exact(Reps.one (show Kd.M (Kd.int .i64) _ _ _ 1 [.int .i64 1]from rfl) (Reps.one (show Kd.M (Kd.int .i64) _ _ _ 2 [.int .i64 2]from rfl) (Reps.one (show Kd.M (Kd.int .i64) _ _ _ 24 [.int .i64 24]from rfl) (Reps.one (show Kd.M (Kd.int .i64) _ _ _ 25 [.int .i64 25]from rfl) (Reps.one (show Kd.M (Kd.int .i64) _ _ _ 0 [.int .i64 0]from rfl) (Reps.one (show Kd.M (Kd.int .i64) _ _ _ (-1) [.int .i64 (-1)]from rfl) (Reps.one (show Kd.M (Kd.int .i64) _ _ _ 4611686018427387904 [.int .i64 4611686018427387904]from rfl) (Reps.none _ _)))))))));intro v336 w6 ho7 hb hg_ hnew_;clear hg_ hnew_;(first|rw[←Ny335.out]at ho7|(simp only[Int.reduceToNat]at ho7;rw[←Ny335.out]at ho7));have HO337:=ak (R_lower ho7 (keep_size (w:=w) (g:=g) (row:=none) (kn HK.out)));replace HK:=ak (KeepBut.trans (kn HK.out) (KeepBut.of_below hb g none) (.inl rfl));replace HB:=ak (below_step (h1 HB.out (IsS95.ge HI0.out)) hb);replace HI0:=ak (IsS95.below (g:=g) (IsS95.now HI0.out) hb);clear hb ho7;obtain⟨Ao8,co8,eo8⟩:=R_slice HO337.out;subst eo8)|(refine gs 7 Try.func82 #[.pointer (some ⟨g,0,none⟩),.slice Ao8 y335.length co8] ?_;(with_reducible refine(spec_l1Cur_among.calls g s0_0 t333 t334 _ _ y335 t338 t339 t340 w0 _ ?side1 ?side2 ?side3 ?side4 ?side5 A4.out).mono ?_);(case side1=>exact IsS95.now HI0.out);(case side2=>exact h1 HB.out (IsS95.ge HI0.out));(case side3=>exact cm (R_reads' HO337.out).2.2);(case side4=>exact(R_reads' HO337.out).2.1);(case side5=>exact far_slice (IsS95.own_ne HI0.out HO337.out (by decide)));rintro e w9 ⟨rfl,hi,hb,hk⟩;refine⟨_,rfl,?_⟩;replace HO337:=ak (R_mono (R_keep (IsS95.apart (show IsS95 w0 _ g s0_0 t333 t334 from(IsS95.now HI0.out)) (rm HO337.out) (by decide)) hk (fun _ h=>h.2)) (fun _ h=>h.1));replace HK:=ak (KeepBut.trans (kn HK.out) hk (.inl rfl));replace HB:=ak hb;replace HI0:=ak hi;(try clear hb);(try clear hk);(try clear hi)))
  go_ret
  exact⟨fe,(IsS95.now HI0.out),h1 HB.out (IsS95.ge HI0.out),(kn HK.out)⟩
 replace c3:=Bool.eq_false_iff.mpr c3
 subst c3
 rw[if_neg (show ¬(false=true)by decide)]at H
 generalize hy341: ([5,6,4,8,3,10,7,13,24,2]:List Int)=y341 at H
 have Ny341:=ak hy341.symm
 clear hy341
 obtain⟨⟨t344,t345,t346⟩,A10,H⟩:=bd H;(try dsimp only at H)
 simp only[Option.some.injEq,Prod.mk.injEq]at H
 obtain⟨rfl,rfl,rfl⟩:=H
 go_enter Try.func112,Try.ntmps112
 go_wp2_with (first|(refine gs 4 Try.func81 #[.pointer (some ⟨g,0,none⟩),.int .i64 40] ?_;(with_reducible refine(spec_l1Cur_one.calls g s0_0 s0_1 s0_2 40 false t333 t334 w0 _ ?side1 ?side2 A2.out).mono ?_);(case side1=>exact IsS95.now HI0.out);(case side2=>exact h1 HB.out (IsS95.ge HI0.out));rintro e w11 ⟨rfl,hi,hb,hk⟩;refine⟨_,rfl,?_⟩;replace HK:=ak (KeepBut.trans (kn HK.out) hk (.inl rfl));replace HB:=ak hb;replace HI0:=ak hi;(try clear hb);(try clear hk);(try clear hi))|((with_reducible refine gate_dst (N:=9) rfl ?_);refine R_lit (Kd.int .i64) _ 3 ?hg (N:=9) ?hd (xs:=([5,6,4,8,3,10,7,13,24,2]:List Int)) (inner:=[.int .i64 5,.int .i64 6,.int .i64 4,.int .i64 8,.int .i64 3,.int .i64 10,.int .i64 7,.int .i64 13,.int .i64 24,.int .i64 2]) (ok:=fun _=>True) (okp:=fun _=>True) ?hr ?hp (fun _ hk=>hk) trivial (Below.refl _ _) (Nat.le_refl _) (by simp) ?_;(case hd=>rfl);(case hg=>rfl);(case hr=>first|(go_simp;done)|(go_simp;rfl));(case hp=>exact(Reps.one (show Kd.M (Kd.int .i64) _ _ _ 5 [.int .i64 5]from rfl) (Reps.one (show Kd.M (Kd.int .i64) _ _ _ 6 [.int .i64 6]from rfl) (Reps.one (show Kd.M (Kd.int .i64) _ _ _ 4 [.int .i64 4]from rfl) (Reps.one (show Kd.M (Kd.int .i64) _ _ _ 8 [.int .i64 8]from rfl) (Reps.one (show Kd.M (Kd.int .i64) _ _ _ 3 [.int .i64 3]from rfl) (Reps.one (show Kd.M (Kd.int .i64) _ _ _ 10 [.int .i64 10]from rfl) (Reps.one (show Kd.M (Kd.int .i64) _ _ _ 7 [.int .i64 7]from rfl) (Reps.one (show Kd.M (Kd.int .i64) _ _ _ 13 [.int .i64 13]from rfl) (Reps.one (show Kd.M (Kd.int .i64) _ _ _ 24 [.int .i64 24]from rfl) (Reps.one (show Kd.M (Kd.int .i64) _ _ _ 2 [.int .i64 2]from rfl) (Reps.none _ _))))))))))));intro v342 w12 ho13 hb hg_ hnew_;clear hg_ hnew_;(first|rw[←Ny341.out]at ho13|(simp only[Int.reduceToNat]at ho13;rw[←Ny341.out]at ho13));have HO343:=ak (R_lower ho13 (keep_size (w:=w) (g:=g) (row:=none) (kn HK.out)));replace HK:=ak (KeepBut.trans (kn HK.out) (KeepBut.of_below hb g none) (.inl rfl));replace HB:=ak (below_step (h1 HB.out (IsS95.ge HI0.out)) hb);replace HI0:=ak (IsS95.below (g:=g) (IsS95.now HI0.out) hb);clear hb ho13;obtain⟨Ao14,co14,eo14⟩:=R_slice HO343.out;subst eo14)|(refine gs 10 Try.func82 #[.pointer (some ⟨g,0,none⟩),.slice Ao14 y341.length co14] ?_;(with_reducible refine(spec_l1Cur_among.calls g s0_0 t333 t334 _ _ y341 t344 t345 t346 w0 _ ?side1 ?side2 ?side3 ?side4 ?side5 A10.out).mono ?_);(case side1=>exact IsS95.now HI0.out);(case side2=>exact h1 HB.out (IsS95.ge HI0.out));(case side3=>exact cm (R_reads' HO343.out).2.2);(case side4=>exact(R_reads' HO343.out).2.1);(case side5=>exact far_slice (IsS95.own_ne HI0.out HO343.out (by decide)));rintro e w15 ⟨rfl,hi,hb,hk⟩;refine⟨_,rfl,?_⟩;replace HO343:=ak (R_mono (R_keep (IsS95.apart (show IsS95 w0 _ g s0_0 t333 t334 from(IsS95.now HI0.out)) (rm HO343.out) (by decide)) hk (fun _ h=>h.2)) (fun _ h=>h.1));replace HK:=ak (KeepBut.trans (kn HK.out) hk (.inl rfl));replace HB:=ak hb;replace HI0:=ak hi;(try clear hb);(try clear hk);(try clear hi)))
 go_ret
 exact⟨fe,(IsS95.now HI0.out),h1 HB.out (IsS95.ge HI0.out),(kn HK.out)⟩
def spec_l1Cur_line.f (s0_0:List Int) (s0_1:Int) (s0_2:Int):Option (Int × Bool × Int × Int):=(spec_l1Cur_size.f s0_0 s0_1 s0_2).bind fun bt348=>(some (bt348.1,false,bt348.2.1,bt348.2.2))
set_option maxHeartbeats 8000000 in
set_option maxRecDepth 100000 in
theorem spec_l1Cur_line.calls (g:Nat) (s0_0:List Int) (s0_1:Int) (s0_2:Int) (r1:Int) (r2:Bool) (r3:Int) (r4:Int) (w0 w:World) (hI:IsS95 w0 w g s0_0 s0_1 s0_2) (hB:Below w0.heap.size w0 w) (h:spec_l1Cur_line.f s0_0 s0_1 s0_2=some (r1,r2,r3,r4)):
  Calls Try.prog 91 #[.pointer (some ⟨g,0,none⟩)] w fun e w'=>e= .returned (.agg #[.int .i64 r1,.bool r2])∧IsS95 w0 w' g s0_0 r3 r4∧Below w0.heap.size w0 w'∧KeepBut w w' g none:=by
 have hu28:=Try.underlying28
 have HI0:=Aside0.mk hI
 have HK:=Aside0.mk (KeepBut.refl w g none)
 have HL:=Aside0.mk hB.size
 clear hI
 have HW0:=Aside0.mk hB.size
 have HB:=Aside0.mk hB
 clear hB
 unfold spec_l1Cur_line.f at h
 have H:=h
 clear h
 obtain⟨⟨t348,t349,t350⟩,A2,H⟩:=bd H;(try dsimp only at H)
 simp only[Option.some.injEq,Prod.mk.injEq]at H
 obtain⟨rfl,rfl,rfl,rfl⟩:=H
 go_enter Try.func91,Try.ntmps91
 go_wp2_with (first|(refine bx 2 #[.int .i64 0,.bool false] 28 ?_;intro gb347 hg w3 hbox hb;replace HB:=ak (below_step (h1 HB.out (IsS95.ge HI0.out)) hb);have BK347:=ak hbox;have GW347:=ak ((by rw[hg];exact(keep_size (w:=w) (g:=g) (row:=none) (kn HK.out)):w.heap.size≤gb347));have GE347:=ak ((Nat.le_trans HW0.out (by rw[hg];exact(keep_size (w:=w) (g:=g) (row:=none) (kn HK.out)):w.heap.size≤gb347):w0.heap.size≤gb347));replace HK:=ak (KeepBut.trans (kn HK.out) (KeepBut.of_below hb g none) (.inl rfl));have NB0_347:=ak ((by rw[hg];exact Nat.ne_of_lt (IsS95.lt (show IsS95 w0 _ g s0_0 s0_1 s0_2 from(IsS95.now HI0.out))):g≠gb347));have NB347_0:=ak ((by rw[hg];exact Nat.ne_of_gt (IsS95.lt (show IsS95 w0 _ g s0_0 s0_1 s0_2 from(IsS95.now HI0.out))):gb347≠g));replace HI0:=ak (IsS95.below (g:=g) (IsS95.now HI0.out) hb);clear hb hbox hg)|(refine gs 4 Try.func112 #[.pointer (some ⟨g,0,none⟩)] ?_;(with_reducible refine(spec_l1Cur_size.calls g s0_0 s0_1 s0_2 t348 t349 t350 w0 _ ?side1 ?side2 A2.out).mono ?_);(case side1=>exact IsS95.now HI0.out);(case side2=>exact h2 HB.out (IsS95.ge HI0.out) GE347.out);rintro e w4 ⟨rfl,hi,hb,hk⟩;refine⟨_,rfl,?_⟩;replace BK347:=kk BK347 hk NB347_0;replace HK:=ak (KeepBut.trans (kn HK.out) hk (.inl rfl));replace HB:=ak hb;replace HI0:=ak hi;(try clear hb);(try clear hk);(try clear hi);have hnb5:=NB347_0.out;have hnc5:=NB0_347.out;have hcz6_0:=bc BK347 0 rfl;have hcz6_1:=bc BK347 1 rfl;have hfz6_0:=bf BK347 0;have hfz6_1:=bf BK347 1))
 refine bodyPost_ret (results_cell_row rfl _ _ gb347 28 #[.int .i64 t348,.bool false] (0,0) _ rfl (by(with_reducible repeat(first|apply blk_drewN|apply blk_drew|apply blk_alloc));refine blk_put (cs:=#[.int .i64 t348,.bool false]) ?_ 1 _ rfl;(with_reducible repeat(first|apply blk_drewN|apply blk_drew|apply blk_alloc));refine blk_put (cs:=#[.int .i64 0,.bool false]) ?_ 0 _ rfl;exact bm BK347.out) Try.underlying28 rfl (by kernel_rfl)) rfl ?_
 exact⟨fe,(IsS95.now HI0.out),h2 HB.out (IsS95.ge HI0.out) GE347.out,(kn HK.out)⟩
mutual
def spec_l1Cur_carriers7.l0:Nat→List (S63)→Int→List Int→Int→Int→Int→Bool→Option ((List (S63))× Int × Int)
 | 0,_,_,_,_,_,_,_=>none
 | k+1,x5,x6,x1000,x1001,x1002,x352000,x352001=>if x6>0 then((spec_l1Least.f x352000 24).bind fun t361=>((spec_l1Most.f 1 t361).bind fun t362=>((spec_l1Cur_pick.f x1000 x1001 x1002 t362).bind fun bt363=>((spec_l1Cur_among.f x1000 bt363.2.1 bt363.2.2 (([3,5,2,8,0,12]:List Int))).bind fun bt369=>((spec_l1Cur_among.f x1000 bt369.2.1 bt369.2.2 (([1,2,0,3,20]:List Int))).bind fun bt375=>(if x5.length<5864062014805 then(spec_l1Cur_carriers7.l0 k (x5++[(⟨bt363.1,bt369.1,bt375.1⟩:S63)]) (wrap64 (x6-1)) x1000 bt375.2.1 bt375.2.2 x352000 x352001)else(none)))))))else((spec_l1Cur_pick.f x1000 x1001 x1002 30).bind fun bt381=>(if bt381.1=0 then((spec_l1Cur_among.f x1000 bt381.2.1 bt381.2.2 (([(-1),x352000,0]:List Int))).bind fun bt387=>((spec_l1Cur_among.f x1000 bt387.2.1 bt387.2.2 (([48,49,(-1)]:List Int))).bind fun bt393=>(if x5.length<5864062014805 then(some ((x5++[(⟨bt387.1,bt393.1,0⟩:S63)]),bt393.2.1,bt393.2.2))else(none))))else(if bt381.1=1 then(spec_l1Cur_carriers7.l1 k x5 x1000 bt381.2.1 bt381.2.2)else(some (x5,bt381.2.1,bt381.2.2)))))
def spec_l1Cur_carriers7.l1:Nat→List (S63)→List Int→Int→Int→Option ((List (S63))× Int × Int)
 | 0,_,_,_,_=>none
 | k+1,x5,x1000,x1001,x1002=>if(x5.length:Int)<7 then(if x5.length<5864062014805 then(spec_l1Cur_carriers7.l1 k (x5++[(⟨0,0,0⟩:S63)]) x1000 x1001 x1002)else(none))else(some (x5,x1001,x1002))
end
def spec_l1Cur_carriers7.f (k:Nat) (s0_0:List Int) (s0_1:Int) (s0_2:Int) (a1_0:Int) (a1_1:Bool):Option ((List (S63))× Int × Int):=(spec_l1Cur_among.f s0_0 s0_1 s0_2 (([3,2,4,1,0,5]:List Int))).bind fun bt358=>(spec_l1Cur_carriers7.l0 k (([]:List (S63))) bt358.1 s0_0 bt358.2.1 bt358.2.2 a1_0 a1_1)
theorem spec_l1Cur_carriers7.mono_l:∀ k,(∀ y0 y1 y2 y3 y4 y5 y6,LeO (spec_l1Cur_carriers7.l0 k y0 y1 y2 y3 y4 y5 y6) (spec_l1Cur_carriers7.l0 (k+1) y0 y1 y2 y3 y4 y5 y6))∧(∀ y0 y1 y2 y3,LeO (spec_l1Cur_carriers7.l1 k y0 y1 y2 y3) (spec_l1Cur_carriers7.l1 (k+1) y0 y1 y2 y3))
 | 0=>by
  refine⟨?_,?_⟩<;>(intros;intro r h;simp[spec_l1Cur_carriers7.l0,spec_l1Cur_carriers7.l1]at h)
 | k+1=>by
  obtain⟨ih0,ih1⟩:=spec_l1Cur_carriers7.mono_l k
  refine⟨?_,?_⟩<;>intros<;>(first|unfold spec_l1Cur_carriers7.l0|unfold spec_l1Cur_carriers7.l1)<;>(repeat' (with_reducible first|exact ih0 ..|exact ih1 ..|exact LeO.refl _|exact LeO.none _|refine LeO.ite ?_ ?_|refine LeO.bind ?_ (fun _=>?_)))
theorem spec_l1Cur_carriers7.mono:∀ a0 a1 a2 a3 a4 k,LeO (spec_l1Cur_carriers7.f k a0 a1 a2 a3 a4) (spec_l1Cur_carriers7.f (k+1) a0 a1 a2 a3 a4):=by
 intro a0 a1 a2 a3 a4 k
 obtain⟨ih0,ih1⟩:=spec_l1Cur_carriers7.mono_l k
 unfold spec_l1Cur_carriers7.f
 repeat' (with_reducible first|exact ih0 ..|exact ih1 ..|exact LeO.refl _|exact LeO.none _|refine LeO.ite ?_ ?_|refine LeO.bind ?_ (fun _=>?_))
set_option maxHeartbeats 8000000 in
set_option maxRecDepth 100000 in
theorem spec_l1Cur_carriers7.calls (k:Nat) (g:Nat) (s0_0:List Int) (s0_1:Int) (s0_2:Int) (a1_0:Int) (a1_1:Bool) (r1:List (S63)) (r2:Int) (r3:Int) (w0 w:World) (hI:IsS95 w0 w g s0_0 s0_1 s0_2) (hB:Below w0.heap.size w0 w) (h:spec_l1Cur_carriers7.f k s0_0 s0_1 s0_2 a1_0 a1_1=some (r1,r2,r3)):
  Calls Try.prog 92 #[.pointer (some ⟨g,0,none⟩),.agg #[.int .i64 a1_0,.bool a1_1]] w fun e w'=>∃ v0_:Value,e= .returned (v0_)∧Kd.R k63 63 w' w.heap.size (fun _=>True) v0_ r1∧IsS95 w0 w' g s0_0 r2 r3∧Below w0.heap.size w0 w'∧KeepBut w w' g none:=by
 have hu28:=Try.underlying28
 have hu63:=Try.underlying63
 have HI0:=Aside0.mk hI
 have HK:=Aside0.mk (KeepBut.refl w g none)
 have HL:=Aside0.mk hB.size
 clear hI
 have HW0:=Aside0.mk hB.size
 have HB:=Aside0.mk hB
 clear hB
 unfold spec_l1Cur_carriers7.f at h
 have H:=h
 clear h
 generalize hy352: ([]:List (S63))=y352 at H
 have Ny352:=ak hy352.symm
 clear hy352
 generalize hy355: ([3,2,4,1,0,5]:List Int)=y355 at H
 have Ny355:=ak hy355.symm
 clear hy355
 obtain⟨⟨t358,t359,t360⟩,A3,H⟩:=bd H;(try dsimp only at H)
 have H':=Aside0.mk H
 clear H
 go_enter Try.func92,Try.ntmps92
 go_wp2_with (first|(refine bx 3 #[.int .i64 a1_0,.bool a1_1] 28 ?_;intro gb351 hg w4 hbox hb;replace HB:=ak (below_step (h1 HB.out (IsS95.ge HI0.out)) hb);have BK351:=ak hbox;have GW351:=ak ((by rw[hg];exact(keep_size (w:=w) (g:=g) (row:=none) (kn HK.out)):w.heap.size≤gb351));have GE351:=ak ((Nat.le_trans HW0.out (by rw[hg];exact(keep_size (w:=w) (g:=g) (row:=none) (kn HK.out)):w.heap.size≤gb351):w0.heap.size≤gb351));replace HK:=ak (KeepBut.trans (kn HK.out) (KeepBut.of_below hb g none) (.inl rfl));have NB0_351:=ak ((by rw[hg];exact Nat.ne_of_lt (IsS95.lt (show IsS95 w0 _ g s0_0 s0_1 s0_2 from(IsS95.now HI0.out))):g≠gb351));have NB351_0:=ak ((by rw[hg];exact Nat.ne_of_gt (IsS95.lt (show IsS95 w0 _ g s0_0 s0_1 s0_2 from(IsS95.now HI0.out))):gb351≠g));replace HI0:=ak (IsS95.below (g:=g) (IsS95.now HI0.out) hb);clear hb hbox hg)|((with_reducible refine gate_dst (N:=7) rfl ?_);refine R_lit k63 _ 63 ?hg (N:=7) ?hd (xs:=([]:List (S63))) (inner:=[]) (ok:=fun _=>True) (okp:=fun _=>True) ?hr ?hp (fun _ hk=>hk) trivial (Below.refl _ _) (Nat.le_refl _) (by simp) ?_;(case hd=>rfl);(case hg=>rfl);(case hr=>first|(go_simp;done)|(go_simp;rfl));(case hp=>exact(Reps.none _ _));intro v353 w5 ho6 hb hg_ hnew_;clear hg_ hnew_;(first|rw[←Ny352.out]at ho6|(simp only[Int.reduceToNat]at ho6;rw[←Ny352.out]at ho6));have HO354:=ak (R_lower ho6 (keep_size (w:=w) (g:=g) (row:=none) (kn HK.out)));replace BK351:=kb BK351 hb;replace HK:=ak (KeepBut.trans (kn HK.out) (KeepBut.of_below hb g none) (.inl rfl));replace HB:=ak (below_step (h2 HB.out (IsS95.ge HI0.out) GE351.out) hb);replace HI0:=ak (IsS95.below (g:=g) (IsS95.now HI0.out) hb);clear hb ho6)|((with_reducible refine gate_dst (N:=9) rfl ?_);refine R_lit (Kd.int .i64) _ 3 ?hg (N:=9) ?hd (xs:=([3,2,4,1,0,5]:List Int)) (inner:=[.int .i64 3,.int .i64 2,.int .i64 4,.int .i64 1,.int .i64 0,.int .i64 5]) (ok:=fun _=>True) (okp:=fun _=>True) ?hr ?hp (fun _ hk=>hk) trivial (Below.refl _ _) (Nat.le_refl _) (by simp) ?_;(case hd=>rfl);(case hg=>rfl);(case hr=>first|(go_simp;done)|(go_simp;rfl));(case hp=>exact(Reps.one (show Kd.M (Kd.int .i64) _ _ _ 3 [.int .i64 3]from rfl) (Reps.one (show Kd.M (Kd.int .i64) _ _ _ 2 [.int .i64 2]from rfl) (Reps.one (show Kd.M (Kd.int .i64) _ _ _ 4 [.int .i64 4]from rfl) (Reps.one (show Kd.M (Kd.int .i64) _ _ _ 1 [.int .i64 1]from rfl) (Reps.one (show Kd.M (Kd.int .i64) _ _ _ 0 [.int .i64 0]from rfl) (Reps.one (show Kd.M (Kd.int .i64) _ _ _ 5 [.int .i64 5]from rfl) (Reps.none _ _))))))));intro v356 w7 ho8 hb hg_ hnew_;clear hg_ hnew_;(first|rw[←Ny355.out]at ho8|(simp only[Int.reduceToNat]at ho8;rw[←Ny355.out]at ho8));replace HO354:=rb HO354 hb;have HO357:=ak (R_lower ho8 (keep_size (w:=w) (g:=g) (row:=none) (kn HK.out)));replace BK351:=kb BK351 hb;replace HK:=ak (KeepBut.trans (kn HK.out) (KeepBut.of_below hb g none) (.inl rfl));replace HB:=ak (below_step (h2 HB.out (IsS95.ge HI0.out) GE351.out) hb);replace HI0:=ak (IsS95.below (g:=g) (IsS95.now HI0.out) hb);clear hb ho8;obtain⟨Ao9,co9,eo9⟩:=R_slice HO357.out;subst eo9)|(refine gs 10 Try.func82 #[.pointer (some ⟨g,0,none⟩),.slice Ao9 y355.length co9] ?_;(with_reducible refine(spec_l1Cur_among.calls g s0_0 s0_1 s0_2 _ _ y355 t358 t359 t360 w0 _ ?side1 ?side2 ?side3 ?side4 ?side5 A3.out).mono ?_);(case side1=>exact IsS95.now HI0.out);(case side2=>exact h2 HB.out (IsS95.ge HI0.out) GE351.out);(case side3=>exact cm (R_reads' HO357.out).2.2);(case side4=>exact(R_reads' HO357.out).2.1);(case side5=>exact far_slice (IsS95.own_ne HI0.out HO357.out (by decide)));rintro e w10 ⟨rfl,hi,hb,hk⟩;refine⟨_,rfl,?_⟩;replace BK351:=kk BK351 hk NB351_0;replace HO354:=ak (R_mono (R_keep (IsS95.apart (show IsS95 w0 _ g s0_0 s0_1 s0_2 from(IsS95.now HI0.out)) (rm HO354.out) (by decide)) hk (fun _ h=>h.2)) (fun _ h=>h.1));replace HO357:=ak (R_mono (R_keep (IsS95.apart (show IsS95 w0 _ g s0_0 s0_1 s0_2 from(IsS95.now HI0.out)) (rm HO357.out) (by decide)) hk (fun _ h=>h.2)) (fun _ h=>h.1));replace HK:=ak (KeepBut.trans (kn HK.out) hk (.inl rfl));replace HB:=ak hb;replace HI0:=ak hi;(try clear hb);(try clear hk);(try clear hi)))
 go_loopg [5,6] k (fun kq v5 v6 w'=>∃ (x5_1:List (S63)) (x6_1:Int) (x1001_1:Int) (x1002_1:Int),v6= .int .i64 x6_1∧Aside0 (spec_l1Cur_carriers7.l0 kq x5_1 x6_1 s0_0 x1001_1 x1002_1 a1_0 a1_1=some (r1,r2,r3))∧Aside0 (kq≤k)∧Aside0 (Kd.R k63 63 w' w.heap.size (fun _=>True) v5 x5_1)∧Aside0 (w'.heap[gb351]? =some (.cells #[.int .i64 a1_0,.bool a1_1] 28 (0,0)))∧Aside0 (IsS95 w0 w' g s0_0 x1001_1 x1002_1)∧Aside0 (KeepBut w w' g none)∧Aside0 (Below w0.heap.size w0 w'))
 case atStart=>exact⟨(y352),(t358),(t359),(t360),fd,H',⟨Nat.le_refl _⟩,⟨rm HO354.out⟩,⟨bm BK351.out⟩,⟨(IsS95.now HI0.out)⟩,⟨(kn HK.out)⟩,⟨h2 HB.out (IsS95.ge HI0.out) GE351.out⟩⟩
 clear H'
 try clear p2
 try clear c8
 try clear c9
 obtain⟨x5_1,x6_1,x1001_1,x1002_1,rfl,HA,HK1,HO_5,BK351,HI0,HK,HB⟩:=hrel
 obtain _|k1:=gk;·cases HA.out
 obtain⟨H⟩:=HA
 simp only[spec_l1Cur_carriers7.l0]at H
 by_cases c11:x6_1>0
 ·rw[if_pos c11]at H
  have c11b0:decide (0<x6_1)=true:=decide_eq_true c11
  clear c11
  obtain⟨t361,A12,H⟩:=bd H;(try dsimp only at H)
  obtain⟨t362,A13,H⟩:=bd H;(try dsimp only at H)
  obtain⟨⟨t363,t364,t365⟩,A14,H⟩:=bd H;(try dsimp only at H)
  generalize hy366: ([3,5,2,8,0,12]:List Int)=y366 at H
  have Ny366:=ak hy366.symm
  clear hy366
  obtain⟨⟨t369,t370,t371⟩,A15,H⟩:=bd H;(try dsimp only at H)
  generalize hy372: ([1,2,0,3,20]:List Int)=y372 at H
  have Ny372:=ak hy372.symm
  clear hy372
  obtain⟨⟨t375,t376,t377⟩,A16,H⟩:=bd H;(try dsimp only at H)
  obtain⟨c17,H⟩:=gi H
  have LMc17:=Aside0.mk c17
  clear c17
  generalize hy378: (x5_1++[(⟨t363,t369,t375⟩:S63)]:List (S63))=y378 at H
  have Ny378:=ak hy378.symm
  clear hy378
  have H':=Aside0.mk H
  clear H
  have hnb18:=NB351_0.out
  have hnc18:=NB0_351.out
  have hcz19_0:=bc BK351 0 rfl
  have hcz19_1:=bc BK351 1 rfl
  have hfz19_0:=bf BK351 0
  have hfz19_1:=bf BK351 1
  go_wp2_with (first|(refine gs 19 Try.func108 #[.int .i64 a1_0,.int .i64 24] ?_;(with_reducible refine(spec_l1Least.calls a1_0 24 t361 _ A12.out).mono ?_);rintro e w' ⟨rfl,⟨nd,rfl⟩⟩;refine⟨_,rfl,?_⟩)|(refine gs 20 Try.func101 #[.int .i64 1,.int .i64 t361] ?_;(with_reducible refine(spec_l1Most.calls 1 t361 t362 _ A13.out).mono ?_);rintro e w' ⟨rfl,⟨nd,rfl⟩⟩;refine⟨_,rfl,?_⟩)|(refine gs 21 Try.func79 #[.pointer (some ⟨g,0,none⟩),.int .i64 t362] ?_;(with_reducible refine(spec_l1Cur_pick.calls g s0_0 x1001_1 x1002_1 t362 t363 t364 t365 w0 _ ?side1 ?side2 A14.out).mono ?_);(case side1=>exact IsS95.now HI0.out);(case side2=>exact h2 HB.out (IsS95.ge HI0.out) GE351.out);rintro e w20 ⟨rfl,hi,hb,hk⟩;refine⟨_,rfl,?_⟩;replace HO_5:=ak (R_mono (R_keep (IsS95.apart (show IsS95 w0 _ g s0_0 x1001_1 x1002_1 from(IsS95.now HI0.out)) (rm HO_5.out) (by decide)) hk (fun _ h=>h.2)) (fun _ h=>h.1));replace BK351:=kk BK351 hk NB351_0;replace HK:=ak (KeepBut.trans (kn HK.out) hk (.inl rfl));replace HB:=ak hb;replace HI0:=ak hi;(try clear hb);(try clear hk);(try clear hi))|((with_reducible refine gate_dst (N:=23) rfl ?_);refine R_lit (Kd.int .i64) _ 3 ?hg (N:=23) ?hd (xs:=([3,5,2,8,0,12]:List Int)) (inner:=[.int .i64 3,.int .i64 5,.int .i64 2,.int .i64 8,.int .i64 0,.int .i64 12]) (ok:=fun _=>True) (okp:=fun _=>True) ?hr ?hp (fun _ hk=>hk) trivial (Below.refl _ _) (Nat.le_refl _) (by simp) ?_;(case hd=>rfl);(case hg=>rfl);(case hr=>first|(go_simp;done)|(go_simp;rfl));(case hp=>exact(Reps.one (show Kd.M (Kd.int .i64) _ _ _ 3 [.int .i64 3]from rfl) (Reps.one (show Kd.M (Kd.int .i64) _ _ _ 5 [.int .i64 5]from rfl) (Reps.one (show Kd.M (Kd.int .i64) _ _ _ 2 [.int .i64 2]from rfl) (Reps.one (show Kd.M (Kd.int .i64) _ _ _ 8 [.int .i64 8]from rfl) (Reps.one (show Kd.M (Kd.int .i64) _ _ _ 0 [.int .i64 0]from rfl) (Reps.one (show Kd.M (Kd.int .i64) _ _ _ 12 [.int .i64 12]from rfl) (Reps.none _ _))))))));intro v367 w21 ho22 hb hg_ hnew_;clear hg_ hnew_;(first|rw[←Ny366.out]at ho22|(simp only[Int.reduceToNat]at ho22;rw[←Ny366.out]at ho22));replace HO_5:=rb HO_5 hb;have HO368:=ak (R_lower ho22 (keep_size (w:=w) (g:=g) (row:=none) (kn HK.out)));replace BK351:=kb BK351 hb;replace HK:=ak (KeepBut.trans (kn HK.out) (KeepBut.of_below hb g none) (.inl rfl));replace HB:=ak (below_step (h2 HB.out (IsS95.ge HI0.out) GE351.out) hb);replace HI0:=ak (IsS95.below (g:=g) (IsS95.now HI0.out) hb);clear hb ho22;obtain⟨Ao23,co23,eo23⟩:=R_slice HO368.out;subst eo23)|(refine gs 24 Try.func82 #[.pointer (some ⟨g,0,none⟩),.slice Ao23 y366.length co23] ?_;(with_reducible refine(spec_l1Cur_among.calls g s0_0 t364 t365 _ _ y366 t369 t370 t371 w0 _ ?side1 ?side2 ?side3 ?side4 ?side5 A15.out).mono ?_);(case side1=>exact IsS95.now HI0.out);(case side2=>exact h2 HB.out (IsS95.ge HI0.out) GE351.out);(case side3=>exact cm (R_reads' HO368.out).2.2);(case side4=>exact(R_reads' HO368.out).2.1);(case side5=>exact far_slice (IsS95.own_ne HI0.out HO368.out (by decide)));rintro e w24 ⟨rfl,hi,hb,hk⟩;refine⟨_,rfl,?_⟩;replace HO_5:=ak (R_mono (R_keep (IsS95.apart (show IsS95 w0 _ g s0_0 t364 t365 from(IsS95.now HI0.out)) (rm HO_5.out) (by decide)) hk (fun _ h=>h.2)) (fun _ h=>h.1));replace BK351:=kk BK351 hk NB351_0;replace HO368:=ak (R_mono (R_keep (IsS95.apart (show IsS95 w0 _ g s0_0 t364 t365 from(IsS95.now HI0.out)) (rm HO368.out) (by decide)) hk (fun _ h=>h.2)) (fun _ h=>h.1));replace HK:=ak (KeepBut.trans (kn HK.out) hk (.inl rfl));replace HB:=ak hb;replace HI0:=ak hi;(try clear hb);(try clear hk);(try clear hi))|((with_reducible refine gate_dst (N:=26) rfl ?_);refine R_lit (Kd.int .i64) _ 3 ?hg (N:=26) ?hd (xs:=([1,2,0,3,20]:List Int)) (inner:=[.int .i64 1,.int .i64 2,.int .i64 0,.int .i64 3,.int .i64 20]) (ok:=fun _=>True) (okp:=fun _=>True) ?hr ?hp (fun _ hk=>hk) trivial (Below.refl _ _) (Nat.le_refl _) (by simp) ?_;(case hd=>rfl);(case hg=>rfl);(case hr=>first|(go_simp;done)|(go_simp;rfl));(case hp=>exact(Reps.one (show Kd.M (Kd.int .i64) _ _ _ 1 [.int .i64 1]from rfl) (Reps.one (show Kd.M (Kd.int .i64) _ _ _ 2 [.int .i64 2]from rfl) (Reps.one (show Kd.M (Kd.int .i64) _ _ _ 0 [.int .i64 0]from rfl) (Reps.one (show Kd.M (Kd.int .i64) _ _ _ 3 [.int .i64 3]from rfl) (Reps.one (show Kd.M (Kd.int .i64) _ _ _ 20 [.int .i64 20]from rfl) (Reps.none _ _)))))));intro v373 w25 ho26 hb hg_ hnew_;clear hg_ hnew_;(first|rw[←Ny372.out]at ho26|(simp only[Int.reduceToNat]at ho26;rw[←Ny372.out]at ho26));replace HO_5:=rb HO_5 hb;have HO374:=ak (R_lower (R_new' ho26 (R_lt (rm HO368.out))) (keep_size (w:=w) (g:=g) (row:=none) (kn HK.out)));replace HO368:=ak (R_elder' (rm HO368.out) (R_base ho26) hb);replace BK351:=kb BK351 hb;replace HK:=ak (KeepBut.trans (kn HK.out) (KeepBut.of_below hb g none) (.inl rfl));replace HB:=ak (below_step (h2 HB.out (IsS95.ge HI0.out) GE351.out) hb);replace HI0:=ak (IsS95.below (g:=g) (IsS95.now HI0.out) hb);clear hb ho26;obtain⟨Ao27,co27,eo27⟩:=R_slice HO374.out;subst eo27)|(refine gs 27 Try.func82 #[.pointer (some ⟨g,0,none⟩),.slice Ao27 y372.length co27] ?_;(with_reducible refine(spec_l1Cur_among.calls g s0_0 t370 t371 _ _ y372 t375 t376 t377 w0 _ ?side1 ?side2 ?side3 ?side4 ?side5 A16.out).mono ?_);(case side1=>exact IsS95.now HI0.out);(case side2=>exact h2 HB.out (IsS95.ge HI0.out) GE351.out);(case side3=>exact cm (R_reads' HO374.out).2.2);(case side4=>exact(R_reads' HO374.out).2.1);(case side5=>exact far_slice (IsS95.own_ne HI0.out HO374.out (by decide)));rintro e w28 ⟨rfl,hi,hb,hk⟩;refine⟨_,rfl,?_⟩;replace HO_5:=ak (R_mono (R_keep (IsS95.apart (show IsS95 w0 _ g s0_0 t370 t371 from(IsS95.now HI0.out)) (rm HO_5.out) (by decide)) hk (fun _ h=>h.2)) (fun _ h=>h.1));replace BK351:=kk BK351 hk NB351_0;replace HO368:=ak (R_mono (R_keep (IsS95.apart (show IsS95 w0 _ g s0_0 t370 t371 from(IsS95.now HI0.out)) (rm HO368.out) (by decide)) hk (fun _ h=>h.2)) (fun _ h=>h.1));replace HO374:=ak (R_mono (R_keep (IsS95.apart (show IsS95 w0 _ g s0_0 t370 t371 from(IsS95.now HI0.out)) (rm HO374.out) (by decide)) hk (fun _ h=>h.2)) (fun _ h=>h.1));replace HK:=ak (KeepBut.trans (kn HK.out) hk (.inl rfl));replace HB:=ak hb;replace HI0:=ak hi;(try clear hb);(try clear hk);(try clear hi))|((with_reducible refine gate_builtin (b:=.append) (xs:=#[.tmp 15,.tmp 29]) rfl ?_);at_builtin;refine R_append k63 w.heap.size rfl (.tmp 15) (.tmp 29) 30 63 (.agg #[(.int .i64 0),(.int .i64 0),(.int .i64 0)]) 24 rfl Try.underlying30 info63 rfl (by decide) (by omega) u5 x5_1 (⟨t363,t369,t375⟩:S63) [.int .i64 t363,.int .i64 t369,.int .i64 t375] (fun _=>True) (fun _=>False) rfl rfl ?aP (fun _ hk=>hk.elim) ?aF ?aO (Below.refl _ _) ?aS ?aL ?_;(case aP=>exact k63_mkM _ _ _ (⟨t363,t369,t375⟩:S63));(case aF=>exact(fun _ _=>trivial));(case aO=>exact(rm HO_5.out));(case aS=>exact(keep_size (w:=w) (g:=g) (row:=none) (kn HK.out)));(case aL=>have:=LMc17.out;omega);intro v379 w29 ho hb hg hat;rw[←Ny378.out]at ho;replace BK351:=ak (blk_grown (g:=gb351) (o:=.cells #[.int .i64 a1_0,.bool a1_1] 28 (0,0)) (bm BK351.out) hg (R_ne HO_5.out BK351.out (by decide)));replace HO368:=ak (R_over' (rm HO368.out) (R_typed (rm HO_5.out)) (by decide) hg);replace HO374:=ak (R_over' (rm HO374.out) (R_typed (rm HO_5.out)) (by decide) hg);replace HB:=ak (below_weaken (h2 HB.out (IsS95.ge HI0.out) GE351.out) HL.out hb);replace HI0:=ak (IsS95.grown (show IsS95 w0 _ g s0_0 t376 t377 from(IsS95.now HI0.out)) hg (IsS95.own_ne HI0.out HO_5.out (by decide)));replace HK:=ak (KeepBut.trans (kn HK.out) (KeepBut.of_grown hg g) (R_base2 HO_5.out));have HO380:=ak ho;clear HO_5;clear ho hb hg hat))
  go_roundg k1
  case measure=>have:=HK1.out;omega
  case rel=>exact⟨(y378),(wrap64 (x6_1-1)),(t376),(t377),fd,H',⟨by have:=HK1.out;omega⟩,⟨rm HO380.out⟩,⟨bm BK351.out⟩,⟨(IsS95.now HI0.out)⟩,⟨(kn HK.out)⟩,⟨h2 HB.out (IsS95.ge HI0.out) GE351.out⟩⟩
 rw[if_neg c11]at H
 have c11b0:decide (0<x6_1)=false:=decide_eq_false c11
 clear c11
 obtain⟨⟨t381,t382,t383⟩,A30,H⟩:=bd H;(try dsimp only at H)
 by_cases c31:t381=0
 rotate_left
 ·rw[if_neg c31]at H
  have c31b0: (t381==0)=false:=beq_eq_false_iff_ne.mpr c31
  have c31b1: (t381 !=0)=true:=bne_iff_ne.mpr c31
  by_cases c47:t381=1
  rotate_left
  ·rw[if_neg c47]at H
   have c47b0: (t381==1)=false:=beq_eq_false_iff_ne.mpr c47
   have c47b1: (t381 !=1)=true:=bne_iff_ne.mpr c47
   simp only[Option.some.injEq,Prod.mk.injEq]at H
   obtain⟨rfl,rfl,rfl⟩:=H
   go_wp2_with (first|(refine gs 32 Try.func79 #[.pointer (some ⟨g,0,none⟩),.int .i64 30] ?_;(with_reducible refine(spec_l1Cur_pick.calls g s0_0 x1001_1 x1002_1 30 t381 t382 t383 w0 _ ?side1 ?side2 A30.out).mono ?_);(case side1=>exact IsS95.now HI0.out);(case side2=>exact h2 HB.out (IsS95.ge HI0.out) GE351.out);rintro e w54 ⟨rfl,hi,hb,hk⟩;refine⟨_,rfl,?_⟩;replace HO_5:=ak (R_mono (R_keep (IsS95.apart (show IsS95 w0 _ g s0_0 x1001_1 x1002_1 from(IsS95.now HI0.out)) (rm HO_5.out) (by decide)) hk (fun _ h=>h.2)) (fun _ h=>h.1));replace BK351:=kk BK351 hk NB351_0;replace HK:=ak (KeepBut.trans (kn HK.out) hk (.inl rfl));replace HB:=ak hb;replace HI0:=ak hi;(try clear hb);(try clear hk);(try clear hi)))
   go_ret
   exact⟨_,fe,rm HO_5.out,(IsS95.now HI0.out),h2 HB.out (IsS95.ge HI0.out) GE351.out,(kn HK.out)⟩
  rw[if_pos c47]at H
  have c47b0: (t381==1)=true:=beq_iff_eq.mpr c47
  have c47b1: (t381 !=1)=false:=bne_eq_false_iff_eq.mpr c47
  clear c47
  have H':=Aside0.mk H
  clear H
  go_wp2_with (first|(refine gs 32 Try.func79 #[.pointer (some ⟨g,0,none⟩),.int .i64 30] ?_;(with_reducible refine(spec_l1Cur_pick.calls g s0_0 x1001_1 x1002_1 30 t381 t382 t383 w0 _ ?side1 ?side2 A30.out).mono ?_);(case side1=>exact IsS95.now HI0.out);(case side2=>exact h2 HB.out (IsS95.ge HI0.out) GE351.out);rintro e w48 ⟨rfl,hi,hb,hk⟩;refine⟨_,rfl,?_⟩;replace HO_5:=ak (R_mono (R_keep (IsS95.apart (show IsS95 w0 _ g s0_0 x1001_1 x1002_1 from(IsS95.now HI0.out)) (rm HO_5.out) (by decide)) hk (fun _ h=>h.2)) (fun _ h=>h.1));replace BK351:=kk BK351 hk NB351_0;replace HK:=ak (KeepBut.trans (kn HK.out) hk (.inl rfl));replace HB:=ak hb;replace HI0:=ak hi;(try clear hb);(try clear hk);(try clear hi)))
  go_loopg [5] k1 (fun kq v5 w'=>∃ (x5_2:List (S63)),Aside0 (spec_l1Cur_carriers7.l1 kq x5_2 s0_0 t382 t383=some (r1,r2,r3))∧Aside0 (kq≤k1)∧Aside0 (Kd.R k63 63 w' w.heap.size (fun _=>True) v5 x5_2)∧Aside0 (w'.heap[gb351]? =some (.cells #[.int .i64 a1_0,.bool a1_1] 28 (0,0)))∧Aside0 (IsS95 w0 w' g s0_0 t382 t383)∧Aside0 (KeepBut w w' g none)∧Aside0 (Below w0.heap.size w0 w'))
  case atStart=>exact⟨(x5_1),H',⟨Nat.le_refl _⟩,⟨rm HO_5.out⟩,⟨bm BK351.out⟩,⟨(IsS95.now HI0.out)⟩,⟨(kn HK.out)⟩,⟨h2 HB.out (IsS95.ge HI0.out) GE351.out⟩⟩
  clear H'
  try clear c1
  try clear p2
  try clear c3
  try clear c4
  try clear p6
  try clear c7
  try clear c8
  try clear c9
  try clear c10
  try clear c11
  try clear c11b0
  try clear c17
  try clear c18
  try clear c31
  try clear c31b0
  try clear c31b1
  try clear c34
  try clear c36
  try clear c47
  try clear c47b0
  try clear c47b1
  try clear hcz19_0
  try clear hcz19_1
  try clear hcz37_0
  try clear hcz37_1
  try clear hfz19_0
  try clear hfz19_1
  try clear hfz37_0
  try clear hfz37_1
  try clear p2
  obtain⟨x5_2,HA,HK2,HO_5,BK351,HI0,HK,HB⟩:=hrel
  obtain _|k2:=gk;·cases HA.out
  obtain⟨H⟩:=HA
  simp only[spec_l1Cur_carriers7.l1]at H
  by_cases c49: (x5_2.length:Int)<7
  rotate_left
  ·rw[if_neg c49]at H
   have c49b0:decide ((x5_2.length:Int)<7)=false:=decide_eq_false c49
   have c49b1:decide (x5_2.length<7)=false:=decide_eq_false (by omega)
   clear c49
   simp only[Option.some.injEq,Prod.mk.injEq]at H
   obtain⟨rfl,rfl,rfl⟩:=H
   obtain⟨Ao53,co53,eo53⟩:=R_slice HO_5.out
   subst eo53
   go_wp2
   go_ret
   exact⟨_,fe,rm HO_5.out,(IsS95.now HI0.out),h2 HB.out (IsS95.ge HI0.out) GE351.out,(kn HK.out)⟩
  rw[if_pos c49]at H
  have c49b0:decide ((x5_2.length:Int)<7)=true:=decide_eq_true c49
  have c49b1:decide (x5_2.length<7)=true:=decide_eq_true (by omega)
  clear c49
  obtain⟨c50,H⟩:=gi H
  have LMc50:=Aside0.mk c50
  clear c50
  generalize hy399: (x5_2++[(⟨0,0,0⟩:S63)]:List (S63))=y399 at H
  have Ny399:=ak hy399.symm
  clear hy399
  have H':=Aside0.mk H
  clear H
  obtain⟨Ao51,co51,eo51⟩:=R_slice HO_5.out
  subst eo51
  go_wp2_with (first|((with_reducible refine gate_builtin (b:=.append) (xs:=#[.tmp 52,.tmp 54]) rfl ?_);at_builtin;refine R_append k63 w.heap.size rfl (.tmp 52) (.tmp 54) 30 63 (.agg #[(.int .i64 0),(.int .i64 0),(.int .i64 0)]) 24 rfl Try.underlying30 info63 rfl (by decide) (by omega) (.slice Ao51 x5_2.length co51) x5_2 (⟨0,0,0⟩:S63) [.int .i64 0,.int .i64 0,.int .i64 0] (fun _=>True) (fun _=>False) rfl rfl ?aP (fun _ hk=>hk.elim) ?aF ?aO (Below.refl _ _) ?aS ?aL ?_;(case aP=>exact k63_mkM _ _ _ (⟨0,0,0⟩:S63));(case aF=>exact(fun _ _=>trivial));(case aO=>exact(rm HO_5.out));(case aS=>exact(keep_size (w:=w) (g:=g) (row:=none) (kn HK.out)));(case aL=>have:=LMc50.out;omega);intro v400 w52 ho hb hg hat;rw[←Ny399.out]at ho;replace BK351:=ak (blk_grown (g:=gb351) (o:=.cells #[.int .i64 a1_0,.bool a1_1] 28 (0,0)) (bm BK351.out) hg (R_ne HO_5.out BK351.out (by decide)));replace HB:=ak (below_weaken (h2 HB.out (IsS95.ge HI0.out) GE351.out) HL.out hb);replace HI0:=ak (IsS95.grown (show IsS95 w0 _ g s0_0 t382 t383 from(IsS95.now HI0.out)) hg (IsS95.own_ne HI0.out HO_5.out (by decide)));replace HK:=ak (KeepBut.trans (kn HK.out) (KeepBut.of_grown hg g) (R_base2 HO_5.out));have HO401:=ak ho;clear HO_5;clear ho hb hg hat))
  go_roundg k2
  case measure=>have:=HK1.out;have:=HK2.out;omega
  case rel=>exact⟨(y399),H',⟨by have:=HK1.out;have:=HK2.out;omega⟩,⟨rm HO401.out⟩,⟨bm BK351.out⟩,⟨(IsS95.now HI0.out)⟩,⟨(kn HK.out)⟩,⟨h2 HB.out (IsS95.ge HI0.out) GE351.out⟩⟩
 rw[if_pos c31]at H
 have c31b0: (t381==0)=true:=beq_iff_eq.mpr c31
 have c31b1: (t381 !=0)=false:=bne_eq_false_iff_eq.mpr c31
 clear c31
 generalize hy384: ([(-1),a1_0,0]:List Int)=y384 at H
 have Ny384:=ak hy384.symm
 clear hy384
 obtain⟨⟨t387,t388,t389⟩,A32,H⟩:=bd H;(try dsimp only at H)
 generalize hy390: ([48,49,(-1)]:List Int)=y390 at H
 have Ny390:=ak hy390.symm
 clear hy390
 obtain⟨⟨t393,t394,t395⟩,A33,H⟩:=bd H;(try dsimp only at H)
 obtain⟨c34,H⟩:=gi H
 have LMc34:=Aside0.mk c34
 clear c34
 generalize hy396: (x5_1++[(⟨t387,t393,0⟩:S63)]:List (S63))=y396 at H
 have Ny396:=ak hy396.symm
 clear hy396
 simp only[Option.some.injEq,Prod.mk.injEq]at H
 obtain⟨rfl,rfl,rfl⟩:=H
 go_wp2_with (first|(refine gs 32 Try.func79 #[.pointer (some ⟨g,0,none⟩),.int .i64 30] ?_;(with_reducible refine(spec_l1Cur_pick.calls g s0_0 x1001_1 x1002_1 30 t381 t382 t383 w0 _ ?side1 ?side2 A30.out).mono ?_);(case side1=>exact IsS95.now HI0.out);(case side2=>exact h2 HB.out (IsS95.ge HI0.out) GE351.out);rintro e w35 ⟨rfl,hi,hb,hk⟩;refine⟨_,rfl,?_⟩;replace HO_5:=ak (R_mono (R_keep (IsS95.apart (show IsS95 w0 _ g s0_0 x1001_1 x1002_1 from(IsS95.now HI0.out)) (rm HO_5.out) (by decide)) hk (fun _ h=>h.2)) (fun _ h=>h.1));replace BK351:=kk BK351 hk NB351_0;replace HK:=ak (KeepBut.trans (kn HK.out) hk (.inl rfl));replace HB:=ak hb;replace HI0:=ak hi;(try clear hb);(try clear hk);(try clear hi);have hnb36:=NB351_0.out;have hnc36:=NB0_351.out;have hcz37_0:=bc BK351 0 rfl;have hcz37_1:=bc BK351 1 rfl;have hfz37_0:=bf BK351 0;have hfz37_1:=bf BK351 1)|((with_reducible refine gate_dst (N:=39) rfl ?_);refine R_lit (Kd.int .i64) _ 3 ?hg (N:=39) ?hd (xs:=([(-1),a1_0,0]:List Int)) (inner:=[.int .i64 (-1),.int .i64 a1_0,.int .i64 0]) (ok:=fun _=>True) (okp:=fun _=>True) ?hr ?hp (fun _ hk=>hk) trivial (Below.refl _ _) (Nat.le_refl _) (by simp) ?_;(case hd=>rfl);(case hg=>rfl);(case hr=>first|(go_simp;done)|(go_simp;rfl));(case hp=>exact(Reps.one (show Kd.M (Kd.int .i64) _ _ _ (-1) [.int .i64 (-1)]from rfl) (Reps.one (show Kd.M (Kd.int .i64) _ _ _ a1_0 [.int .i64 a1_0]from rfl) (Reps.one (show Kd.M (Kd.int .i64) _ _ _ 0 [.int .i64 0]from rfl) (Reps.none _ _)))));intro v385 w38 ho39 hb hg_ hnew_;clear hg_ hnew_;(first|rw[←Ny384.out]at ho39|(simp only[Int.reduceToNat]at ho39;rw[←Ny384.out]at ho39));replace HO_5:=rb HO_5 hb;have HO386:=ak (R_lower ho39 (keep_size (w:=w) (g:=g) (row:=none) (kn HK.out)));replace BK351:=kb BK351 hb;replace HK:=ak (KeepBut.trans (kn HK.out) (KeepBut.of_below hb g none) (.inl rfl));replace HB:=ak (below_step (h2 HB.out (IsS95.ge HI0.out) GE351.out) hb);replace HI0:=ak (IsS95.below (g:=g) (IsS95.now HI0.out) hb);clear hb ho39;obtain⟨Ao40,co40,eo40⟩:=R_slice HO386.out;subst eo40)|(refine gs 40 Try.func82 #[.pointer (some ⟨g,0,none⟩),.slice Ao40 y384.length co40] ?_;(with_reducible refine(spec_l1Cur_among.calls g s0_0 t382 t383 _ _ y384 t387 t388 t389 w0 _ ?side1 ?side2 ?side3 ?side4 ?side5 A32.out).mono ?_);(case side1=>exact IsS95.now HI0.out);(case side2=>exact h2 HB.out (IsS95.ge HI0.out) GE351.out);(case side3=>exact cm (R_reads' HO386.out).2.2);(case side4=>exact(R_reads' HO386.out).2.1);(case side5=>exact far_slice (IsS95.own_ne HI0.out HO386.out (by decide)));rintro e w41 ⟨rfl,hi,hb,hk⟩;refine⟨_,rfl,?_⟩;replace HO_5:=ak (R_mono (R_keep (IsS95.apart (show IsS95 w0 _ g s0_0 t382 t383 from(IsS95.now HI0.out)) (rm HO_5.out) (by decide)) hk (fun _ h=>h.2)) (fun _ h=>h.1));replace BK351:=kk BK351 hk NB351_0;replace HO386:=ak (R_mono (R_keep (IsS95.apart (show IsS95 w0 _ g s0_0 t382 t383 from(IsS95.now HI0.out)) (rm HO386.out) (by decide)) hk (fun _ h=>h.2)) (fun _ h=>h.1));replace HK:=ak (KeepBut.trans (kn HK.out) hk (.inl rfl));replace HB:=ak hb;replace HI0:=ak hi;(try clear hb);(try clear hk);(try clear hi))|((with_reducible refine gate_dst (N:=42) rfl ?_);refine R_lit (Kd.int .i64) _ 3 ?hg (N:=42) ?hd (xs:=([48,49,(-1)]:List Int)) (inner:=[.int .i64 48,.int .i64 49,.int .i64 (-1)]) (ok:=fun _=>True) (okp:=fun _=>True) ?hr ?hp (fun _ hk=>hk) trivial (Below.refl _ _) (Nat.le_refl _) (by simp) ?_;(case hd=>rfl);(case hg=>rfl);(case hr=>first|(go_simp;done)|(go_simp;rfl));(case hp=>exact(Reps.one (show Kd.M (Kd.int .i64) _ _ _ 48 [.int .i64 48]from rfl) (Reps.one (show Kd.M (Kd.int .i64) _ _ _ 49 [.int .i64 49]from rfl) (Reps.one (show Kd.M (Kd.int .i64) _ _ _ (-1) [.int .i64 (-1)]from rfl) (Reps.none _ _)))));intro v391 w42 ho43 hb hg_ hnew_;clear hg_ hnew_;(first|rw[←Ny390.out]at ho43|(simp only[Int.reduceToNat]at ho43;rw[←Ny390.out]at ho43));replace HO_5:=rb HO_5 hb;have HO392:=ak (R_lower (R_new' ho43 (R_lt (rm HO386.out))) (keep_size (w:=w) (g:=g) (row:=none) (kn HK.out)));replace HO386:=ak (R_elder' (rm HO386.out) (R_base ho43) hb);replace BK351:=kb BK351 hb;replace HK:=ak (KeepBut.trans (kn HK.out) (KeepBut.of_below hb g none) (.inl rfl));replace HB:=ak (below_step (h2 HB.out (IsS95.ge HI0.out) GE351.out) hb);replace HI0:=ak (IsS95.below (g:=g) (IsS95.now HI0.out) hb);clear hb ho43;obtain⟨Ao44,co44,eo44⟩:=R_slice HO392.out;subst eo44)|(refine gs 43 Try.func82 #[.pointer (some ⟨g,0,none⟩),.slice Ao44 y390.length co44] ?_;(with_reducible refine(spec_l1Cur_among.calls g s0_0 t388 t389 _ _ y390 t393 t394 t395 w0 _ ?side1 ?side2 ?side3 ?side4 ?side5 A33.out).mono ?_);(case side1=>exact IsS95.now HI0.out);(case side2=>exact h2 HB.out (IsS95.ge HI0.out) GE351.out);(case side3=>exact cm (R_reads' HO392.out).2.2);(case side4=>exact(R_reads' HO392.out).2.1);(case side5=>exact far_slice (IsS95.own_ne HI0.out HO392.out (by decide)));rintro e w45 ⟨rfl,hi,hb,hk⟩;refine⟨_,rfl,?_⟩;replace HO_5:=ak (R_mono (R_keep (IsS95.apart (show IsS95 w0 _ g s0_0 t388 t389 from(IsS95.now HI0.out)) (rm HO_5.out) (by decide)) hk (fun _ h=>h.2)) (fun _ h=>h.1));replace BK351:=kk BK351 hk NB351_0;replace HO386:=ak (R_mono (R_keep (IsS95.apart (show IsS95 w0 _ g s0_0 t388 t389 from(IsS95.now HI0.out)) (rm HO386.out) (by decide)) hk (fun _ h=>h.2)) (fun _ h=>h.1));replace HO392:=ak (R_mono (R_keep (IsS95.apart (show IsS95 w0 _ g s0_0 t388 t389 from(IsS95.now HI0.out)) (rm HO392.out) (by decide)) hk (fun _ h=>h.2)) (fun _ h=>h.1));replace HK:=ak (KeepBut.trans (kn HK.out) hk (.inl rfl));replace HB:=ak hb;replace HI0:=ak hi;(try clear hb);(try clear hk);(try clear hi))|((with_reducible refine gate_builtin (b:=.append) (xs:=#[.tmp 35,.tmp 45]) rfl ?_);at_builtin;refine R_append k63 w.heap.size rfl (.tmp 35) (.tmp 45) 30 63 (.agg #[(.int .i64 0),(.int .i64 0),(.int .i64 0)]) 24 rfl Try.underlying30 info63 rfl (by decide) (by omega) u5 x5_1 (⟨t387,t393,0⟩:S63) [.int .i64 t387,.int .i64 t393,.int .i64 0] (fun _=>True) (fun _=>False) rfl rfl ?aP (fun _ hk=>hk.elim) ?aF ?aO (Below.refl _ _) ?aS ?aL ?_;(case aP=>exact k63_mkM _ _ _ (⟨t387,t393,0⟩:S63));(case aF=>exact(fun _ _=>trivial));(case aO=>exact(rm HO_5.out));(case aS=>exact(keep_size (w:=w) (g:=g) (row:=none) (kn HK.out)));(case aL=>have:=LMc34.out;omega);intro v397 w46 ho hb hg hat;rw[←Ny396.out]at ho;replace BK351:=ak (blk_grown (g:=gb351) (o:=.cells #[.int .i64 a1_0,.bool a1_1] 28 (0,0)) (bm BK351.out) hg (R_ne HO_5.out BK351.out (by decide)));replace HO386:=ak (R_over' (rm HO386.out) (R_typed (rm HO_5.out)) (by decide) hg);replace HO392:=ak (R_over' (rm HO392.out) (R_typed (rm HO_5.out)) (by decide) hg);replace HB:=ak (below_weaken (h2 HB.out (IsS95.ge HI0.out) GE351.out) HL.out hb);replace HI0:=ak (IsS95.grown (show IsS95 w0 _ g s0_0 t394 t395 from(IsS95.now HI0.out)) hg (IsS95.own_ne HI0.out HO_5.out (by decide)));replace HK:=ak (KeepBut.trans (kn HK.out) (KeepBut.of_grown hg g) (R_base2 HO_5.out));have HO398:=ak ho;clear HO_5;clear ho hb hg hat))
 go_ret
 exact⟨_,fe,rm HO398.out,(IsS95.now HI0.out),h2 HB.out (IsS95.ge HI0.out) GE351.out,(kn HK.out)⟩
def spec_l1Cur_placeOn.f (s0_0:List Int) (s0_1:Int) (s0_2:Int) (a1_0:Int) (a1_1:Bool):Option (Int × Int × Int):=(spec_l1Cur_one.f s0_0 s0_1 s0_2 30).bind fun bt403=>(if bt403.1=true then((spec_l1Cur_among.f s0_0 bt403.2.1 bt403.2.2 (([(-1),0,a1_0,wrap64 (a1_0-1),4611686018427387904]:List Int))).bind fun bt409=>(some (bt409.1,bt409.2.1,bt409.2.2)))else((spec_l1Least.f a1_0 24).bind fun t412=>((spec_l1Most.f t412 1).bind fun t413=>((spec_l1Cur_pick.f s0_0 bt403.2.1 bt403.2.2 t413).bind fun bt414=>(some (bt414.1,bt414.2.1,bt414.2.2))))))
set_option maxHeartbeats 8000000 in
set_option maxRecDepth 100000 in
theorem spec_l1Cur_placeOn.calls (g:Nat) (s0_0:List Int) (s0_1:Int) (s0_2:Int) (a1_0:Int) (a1_1:Bool) (r1:Int) (r2:Int) (r3:Int) (w0 w:World) (hI:IsS95 w0 w g s0_0 s0_1 s0_2) (hB:Below w0.heap.size w0 w) (h:spec_l1Cur_placeOn.f s0_0 s0_1 s0_2 a1_0 a1_1=some (r1,r2,r3)):
  Calls Try.prog 93 #[.pointer (some ⟨g,0,none⟩),.agg #[.int .i64 a1_0,.bool a1_1]] w fun e w'=>e= .returned (.int .i64 r1)∧IsS95 w0 w' g s0_0 r2 r3∧Below w0.heap.size w0 w'∧KeepBut w w' g none:=by
 have hu28:=Try.underlying28
 have HI0:=Aside0.mk hI
 have HK:=Aside0.mk (KeepBut.refl w g none)
 have HL:=Aside0.mk hB.size
 clear hI
 have HW0:=Aside0.mk hB.size
 have HB:=Aside0.mk hB
 clear hB
 unfold spec_l1Cur_placeOn.f at h
 have H:=h
 clear h
 obtain⟨⟨t403,t404,t405⟩,A3,H⟩:=bd H;(try dsimp only at H)
 by_cases c4:t403=true
 rotate_left
 ·replace c4:=Bool.eq_false_iff.mpr c4
  subst c4
  rw[if_neg (show ¬(false=true)by decide)]at H
  obtain⟨t412,A14,H⟩:=bd H;(try dsimp only at H)
  obtain⟨t413,A15,H⟩:=bd H;(try dsimp only at H)
  obtain⟨⟨t414,t415,t416⟩,A16,H⟩:=bd H;(try dsimp only at H)
  simp only[Option.some.injEq,Prod.mk.injEq]at H
  obtain⟨rfl,rfl,rfl⟩:=H
  go_enter Try.func93,Try.ntmps93
  go_wp2_with (first|(refine bx 3 #[.int .i64 a1_0,.bool a1_1] 28 ?_;intro gb402 hg w17 hbox hb;replace HB:=ak (below_step (h1 HB.out (IsS95.ge HI0.out)) hb);have BK402:=ak hbox;have GW402:=ak ((by rw[hg];exact(keep_size (w:=w) (g:=g) (row:=none) (kn HK.out)):w.heap.size≤gb402));have GE402:=ak ((Nat.le_trans HW0.out (by rw[hg];exact(keep_size (w:=w) (g:=g) (row:=none) (kn HK.out)):w.heap.size≤gb402):w0.heap.size≤gb402));replace HK:=ak (KeepBut.trans (kn HK.out) (KeepBut.of_below hb g none) (.inl rfl));have NB0_402:=ak ((by rw[hg];exact Nat.ne_of_lt (IsS95.lt (show IsS95 w0 _ g s0_0 s0_1 s0_2 from(IsS95.now HI0.out))):g≠gb402));have NB402_0:=ak ((by rw[hg];exact Nat.ne_of_gt (IsS95.lt (show IsS95 w0 _ g s0_0 s0_1 s0_2 from(IsS95.now HI0.out))):gb402≠g));replace HI0:=ak (IsS95.below (g:=g) (IsS95.now HI0.out) hb);clear hb hbox hg)|(refine gs 6 Try.func81 #[.pointer (some ⟨g,0,none⟩),.int .i64 30] ?_;(with_reducible refine(spec_l1Cur_one.calls g s0_0 s0_1 s0_2 30 false t404 t405 w0 _ ?side1 ?side2 A3.out).mono ?_);(case side1=>exact IsS95.now HI0.out);(case side2=>exact h2 HB.out (IsS95.ge HI0.out) GE402.out);rintro e w18 ⟨rfl,hi,hb,hk⟩;refine⟨_,rfl,?_⟩;replace BK402:=kk BK402 hk NB402_0;replace HK:=ak (KeepBut.trans (kn HK.out) hk (.inl rfl));replace HB:=ak hb;replace HI0:=ak hi;(try clear hb);(try clear hk);(try clear hi);have hnb19:=NB402_0.out;have hnc19:=NB0_402.out;have hcz20_0:=bc BK402 0 rfl;have hcz20_1:=bc BK402 1 rfl;have hfz20_0:=bf BK402 0;have hfz20_1:=bf BK402 1)|(refine gs 18 Try.func108 #[.int .i64 a1_0,.int .i64 24] ?_;(with_reducible refine(spec_l1Least.calls a1_0 24 t412 _ A14.out).mono ?_);rintro e w' ⟨rfl,⟨nd,rfl⟩⟩;refine⟨_,rfl,?_⟩)|(refine gs 19 Try.func101 #[.int .i64 t412,.int .i64 1] ?_;(with_reducible refine(spec_l1Most.calls t412 1 t413 _ A15.out).mono ?_);rintro e w' ⟨rfl,⟨nd,rfl⟩⟩;refine⟨_,rfl,?_⟩)|(refine gs 20 Try.func79 #[.pointer (some ⟨g,0,none⟩),.int .i64 t413] ?_;(with_reducible refine(spec_l1Cur_pick.calls g s0_0 t404 t405 t413 t414 t415 t416 w0 _ ?side1 ?side2 A16.out).mono ?_);(case side1=>exact IsS95.now HI0.out);(case side2=>exact h2 HB.out (IsS95.ge HI0.out) GE402.out);rintro e w21 ⟨rfl,hi,hb,hk⟩;refine⟨_,rfl,?_⟩;replace BK402:=kk BK402 hk NB402_0;replace HK:=ak (KeepBut.trans (kn HK.out) hk (.inl rfl));replace HB:=ak hb;replace HI0:=ak hi;(try clear hb);(try clear hk);(try clear hi)))
  go_ret
  exact⟨fe,(IsS95.now HI0.out),h2 HB.out (IsS95.ge HI0.out) GE402.out,(kn HK.out)⟩
 subst c4
 rw[if_pos rfl]at H
 generalize hy406: ([(-1),0,a1_0,wrap64 (a1_0-1),4611686018427387904]:List Int)=y406 at H
 have Ny406:=ak hy406.symm
 clear hy406
 obtain⟨⟨t409,t410,t411⟩,A5,H⟩:=bd H;(try dsimp only at H)
 simp only[Option.some.injEq,Prod.mk.injEq]at H
 obtain⟨rfl,rfl,rfl⟩:=H
 go_enter Try.func93,Try.ntmps93
 go_wp2_with (first|(refine bx 3 #[.int .i64 a1_0,.bool a1_1] 28 ?_;intro gb402 hg w6 hbox hb;replace HB:=ak (below_step (h1 HB.out (IsS95.ge HI0.out)) hb);have BK402:=ak hbox;have GW402:=ak ((by rw[hg];exact(keep_size (w:=w) (g:=g) (row:=none) (kn HK.out)):w.heap.size≤gb402));have GE402:=ak ((Nat.le_trans HW0.out (by rw[hg];exact(keep_size (w:=w) (g:=g) (row:=none) (kn HK.out)):w.heap.size≤gb402):w0.heap.size≤gb402));replace HK:=ak (KeepBut.trans (kn HK.out) (KeepBut.of_below hb g none) (.inl rfl));have NB0_402:=ak ((by rw[hg];exact Nat.ne_of_lt (IsS95.lt (show IsS95 w0 _ g s0_0 s0_1 s0_2 from(IsS95.now HI0.out))):g≠gb402));have NB402_0:=ak ((by rw[hg];exact Nat.ne_of_gt (IsS95.lt (show IsS95 w0 _ g s0_0 s0_1 s0_2 from(IsS95.now HI0.out))):gb402≠g));replace HI0:=ak (IsS95.below (g:=g) (IsS95.now HI0.out) hb);clear hb hbox hg)|(refine gs 6 Try.func81 #[.pointer (some ⟨g,0,none⟩),.int .i64 30] ?_;(with_reducible refine(spec_l1Cur_one.calls g s0_0 s0_1 s0_2 30 true t404 t405 w0 _ ?side1 ?side2 A3.out).mono ?_);(case side1=>exact IsS95.now HI0.out);(case side2=>exact h2 HB.out (IsS95.ge HI0.out) GE402.out);rintro e w7 ⟨rfl,hi,hb,hk⟩;refine⟨_,rfl,?_⟩;replace BK402:=kk BK402 hk NB402_0;replace HK:=ak (KeepBut.trans (kn HK.out) hk (.inl rfl));replace HB:=ak hb;replace HI0:=ak hi;(try clear hb);(try clear hk);(try clear hi);have hnb8:=NB402_0.out;have hnc8:=NB0_402.out;have hcz9_0:=bc BK402 0 rfl;have hcz9_1:=bc BK402 1 rfl;have hfz9_0:=bf BK402 0;have hfz9_1:=bf BK402 1)|((with_reducible refine gate_dst (N:=13) rfl ?_);refine R_lit (Kd.int .i64) _ 3 ?hg (N:=13) ?hd (xs:=([(-1),0,a1_0,wrap64 (a1_0-1),4611686018427387904]:List Int)) (inner:=[.int .i64 (-1),.int .i64 0,.int .i64 a1_0,.int .i64 (wrap64 (a1_0-1)),.int .i64 4611686018427387904]) (ok:=fun _=>True) (okp:=fun _=>True) ?hr ?hp (fun _ hk=>hk) trivial (Below.refl _ _) (Nat.le_refl _) (by simp) ?_;(case hd=>rfl);(case hg=>rfl);(case hr=>first|(go_simp;done)|(go_simp;rfl));(case hp=>exact(Reps.one (show Kd.M (Kd.int .i64) _ _ _ (-1) [.int .i64 (-1)]from rfl) (Reps.one (show Kd.M (Kd.int .i64) _ _ _ 0 [.int .i64 0]from rfl) (Reps.one (show Kd.M (Kd.int .i64) _ _ _ a1_0 [.int .i64 a1_0]from rfl) (Reps.one (show Kd.M (Kd.int .i64) _ _ _ (wrap64 (a1_0-1)) [.int .i64 (wrap64 (a1_0-1))]from rfl) (Reps.one (show Kd.M (Kd.int .i64) _ _ _ 4611686018427387904 [.int .i64 4611686018427387904]from rfl) (Reps.none _ _)))))));intro v407 w10 ho11 hb hg_ hnew_;clear hg_ hnew_;(first|rw[←Ny406.out]at ho11|(simp only[Int.reduceToNat]at ho11;rw[←Ny406.out]at ho11));have HO408:=ak (R_lower ho11 (keep_size (w:=w) (g:=g) (row:=none) (kn HK.out)));replace BK402:=kb BK402 hb;replace HK:=ak (KeepBut.trans (kn HK.out) (KeepBut.of_below hb g none) (.inl rfl));replace HB:=ak (below_step (h2 HB.out (IsS95.ge HI0.out) GE402.out) hb);replace HI0:=ak (IsS95.below (g:=g) (IsS95.now HI0.out) hb);clear hb ho11;obtain⟨Ao12,co12,eo12⟩:=R_slice HO408.out;subst eo12)|(refine gs 14 Try.func82 #[.pointer (some ⟨g,0,none⟩),.slice Ao12 y406.length co12] ?_;(with_reducible refine(spec_l1Cur_among.calls g s0_0 t404 t405 _ _ y406 t409 t410 t411 w0 _ ?side1 ?side2 ?side3 ?side4 ?side5 A5.out).mono ?_);(case side1=>exact IsS95.now HI0.out);(case side2=>exact h2 HB.out (IsS95.ge HI0.out) GE402.out);(case side3=>exact cm (R_reads' HO408.out).2.2);(case side4=>exact(R_reads' HO408.out).2.1);(case side5=>exact far_slice (IsS95.own_ne HI0.out HO408.out (by decide)));rintro e w13 ⟨rfl,hi,hb,hk⟩;refine⟨_,rfl,?_⟩;replace BK402:=kk BK402 hk NB402_0;replace HO408:=ak (R_mono (R_keep (IsS95.apart (show IsS95 w0 _ g s0_0 t404 t405 from(IsS95.now HI0.out)) (rm HO408.out) (by decide)) hk (fun _ h=>h.2)) (fun _ h=>h.1));replace HK:=ak (KeepBut.trans (kn HK.out) hk (.inl rfl));replace HB:=ak hb;replace HI0:=ak hi;(try clear hb);(try clear hk);(try clear hi)))
 go_ret
 exact⟨fe,(IsS95.now HI0.out),h2 HB.out (IsS95.ge HI0.out) GE402.out,(kn HK.out)⟩
def spec_l1Cur_ring.f (s0_0:List Int) (s0_1:Int) (s0_2:Int):Option (Int × Bool × Int × Int):=(spec_l1Cur_size.f s0_0 s0_1 s0_2).bind fun bt418=>(if bt418.1=2 then((spec_l1Cur_one.f s0_0 bt418.2.1 bt418.2.2 4).bind fun bt422=>(if bt422.1=true then(some (bt418.1,true,bt422.2.1,bt422.2.2))else(some (3,true,bt422.2.1,bt422.2.2))))else(some (bt418.1,true,bt418.2.1,bt418.2.2)))
set_option maxHeartbeats 8000000 in
set_option maxRecDepth 100000 in
theorem spec_l1Cur_ring.calls (g:Nat) (s0_0:List Int) (s0_1:Int) (s0_2:Int) (r1:Int) (r2:Bool) (r3:Int) (r4:Int) (w0 w:World) (hI:IsS95 w0 w g s0_0 s0_1 s0_2) (hB:Below w0.heap.size w0 w) (h:spec_l1Cur_ring.f s0_0 s0_1 s0_2=some (r1,r2,r3,r4)):
  Calls Try.prog 115 #[.pointer (some ⟨g,0,none⟩)] w fun e w'=>e= .returned (.agg #[.int .i64 r1,.bool r2])∧IsS95 w0 w' g s0_0 r3 r4∧Below w0.heap.size w0 w'∧KeepBut w w' g none:=by
 have hu28:=Try.underlying28
 have HI0:=Aside0.mk hI
 have HK:=Aside0.mk (KeepBut.refl w g none)
 have HL:=Aside0.mk hB.size
 clear hI
 have HW0:=Aside0.mk hB.size
 have HB:=Aside0.mk hB
 clear hB
 unfold spec_l1Cur_ring.f at h
 have H:=h
 clear h
 obtain⟨⟨t418,t419,t420⟩,A2,H⟩:=bd H;(try dsimp only at H)
 by_cases c3:t418=2
 rotate_left
 ·rw[if_neg c3]at H
  have c3b0: (t418==2)=false:=beq_eq_false_iff_ne.mpr c3
  have c3b1: (t418 !=2)=true:=bne_iff_ne.mpr c3
  simp only[Option.some.injEq,Prod.mk.injEq]at H
  obtain⟨rfl,rfl,rfl,rfl⟩:=H
  go_enter Try.func115,Try.ntmps115
  go_wp2_with (first|(refine bx 2 #[.int .i64 0,.bool false] 28 ?_;intro gb417 hg w26 hbox hb;replace HB:=ak (below_step (h1 HB.out (IsS95.ge HI0.out)) hb);have BK417:=ak hbox;have GW417:=ak ((by rw[hg];exact(keep_size (w:=w) (g:=g) (row:=none) (kn HK.out)):w.heap.size≤gb417));have GE417:=ak ((Nat.le_trans HW0.out (by rw[hg];exact(keep_size (w:=w) (g:=g) (row:=none) (kn HK.out)):w.heap.size≤gb417):w0.heap.size≤gb417));replace HK:=ak (KeepBut.trans (kn HK.out) (KeepBut.of_below hb g none) (.inl rfl));have NB0_417:=ak ((by rw[hg];exact Nat.ne_of_lt (IsS95.lt (show IsS95 w0 _ g s0_0 s0_1 s0_2 from(IsS95.now HI0.out))):g≠gb417));have NB417_0:=ak ((by rw[hg];exact Nat.ne_of_gt (IsS95.lt (show IsS95 w0 _ g s0_0 s0_1 s0_2 from(IsS95.now HI0.out))):gb417≠g));replace HI0:=ak (IsS95.below (g:=g) (IsS95.now HI0.out) hb);clear hb hbox hg)|(refine gs 5 Try.func112 #[.pointer (some ⟨g,0,none⟩)] ?_;(with_reducible refine(spec_l1Cur_size.calls g s0_0 s0_1 s0_2 t418 t419 t420 w0 _ ?side1 ?side2 A2.out).mono ?_);(case side1=>exact IsS95.now HI0.out);(case side2=>exact h2 HB.out (IsS95.ge HI0.out) GE417.out);rintro e w27 ⟨rfl,hi,hb,hk⟩;refine⟨_,rfl,?_⟩;replace BK417:=kk BK417 hk NB417_0;replace HK:=ak (KeepBut.trans (kn HK.out) hk (.inl rfl));replace HB:=ak hb;replace HI0:=ak hi;(try clear hb);(try clear hk);(try clear hi))|(refine bx 3 #[.int .i64 0,.bool false] 28 ?_;intro gb421 hg w28 hbox hb;replace HB:=ak (below_step (h2 HB.out (IsS95.ge HI0.out) GE417.out) hb);have BK421:=ak hbox;have GW421:=ak ((by rw[hg];exact(keep_size (w:=w) (g:=g) (row:=none) (kn HK.out)):w.heap.size≤gb421));have GE421:=ak ((Nat.le_trans HW0.out (by rw[hg];exact(keep_size (w:=w) (g:=g) (row:=none) (kn HK.out)):w.heap.size≤gb421):w0.heap.size≤gb421));replace HK:=ak (KeepBut.trans (kn HK.out) (KeepBut.of_below hb g none) (.inl rfl));have NB417_421:=nl BK417 hg;have NB421_417:=ng BK417 hg;replace BK417:=kb BK417 hb;have NB0_421:=ak ((by rw[hg];exact Nat.ne_of_lt (IsS95.lt (show IsS95 w0 _ g s0_0 t419 t420 from(IsS95.now HI0.out))):g≠gb421));have NB421_0:=ak ((by rw[hg];exact Nat.ne_of_gt (IsS95.lt (show IsS95 w0 _ g s0_0 t419 t420 from(IsS95.now HI0.out))):gb421≠g));replace HI0:=ak (IsS95.below (g:=g) (IsS95.now HI0.out) hb);clear hb hbox hg;have hnb29:=NB421_417.out;have hnc29:=NB417_421.out;have hnb30:=NB421_0.out;have hnc30:=NB0_421.out;have hcz31_0:=bc BK421 0 rfl;have hcz31_1:=bc BK421 1 rfl;have hfz31_0:=bf BK421 0;have hfz31_1:=bf BK421 1;have hnb32:=NB417_0.out;have hnc32:=NB0_417.out;have hcz33_0:=bc BK417 0 rfl;have hcz33_1:=bc BK417 1 rfl;have hfz33_0:=bf BK417 0;have hfz33_1:=bf BK417 1))
  refine bodyPost_ret (results_cell_row rfl _ _ gb417 28 #[.int .i64 t418,.bool true] (0,0) _ rfl (by(with_reducible repeat(first|apply blk_drewN|apply blk_drew|apply blk_alloc));refine blk_put (cs:=#[.int .i64 t418,.bool false]) ?_ 1 _ rfl;(with_reducible repeat(first|apply blk_drewN|apply blk_drew|apply blk_alloc));refine blk_put (cs:=#[.int .i64 0,.bool false]) ?_ 0 _ rfl;(with_reducible repeat(first|apply blk_drewN|apply blk_drew|apply blk_alloc));refine blk_far ?_ NB417_421.out _;(with_reducible repeat(first|apply blk_drewN|apply blk_drew|apply blk_alloc));refine blk_far ?_ NB417_421.out _;exact bm BK417.out) Try.underlying28 rfl (by kernel_rfl)) rfl ?_
  exact⟨fe,(IsS95.now HI0.out),h3 HB.out (IsS95.ge HI0.out) GE417.out GE421.out,(kn HK.out)⟩
 rw[if_pos c3]at H
 have c3b0: (t418==2)=true:=beq_iff_eq.mpr c3
 have c3b1: (t418 !=2)=false:=bne_eq_false_iff_eq.mpr c3
 clear c3
 obtain⟨⟨t422,t423,t424⟩,A4,H⟩:=bd H;(try dsimp only at H)
 by_cases c5:t422=true
 ·subst c5
  rw[if_pos rfl]at H
  simp only[Option.some.injEq,Prod.mk.injEq]at H
  obtain⟨rfl,rfl,rfl,rfl⟩:=H
  go_enter Try.func115,Try.ntmps115
  go_wp2_with (first|(refine bx 2 #[.int .i64 0,.bool false] 28 ?_;intro gb417 hg w6 hbox hb;replace HB:=ak (below_step (h1 HB.out (IsS95.ge HI0.out)) hb);have BK417:=ak hbox;have GW417:=ak ((by rw[hg];exact(keep_size (w:=w) (g:=g) (row:=none) (kn HK.out)):w.heap.size≤gb417));have GE417:=ak ((Nat.le_trans HW0.out (by rw[hg];exact(keep_size (w:=w) (g:=g) (row:=none) (kn HK.out)):w.heap.size≤gb417):w0.heap.size≤gb417));replace HK:=ak (KeepBut.trans (kn HK.out) (KeepBut.of_below hb g none) (.inl rfl));have NB0_417:=ak ((by rw[hg];exact Nat.ne_of_lt (IsS95.lt (show IsS95 w0 _ g s0_0 s0_1 s0_2 from(IsS95.now HI0.out))):g≠gb417));have NB417_0:=ak ((by rw[hg];exact Nat.ne_of_gt (IsS95.lt (show IsS95 w0 _ g s0_0 s0_1 s0_2 from(IsS95.now HI0.out))):gb417≠g));replace HI0:=ak (IsS95.below (g:=g) (IsS95.now HI0.out) hb);clear hb hbox hg)|(refine gs 5 Try.func112 #[.pointer (some ⟨g,0,none⟩)] ?_;(with_reducible refine(spec_l1Cur_size.calls g s0_0 s0_1 s0_2 t418 t419 t420 w0 _ ?side1 ?side2 A2.out).mono ?_);(case side1=>exact IsS95.now HI0.out);(case side2=>exact h2 HB.out (IsS95.ge HI0.out) GE417.out);rintro e w7 ⟨rfl,hi,hb,hk⟩;refine⟨_,rfl,?_⟩;replace BK417:=kk BK417 hk NB417_0;replace HK:=ak (KeepBut.trans (kn HK.out) hk (.inl rfl));replace HB:=ak hb;replace HI0:=ak hi;(try clear hb);(try clear hk);(try clear hi))|(refine bx 3 #[.int .i64 0,.bool false] 28 ?_;intro gb421 hg w8 hbox hb;replace HB:=ak (below_step (h2 HB.out (IsS95.ge HI0.out) GE417.out) hb);have BK421:=ak hbox;have GW421:=ak ((by rw[hg];exact(keep_size (w:=w) (g:=g) (row:=none) (kn HK.out)):w.heap.size≤gb421));have GE421:=ak ((Nat.le_trans HW0.out (by rw[hg];exact(keep_size (w:=w) (g:=g) (row:=none) (kn HK.out)):w.heap.size≤gb421):w0.heap.size≤gb421));replace HK:=ak (KeepBut.trans (kn HK.out) (KeepBut.of_below hb g none) (.inl rfl));have NB417_421:=nl BK417 hg;have NB421_417:=ng BK417 hg;replace BK417:=kb BK417 hb;have NB0_421:=ak ((by rw[hg];exact Nat.ne_of_lt (IsS95.lt (show IsS95 w0 _ g s0_0 t419 t420 from(IsS95.now HI0.out))):g≠gb421));have NB421_0:=ak ((by rw[hg];exact Nat.ne_of_gt (IsS95.lt (show IsS95 w0 _ g s0_0 t419 t420 from(IsS95.now HI0.out))):gb421≠g));replace HI0:=ak (IsS95.below (g:=g) (IsS95.now HI0.out) hb);clear hb hbox hg;have hnb9:=NB421_417.out;have hnc9:=NB417_421.out;have hnb10:=NB421_0.out;have hnc10:=NB0_421.out;have hcz11_0:=bc BK421 0 rfl;have hcz11_1:=bc BK421 1 rfl;have hfz11_0:=bf BK421 0;have hfz11_1:=bf BK421 1)|(go_at_call 81;(with_reducible refine(spec_l1Cur_one.calls g s0_0 t419 t420 4 true t423 t424 w0 _ ?side1 ?side2 A4.out).mono ?_);(case side1=>exact IsS95.now HI0.out);(case side2=>exact h3 HB.out (IsS95.ge HI0.out) GE417.out GE421.out);rintro e w12 ⟨rfl,hi,hb,hk⟩;replace BK417:=ak (KeepBut.blk hk (g':=gb417) (o:=.cells #[.int .i64 0,.bool false] 28 (0,0)) (by(with_reducible repeat(first|apply blk_drewN|apply blk_drew|apply blk_alloc));refine blk_far ?_ NB417_421.out _;(with_reducible repeat(first|apply blk_drewN|apply blk_drew|apply blk_alloc));refine blk_far ?_ NB417_421.out _;exact bm BK417.out) NB417_0.out (by simp));replace BK421:=ak (KeepBut.blk hk (g':=gb421) (o:=.cells #[.int .i64 t418,.bool true] 28 (0,0)) (by(with_reducible repeat(first|apply blk_drewN|apply blk_drew|apply blk_alloc));refine blk_put (cs:=#[.int .i64 t418,.bool false]) ?_ 1 _ rfl;(with_reducible repeat(first|apply blk_drewN|apply blk_drew|apply blk_alloc));refine blk_put (cs:=#[.int .i64 0,.bool false]) ?_ 0 _ rfl;exact bm BK421.out) NB421_0.out (by simp));replace HK:=ak (KeepBut.trans (kn HK.out) hk (.inl rfl));replace HB:=ak hb;replace HI0:=ak hi;(try clear hb);(try clear hk);(try clear hi);have hcz13_0:=bc BK421 0 rfl;have hcz13_1:=bc BK421 1 rfl;have hfz13_0:=bf BK421 0;have hfz13_1:=bf BK421 1;have hnb14:=NB417_0.out;have hnc14:=NB0_417.out;have hcz15_0:=bc BK417 0 rfl;have hcz15_1:=bc BK417 1 rfl;have hfz15_0:=bf BK417 0;have hfz15_1:=bf BK417 1))
  refine bodyPost_ret (results_cell_row rfl _ _ gb417 28 #[.int .i64 t418,.bool true] (0,0) _ rfl (by(with_reducible repeat(first|apply blk_drewN|apply blk_drew|apply blk_alloc));refine blk_put (cs:=#[.int .i64 t418,.bool false]) ?_ 1 _ rfl;(with_reducible repeat(first|apply blk_drewN|apply blk_drew|apply blk_alloc));refine blk_put (cs:=#[.int .i64 0,.bool false]) ?_ 0 _ rfl;exact bm BK417.out) Try.underlying28 rfl (by kernel_rfl)) rfl ?_
  exact⟨fe,(IsS95.now HI0.out),h3 HB.out (IsS95.ge HI0.out) GE417.out GE421.out,(kn HK.out)⟩
 replace c5:=Bool.eq_false_iff.mpr c5
 subst c5
 rw[if_neg (show ¬(false=true)by decide)]at H
 simp only[Option.some.injEq,Prod.mk.injEq]at H
 obtain⟨rfl,rfl,rfl,rfl⟩:=H
 go_enter Try.func115,Try.ntmps115
 go_wp2_with (first|(refine bx 2 #[.int .i64 0,.bool false] 28 ?_;intro gb417 hg w16 hbox hb;replace HB:=ak (below_step (h1 HB.out (IsS95.ge HI0.out)) hb);have BK417:=ak hbox;have GW417:=ak ((by rw[hg];exact(keep_size (w:=w) (g:=g) (row:=none) (kn HK.out)):w.heap.size≤gb417));have GE417:=ak ((Nat.le_trans HW0.out (by rw[hg];exact(keep_size (w:=w) (g:=g) (row:=none) (kn HK.out)):w.heap.size≤gb417):w0.heap.size≤gb417));replace HK:=ak (KeepBut.trans (kn HK.out) (KeepBut.of_below hb g none) (.inl rfl));have NB0_417:=ak ((by rw[hg];exact Nat.ne_of_lt (IsS95.lt (show IsS95 w0 _ g s0_0 s0_1 s0_2 from(IsS95.now HI0.out))):g≠gb417));have NB417_0:=ak ((by rw[hg];exact Nat.ne_of_gt (IsS95.lt (show IsS95 w0 _ g s0_0 s0_1 s0_2 from(IsS95.now HI0.out))):gb417≠g));replace HI0:=ak (IsS95.below (g:=g) (IsS95.now HI0.out) hb);clear hb hbox hg)|(refine gs 5 Try.func112 #[.pointer (some ⟨g,0,none⟩)] ?_;(with_reducible refine(spec_l1Cur_size.calls g s0_0 s0_1 s0_2 t418 t419 t420 w0 _ ?side1 ?side2 A2.out).mono ?_);(case side1=>exact IsS95.now HI0.out);(case side2=>exact h2 HB.out (IsS95.ge HI0.out) GE417.out);rintro e w17 ⟨rfl,hi,hb,hk⟩;refine⟨_,rfl,?_⟩;replace BK417:=kk BK417 hk NB417_0;replace HK:=ak (KeepBut.trans (kn HK.out) hk (.inl rfl));replace HB:=ak hb;replace HI0:=ak hi;(try clear hb);(try clear hk);(try clear hi))|(refine bx 3 #[.int .i64 0,.bool false] 28 ?_;intro gb421 hg w18 hbox hb;replace HB:=ak (below_step (h2 HB.out (IsS95.ge HI0.out) GE417.out) hb);have BK421:=ak hbox;have GW421:=ak ((by rw[hg];exact(keep_size (w:=w) (g:=g) (row:=none) (kn HK.out)):w.heap.size≤gb421));have GE421:=ak ((Nat.le_trans HW0.out (by rw[hg];exact(keep_size (w:=w) (g:=g) (row:=none) (kn HK.out)):w.heap.size≤gb421):w0.heap.size≤gb421));replace HK:=ak (KeepBut.trans (kn HK.out) (KeepBut.of_below hb g none) (.inl rfl));have NB417_421:=nl BK417 hg;have NB421_417:=ng BK417 hg;replace BK417:=kb BK417 hb;have NB0_421:=ak ((by rw[hg];exact Nat.ne_of_lt (IsS95.lt (show IsS95 w0 _ g s0_0 t419 t420 from(IsS95.now HI0.out))):g≠gb421));have NB421_0:=ak ((by rw[hg];exact Nat.ne_of_gt (IsS95.lt (show IsS95 w0 _ g s0_0 t419 t420 from(IsS95.now HI0.out))):gb421≠g));replace HI0:=ak (IsS95.below (g:=g) (IsS95.now HI0.out) hb);clear hb hbox hg;have hnb19:=NB421_417.out;have hnc19:=NB417_421.out;have hnb20:=NB421_0.out;have hnc20:=NB0_421.out;have hcz21_0:=bc BK421 0 rfl;have hcz21_1:=bc BK421 1 rfl;have hfz21_0:=bf BK421 0;have hfz21_1:=bf BK421 1)|(go_at_call 81;(with_reducible refine(spec_l1Cur_one.calls g s0_0 t419 t420 4 false t423 t424 w0 _ ?side1 ?side2 A4.out).mono ?_);(case side1=>exact IsS95.now HI0.out);(case side2=>exact h3 HB.out (IsS95.ge HI0.out) GE417.out GE421.out);rintro e w22 ⟨rfl,hi,hb,hk⟩;replace BK417:=ak (KeepBut.blk hk (g':=gb417) (o:=.cells #[.int .i64 0,.bool false] 28 (0,0)) (by(with_reducible repeat(first|apply blk_drewN|apply blk_drew|apply blk_alloc));refine blk_far ?_ NB417_421.out _;(with_reducible repeat(first|apply blk_drewN|apply blk_drew|apply blk_alloc));refine blk_far ?_ NB417_421.out _;exact bm BK417.out) NB417_0.out (by simp));replace BK421:=ak (KeepBut.blk hk (g':=gb421) (o:=.cells #[.int .i64 t418,.bool true] 28 (0,0)) (by(with_reducible repeat(first|apply blk_drewN|apply blk_drew|apply blk_alloc));refine blk_put (cs:=#[.int .i64 t418,.bool false]) ?_ 1 _ rfl;(with_reducible repeat(first|apply blk_drewN|apply blk_drew|apply blk_alloc));refine blk_put (cs:=#[.int .i64 0,.bool false]) ?_ 0 _ rfl;exact bm BK421.out) NB421_0.out (by simp));replace HK:=ak (KeepBut.trans (kn HK.out) hk (.inl rfl));replace HB:=ak hb;replace HI0:=ak hi;(try clear hb);(try clear hk);(try clear hi);have hcz23_0:=bc BK421 0 rfl;have hcz23_1:=bc BK421 1 rfl;have hfz23_0:=bf BK421 0;have hfz23_1:=bf BK421 1;have hnb24:=NB417_0.out;have hnc24:=NB0_417.out;have hcz25_0:=bc BK417 0 rfl;have hcz25_1:=bc BK417 1 rfl;have hfz25_0:=bf BK417 0;have hfz25_1:=bf BK417 1))
 refine bodyPost_ret (results_cell_row rfl _ _ gb417 28 #[.int .i64 3,.bool true] (0,0) _ rfl (by(with_reducible repeat(first|apply blk_drewN|apply blk_drew|apply blk_alloc));refine blk_put (cs:=#[.int .i64 3,.bool false]) ?_ 1 _ rfl;(with_reducible repeat(first|apply blk_drewN|apply blk_drew|apply blk_alloc));refine blk_put (cs:=#[.int .i64 0,.bool false]) ?_ 0 _ rfl;(with_reducible repeat(first|apply blk_drewN|apply blk_drew|apply blk_alloc));refine blk_far ?_ NB417_421.out _;exact bm BK417.out) Try.underlying28 rfl (by kernel_rfl)) rfl ?_
 exact⟨fe,(IsS95.now HI0.out),h3 HB.out (IsS95.ge HI0.out) GE417.out GE421.out,(kn HK.out)⟩
def spec_l1Cur_road.f (s0_0:List Int) (s0_1:Int) (s0_2:Int):Option (Int × Bool × Int × Int):=(spec_l1Cur_one.f s0_0 s0_1 s0_2 2).bind fun bt426=>(if bt426.1=true then((spec_l1Cur_line.f s0_0 bt426.2.1 bt426.2.2).bind fun bt429=>(some (bt429.1,bt429.2.1,bt429.2.2.1,bt429.2.2.2)))else((spec_l1Cur_ring.f s0_0 bt426.2.1 bt426.2.2).bind fun bt433=>(some (bt433.1,bt433.2.1,bt433.2.2.1,bt433.2.2.2))))
set_option maxHeartbeats 8000000 in
set_option maxRecDepth 100000 in
theorem spec_l1Cur_road.calls (g:Nat) (s0_0:List Int) (s0_1:Int) (s0_2:Int) (r1:Int) (r2:Bool) (r3:Int) (r4:Int) (w0 w:World) (hI:IsS95 w0 w g s0_0 s0_1 s0_2) (hB:Below w0.heap.size w0 w) (h:spec_l1Cur_road.f s0_0 s0_1 s0_2=some (r1,r2,r3,r4)):
  Calls Try.prog 107 #[.pointer (some ⟨g,0,none⟩)] w fun e w'=>e= .returned (.agg #[.int .i64 r1,.bool r2])∧IsS95 w0 w' g s0_0 r3 r4∧Below w0.heap.size w0 w'∧KeepBut w w' g none:=by
 have hu28:=Try.underlying28
 have HI0:=Aside0.mk hI
 have HK:=Aside0.mk (KeepBut.refl w g none)
 have HL:=Aside0.mk hB.size
 clear hI
 have HW0:=Aside0.mk hB.size
 have HB:=Aside0.mk hB
 clear hB
 unfold spec_l1Cur_road.f at h
 have H:=h
 clear h
 obtain⟨⟨t426,t427,t428⟩,A2,H⟩:=bd H;(try dsimp only at H)
 by_cases c3:t426=true
 ·subst c3
  rw[if_pos rfl]at H
  obtain⟨⟨t429,t430,t431,t432⟩,A4,H⟩:=bd H;(try dsimp only at H)
  simp only[Option.some.injEq,Prod.mk.injEq]at H
  obtain⟨rfl,rfl,rfl,rfl⟩:=H
  go_enter Try.func107,Try.ntmps107
  go_wp2_with (first|(refine bx 2 #[.int .i64 0,.bool false] 28 ?_;intro gb425 hg w5 hbox hb;replace HB:=ak (below_step (h1 HB.out (IsS95.ge HI0.out)) hb);have BK425:=ak hbox;have GW425:=ak ((by rw[hg];exact(keep_size (w:=w) (g:=g) (row:=none) (kn HK.out)):w.heap.size≤gb425));have GE425:=ak ((Nat.le_trans HW0.out (by rw[hg];exact(keep_size (w:=w) (g:=g) (row:=none) (kn HK.out)):w.heap.size≤gb425):w0.heap.size≤gb425));replace HK:=ak (KeepBut.trans (kn HK.out) (KeepBut.of_below hb g none) (.inl rfl));have NB0_425:=ak ((by rw[hg];exact Nat.ne_of_lt (IsS95.lt (show IsS95 w0 _ g s0_0 s0_1 s0_2 from(IsS95.now HI0.out))):g≠gb425));have NB425_0:=ak ((by rw[hg];exact Nat.ne_of_gt (IsS95.lt (show IsS95 w0 _ g s0_0 s0_1 s0_2 from(IsS95.now HI0.out))):gb425≠g));replace HI0:=ak (IsS95.below (g:=g) (IsS95.now HI0.out) hb);clear hb hbox hg)|(refine gs 4 Try.func81 #[.pointer (some ⟨g,0,none⟩),.int .i64 2] ?_;(with_reducible refine(spec_l1Cur_one.calls g s0_0 s0_1 s0_2 2 true t427 t428 w0 _ ?side1 ?side2 A2.out).mono ?_);(case side1=>exact IsS95.now HI0.out);(case side2=>exact h2 HB.out (IsS95.ge HI0.out) GE425.out);rintro e w6 ⟨rfl,hi,hb,hk⟩;refine⟨_,rfl,?_⟩;replace BK425:=kk BK425 hk NB425_0;replace HK:=ak (KeepBut.trans (kn HK.out) hk (.inl rfl));replace HB:=ak hb;replace HI0:=ak hi;(try clear hb);(try clear hk);(try clear hi))|(refine gs 6 Try.func91 #[.pointer (some ⟨g,0,none⟩)] ?_;(with_reducible refine(spec_l1Cur_line.calls g s0_0 t427 t428 t429 t430 t431 t432 w0 _ ?side1 ?side2 A4.out).mono ?_);(case side1=>exact IsS95.now HI0.out);(case side2=>exact h2 HB.out (IsS95.ge HI0.out) GE425.out);rintro e w7 ⟨rfl,hi,hb,hk⟩;refine⟨_,rfl,?_⟩;replace BK425:=kk BK425 hk NB425_0;replace HK:=ak (KeepBut.trans (kn HK.out) hk (.inl rfl));replace HB:=ak hb;replace HI0:=ak hi;(try clear hb);(try clear hk);(try clear hi);have hnb8:=NB425_0.out;have hnc8:=NB0_425.out;have hcz9_0:=bc BK425 0 rfl;have hcz9_1:=bc BK425 1 rfl;have hfz9_0:=bf BK425 0;have hfz9_1:=bf BK425 1))
  refine bodyPost_ret (results_cell_row rfl _ _ gb425 28 #[.int .i64 t429,.bool t430] (0,0) _ rfl (by(with_reducible repeat(first|apply blk_drewN|apply blk_drew|apply blk_alloc));refine blk_put (cs:=#[.int .i64 t429,.bool false]) ?_ 1 _ rfl;(with_reducible repeat(first|apply blk_drewN|apply blk_drew|apply blk_alloc));refine blk_put (cs:=#[.int .i64 0,.bool false]) ?_ 0 _ rfl;exact bm BK425.out) Try.underlying28 rfl (by kernel_rfl)) rfl ?_
  exact⟨fe,(IsS95.now HI0.out),h2 HB.out (IsS95.ge HI0.out) GE425.out,(kn HK.out)⟩
 replace c3:=Bool.eq_false_iff.mpr c3
 subst c3
 rw[if_neg (show ¬(false=true)by decide)]at H
 obtain⟨⟨t433,t434,t435,t436⟩,A10,H⟩:=bd H;(try dsimp only at H)
 simp only[Option.some.injEq,Prod.mk.injEq]at H
 obtain⟨rfl,rfl,rfl,rfl⟩:=H
 go_enter Try.func107,Try.ntmps107
 go_wp2_with (first|(refine bx 2 #[.int .i64 0,.bool false] 28 ?_;intro gb425 hg w11 hbox hb;replace HB:=ak (below_step (h1 HB.out (IsS95.ge HI0.out)) hb);have BK425:=ak hbox;have GW425:=ak ((by rw[hg];exact(keep_size (w:=w) (g:=g) (row:=none) (kn HK.out)):w.heap.size≤gb425));have GE425:=ak ((Nat.le_trans HW0.out (by rw[hg];exact(keep_size (w:=w) (g:=g) (row:=none) (kn HK.out)):w.heap.size≤gb425):w0.heap.size≤gb425));replace HK:=ak (KeepBut.trans (kn HK.out) (KeepBut.of_below hb g none) (.inl rfl));have NB0_425:=ak ((by rw[hg];exact Nat.ne_of_lt (IsS95.lt (show IsS95 w0 _ g s0_0 s0_1 s0_2 from(IsS95.now HI0.out))):g≠gb425));have NB425_0:=ak ((by rw[hg];exact Nat.ne_of_gt (IsS95.lt (show IsS95 w0 _ g s0_0 s0_1 s0_2 from(IsS95.now HI0.out))):gb425≠g));replace HI0:=ak (IsS95.below (g:=g) (IsS95.now HI0.out) hb);clear hb hbox hg)|(refine gs 4 Try.func81 #[.pointer (some ⟨g,0,none⟩),.int .i64 2] ?_;(with_reducible refine(spec_l1Cur_one.calls g s0_0 s0_1 s0_2 2 false t427 t428 w0 _ ?side1 ?side2 A2.out).mono ?_);(case side1=>exact IsS95.now HI0.out);(case side2=>exact h2 HB.out (IsS95.ge HI0.out) GE425.out);rintro e w12 ⟨rfl,hi,hb,hk⟩;refine⟨_,rfl,?_⟩;replace BK425:=kk BK425 hk NB425_0;replace HK:=ak (KeepBut.trans (kn HK.out) hk (.inl rfl));replace HB:=ak hb;replace HI0:=ak hi;(try clear hb);(try clear hk);(try clear hi))|(refine gs 8 Try.func115 #[.pointer (some ⟨g,0,none⟩)] ?_;(with_reducible refine(spec_l1Cur_ring.calls g s0_0 t427 t428 t433 t434 t435 t436 w0 _ ?side1 ?side2 A10.out).mono ?_);(case side1=>exact IsS95.now HI0.out);(case side2=>exact h2 HB.out (IsS95.ge HI0.out) GE425.out);rintro e w13 ⟨rfl,hi,hb,hk⟩;refine⟨_,rfl,?_⟩;replace BK425:=kk BK425 hk NB425_0;replace HK:=ak (KeepBut.trans (kn HK.out) hk (.inl rfl));replace HB:=ak hb;replace HI0:=ak hi;(try clear hb);(try clear hk);(try clear hi);have hnb14:=NB425_0.out;have hnc14:=NB0_425.out;have hcz15_0:=bc BK425 0 rfl;have hcz15_1:=bc BK425 1 rfl;have hfz15_0:=bf BK425 0;have hfz15_1:=bf BK425 1))
 refine bodyPost_ret (results_cell_row rfl _ _ gb425 28 #[.int .i64 t433,.bool t434] (0,0) _ rfl (by(with_reducible repeat(first|apply blk_drewN|apply blk_drew|apply blk_alloc));refine blk_put (cs:=#[.int .i64 t433,.bool false]) ?_ 1 _ rfl;(with_reducible repeat(first|apply blk_drewN|apply blk_drew|apply blk_alloc));refine blk_put (cs:=#[.int .i64 0,.bool false]) ?_ 0 _ rfl;exact bm BK425.out) Try.underlying28 rfl (by kernel_rfl)) rfl ?_
 exact⟨fe,(IsS95.now HI0.out),h2 HB.out (IsS95.ge HI0.out) GE425.out,(kn HK.out)⟩
end
end Go.Proofs.Ythagkpoinjpmfaa.QFnReaches
