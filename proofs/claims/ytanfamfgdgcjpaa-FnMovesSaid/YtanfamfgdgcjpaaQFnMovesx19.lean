/- Functions that the law FnMoves comes to, and their walks: no condition but those named. -/
import Derived.Test.YtanfamfgdgcjpaaQFnMovesx0
import Derived.Test.YtanfamfgdgcjpaaQFnMovesx2
import Derived.Test.YtanfamfgdgcjpaaQFnMovesx18
namespace Go.Proofs.Ytanfamfgdgcjpaa.QFnMoves
open Go.RowKit Go.Proofs.YtanfamfgdgcjpaaW.PrintWords Go.Proofs.YtanfamfgdgcjpaaW.PrintLast Go.Proofs.YtanfamfgdgcjpaaW.PrintMore Go.Proofs.Ytanfamfgdgcjpaa.Short
attribute [local go_sem] max2_int min2_int max_two min_two max_three min_three max_four min_four
set_option linter.unusedVariables false
set_option linter.unusedSimpArgs false
section
open Kd
mutual
def spec_l1Cur_sensors9.l0:Nat→List (S58)→Int→Bool→Int→List Int→Int→Int→Int→Bool→Option ((List (S58))× Int × Int)
 | 0,_,_,_,_,_,_,_,_,_=>none
 | k+1,x5,x6,x7,x8,x1000,x1001,x1002,x476000,x476001=>if x8>0 then((spec_l1Least.f x476000 24).bind fun t494=>((spec_l1Most.f 1 t494).bind fun t495=>((spec_l1Cur_pick.f x1000 x1001 x1002 t495).bind fun bt496=>(if x7=true then(if x5.length<8796093022208 then(spec_l1Cur_sensors9.l0 k (x5++[(⟨bt496.1,x6⟩:S58)]) x6 x7 (wrap64 (x8-1)) x1000 bt496.2.1 bt496.2.2 x476000 x476001)else(none))else((spec_l1Cur_among.f x1000 bt496.2.1 bt496.2.2 (([1,2,0,3,5,1]:List Int))).bind fun bt506=>(if x5.length<8796093022208 then(spec_l1Cur_sensors9.l0 k (x5++[(⟨bt496.1,bt506.1⟩:S58)]) x6 x7 (wrap64 (x8-1)) x1000 bt506.2.1 bt506.2.2 x476000 x476001)else(none)))))))else((spec_l1Cur_pick.f x1000 x1001 x1002 30).bind fun bt512=>(if bt512.1=0 then((spec_l1Cur_among.f x1000 bt512.2.1 bt512.2.2 (([(-1),x476000,0]:List Int))).bind fun bt518=>((spec_l1Cur_among.f x1000 bt518.2.1 bt518.2.2 (([12,13,(-1)]:List Int))).bind fun bt524=>(if x5.length<8796093022208 then(some ((x5++[(⟨bt518.1,bt524.1⟩:S58)]),bt524.2.1,bt524.2.2))else(none))))else(if bt512.1=1 then(spec_l1Cur_sensors9.l1 k x5 x1000 bt512.2.1 bt512.2.2)else(some (x5,bt512.2.1,bt512.2.2)))))
def spec_l1Cur_sensors9.l1:Nat→List (S58)→List Int→Int→Int→Option ((List (S58))× Int × Int)
 | 0,_,_,_,_=>none
 | k+1,x5,x1000,x1001,x1002=>if(x5.length:Int)<7 then(if x5.length<8796093022208 then(spec_l1Cur_sensors9.l1 k (x5++[(⟨0,0⟩:S58)]) x1000 x1001 x1002)else(none))else(some (x5,x1001,x1002))
end
def spec_l1Cur_sensors9.f (k:Nat) (s0_0:List Int) (s0_1:Int) (s0_2:Int) (a1_0:Int) (a1_1:Bool):Option ((List (S58))× Int × Int):=(spec_l1Cur_among.f s0_0 s0_1 s0_2 (([1,2,0,3]:List Int))).bind fun bt482=>((spec_l1Cur_one.f s0_0 bt482.2.1 bt482.2.2 3).bind fun bt485=>((spec_l1Cur_among.f s0_0 bt485.2.1 bt485.2.2 (([3,2,4,1,5,0]:List Int))).bind fun bt491=>(spec_l1Cur_sensors9.l0 k (([]:List (S58))) bt482.1 bt485.1 bt491.1 s0_0 bt491.2.1 bt491.2.2 a1_0 a1_1)))
theorem spec_l1Cur_sensors9.mono_l:∀ k,(∀ y0 y1 y2 y3 y4 y5 y6 y7 y8,LeO (spec_l1Cur_sensors9.l0 k y0 y1 y2 y3 y4 y5 y6 y7 y8) (spec_l1Cur_sensors9.l0 (k+1) y0 y1 y2 y3 y4 y5 y6 y7 y8))∧(∀ y0 y1 y2 y3,LeO (spec_l1Cur_sensors9.l1 k y0 y1 y2 y3) (spec_l1Cur_sensors9.l1 (k+1) y0 y1 y2 y3))
 | 0=>by
  refine⟨?_,?_⟩<;>(intros;intro r h;simp[spec_l1Cur_sensors9.l0,spec_l1Cur_sensors9.l1]at h)
 | k+1=>by
  obtain⟨ih0,ih1⟩:=spec_l1Cur_sensors9.mono_l k
  refine⟨?_,?_⟩<;>intros<;>(first|unfold spec_l1Cur_sensors9.l0|unfold spec_l1Cur_sensors9.l1)<;>(repeat' (with_reducible first|exact ih0 ..|exact ih1 ..|exact LeO.refl _|exact LeO.none _|refine LeO.ite ?_ ?_|refine LeO.bind ?_ (fun _=>?_)))
theorem spec_l1Cur_sensors9.mono:∀ a0 a1 a2 a3 a4 k,LeO (spec_l1Cur_sensors9.f k a0 a1 a2 a3 a4) (spec_l1Cur_sensors9.f (k+1) a0 a1 a2 a3 a4):=by
 intro a0 a1 a2 a3 a4 k
 obtain⟨ih0,ih1⟩:=spec_l1Cur_sensors9.mono_l k
 unfold spec_l1Cur_sensors9.f
 repeat' (with_reducible first|exact ih0 ..|exact ih1 ..|exact LeO.refl _|exact LeO.none _|refine LeO.ite ?_ ?_|refine LeO.bind ?_ (fun _=>?_))
set_option maxHeartbeats 8000000 in
set_option maxRecDepth 100000 in
theorem spec_l1Cur_sensors9.calls (k:Nat) (g:Nat) (s0_0:List Int) (s0_1:Int) (s0_2:Int) (a1_0:Int) (a1_1:Bool) (r1:List (S58)) (r2:Int) (r3:Int) (w0 w:World) (hI:IsS88 w0 w g s0_0 s0_1 s0_2) (hB:Below w0.heap.size w0 w) (h:spec_l1Cur_sensors9.f k s0_0 s0_1 s0_2 a1_0 a1_1=some (r1,r2,r3)):
  Calls Try.prog 69 #[.pointer (some ⟨g,0,none⟩),.agg #[.int .i64 a1_0,.bool a1_1]] w fun e w'=>∃ v0_:Value,e= .returned (v0_)∧Kd.R k58 58 w' w.heap.size (fun _=>True) v0_ r1∧IsS88 w0 w' g s0_0 r2 r3∧Below w0.heap.size w0 w'∧KeepBut w w' g none:=by
 have HI0:=Aside0.mk hI
 have HK:=Aside0.mk (KeepBut.refl w g none)
 have HL:=Aside0.mk hB.size
 clear hI
 have HW0:=Aside0.mk hB.size
 have HB:=Aside0.mk hB
 clear hB
 unfold spec_l1Cur_sensors9.f at h
 have H:=h
 clear h
 generalize hy476: ([]:List (S58))=y476 at H
 have Ny476:=ak hy476.symm
 clear hy476
 generalize hy479: ([1,2,0,3]:List Int)=y479 at H
 have Ny479:=ak hy479.symm
 clear hy479
 obtain⟨⟨t482,t483,t484⟩,A3,H⟩:=bd H;(try dsimp only at H)
 obtain⟨⟨t485,t486,t487⟩,A4,H⟩:=bd H;(try dsimp only at H)
 generalize hy488: ([3,2,4,1,5,0]:List Int)=y488 at H
 have Ny488:=ak hy488.symm
 clear hy488
 obtain⟨⟨t491,t492,t493⟩,A5,H⟩:=bd H;(try dsimp only at H)
 have H':=Aside0.mk H
 clear H
 go_enter Try.func69,Try.ntmps69
 go_wp2_with (first|(refine bx 3 #[.int .i64 a1_0,.bool a1_1] 27 ?_;intro gb475 hg w6 hbox hb;replace HB:=ak (below_step (h1 HB.out (IsS88.ge HI0.out)) hb);have BK475:=ak hbox;have GE475:=ak ((Nat.le_trans HW0.out (by rw[hg];exact(keep_size (w:=w) (g:=g) (row:=none) (kn HK.out)):w.heap.size≤gb475):w0.heap.size≤gb475));replace HK:=ak (KeepBut.trans (kn HK.out) (KeepBut.of_below hb g none) (.inl rfl));have NB0_475:=ak ((by rw[hg];exact Nat.ne_of_lt (IsS88.lt (show IsS88 w0 _ g s0_0 s0_1 s0_2 from(IsS88.now HI0.out))):g≠gb475));have NB475_0:=ak ((by rw[hg];exact Nat.ne_of_gt (IsS88.lt (show IsS88 w0 _ g s0_0 s0_1 s0_2 from(IsS88.now HI0.out))):gb475≠g));replace HI0:=ak (IsS88.below (g:=g) (IsS88.now HI0.out) hb);clear hb hbox hg)|((with_reducible refine gate_dst (N:=10) rfl ?_);refine R_lit k58 _ 58 ?hg (N:=10) ?hd (xs:=([]:List (S58))) (inner:=[]) (ok:=fun _=>True) (okp:=fun _=>True) ?hr ?hp (fun _ hk=>hk) trivial (Below.refl _ _) (Nat.le_refl _) (by simp) ?_;(case hd=>rfl);(case hg=>rfl);(case hr=>first|(go_simp;done)|(go_simp;rfl));(case hp=>exact(Reps.none _ _));intro v477 w7 ho8 hb hg_ hnew_;clear hg_ hnew_;(first|rw[←Ny476.out]at ho8|(simp only[Int.reduceToNat]at ho8;rw[←Ny476.out]at ho8));have HO478:=ak (R_lower ho8 (keep_size (w:=w) (g:=g) (row:=none) (kn HK.out)));replace BK475:=kb BK475 hb;replace HK:=ak (KeepBut.trans (kn HK.out) (KeepBut.of_below hb g none) (.inl rfl));replace HB:=ak (below_step (h2 HB.out (IsS88.ge HI0.out) GE475.out) hb);replace HI0:=ak (IsS88.below (g:=g) (IsS88.now HI0.out) hb);clear hb ho8)|((with_reducible refine gate_dst (N:=12) rfl ?_);refine R_lit (Kd.int .i64) _ 3 ?hg (N:=12) ?hd (xs:=([1,2,0,3]:List Int)) (inner:=[.int .i64 1,.int .i64 2,.int .i64 0,.int .i64 3]) (ok:=fun _=>True) (okp:=fun _=>True) ?hr ?hp (fun _ hk=>hk) trivial (Below.refl _ _) (Nat.le_refl _) (by simp) ?_;(case hd=>rfl);(case hg=>rfl);(case hr=>first|(go_simp;done)|(go_simp;rfl));(case hp=>exact(Reps.one (show Kd.M (Kd.int .i64) _ _ _ 1 [.int .i64 1]from rfl) (Reps.one (show Kd.M (Kd.int .i64) _ _ _ 2 [.int .i64 2]from rfl) (Reps.one (show Kd.M (Kd.int .i64) _ _ _ 0 [.int .i64 0]from rfl) (Reps.one (show Kd.M (Kd.int .i64) _ _ _ 3 [.int .i64 3]from rfl) (Reps.none _ _))))));intro v480 w9 ho10 hb hg_ hnew_;clear hg_ hnew_;(first|rw[←Ny479.out]at ho10|(simp only[Int.reduceToNat]at ho10;rw[←Ny479.out]at ho10));replace HO478:=rb HO478 hb;have HO481:=ak (R_lower ho10 (keep_size (w:=w) (g:=g) (row:=none) (kn HK.out)));replace BK475:=kb BK475 hb;replace HK:=ak (KeepBut.trans (kn HK.out) (KeepBut.of_below hb g none) (.inl rfl));replace HB:=ak (below_step (h2 HB.out (IsS88.ge HI0.out) GE475.out) hb);replace HI0:=ak (IsS88.below (g:=g) (IsS88.now HI0.out) hb);clear hb ho10;obtain⟨Ao11,co11,eo11⟩:=R_slice HO481.out;subst eo11)|(refine gs 13 Try.func70 #[.pointer (some ⟨g,0,none⟩),.slice Ao11 y479.length co11] ?_;(with_reducible refine(spec_l1Cur_among.calls g s0_0 s0_1 s0_2 _ _ y479 t482 t483 t484 w0 _ ?side1 ?side2 ?side3 ?side4 ?side5 A3.out).mono ?_);(case side1=>exact IsS88.now HI0.out);(case side2=>exact h2 HB.out (IsS88.ge HI0.out) GE475.out);(case side3=>exact cm (R_reads' HO481.out).2.2);(case side4=>exact(R_reads' HO481.out).2.1);(case side5=>exact far_slice (IsS88.own_ne HI0.out HO481.out (by decide)));rintro e w12 ⟨rfl,hi,hb,hk⟩;refine⟨_,rfl,?_⟩;replace BK475:=kk BK475 hk NB475_0;replace HO478:=ak (R_mono (R_keep (IsS88.apart (show IsS88 w0 _ g s0_0 s0_1 s0_2 from(IsS88.now HI0.out)) (rm HO478.out) (by decide)) hk (fun _ h=>h.2)) (fun _ h=>h.1));replace HO481:=ak (R_mono (R_keep (IsS88.apart (show IsS88 w0 _ g s0_0 s0_1 s0_2 from(IsS88.now HI0.out)) (rm HO481.out) (by decide)) hk (fun _ h=>h.2)) (fun _ h=>h.1));replace HK:=ak (KeepBut.trans (kn HK.out) hk (.inl rfl));replace HB:=ak hb;replace HI0:=ak hi;(try clear hb);(try clear hk);(try clear hi))|(refine gs 15 Try.func72 #[.pointer (some ⟨g,0,none⟩),.int .i64 3] ?_;(with_reducible refine(spec_l1Cur_one.calls g s0_0 t483 t484 3 t485 t486 t487 w0 _ ?side1 ?side2 A4.out).mono ?_);(case side1=>exact IsS88.now HI0.out);(case side2=>exact h2 HB.out (IsS88.ge HI0.out) GE475.out);rintro e w13 ⟨rfl,hi,hb,hk⟩;refine⟨_,rfl,?_⟩;replace BK475:=kk BK475 hk NB475_0;replace HO478:=ak (R_mono (R_keep (IsS88.apart (show IsS88 w0 _ g s0_0 t483 t484 from(IsS88.now HI0.out)) (rm HO478.out) (by decide)) hk (fun _ h=>h.2)) (fun _ h=>h.1));replace HO481:=ak (R_mono (R_keep (IsS88.apart (show IsS88 w0 _ g s0_0 t483 t484 from(IsS88.now HI0.out)) (rm HO481.out) (by decide)) hk (fun _ h=>h.2)) (fun _ h=>h.1));replace HK:=ak (KeepBut.trans (kn HK.out) hk (.inl rfl));replace HB:=ak hb;replace HI0:=ak hi;(try clear hb);(try clear hk);(try clear hi))|((with_reducible refine gate_dst (N:=17) rfl ?_);refine R_lit (Kd.int .i64) _ 3 ?hg (N:=17) ?hd (xs:=([3,2,4,1,5,0]:List Int)) (inner:=[.int .i64 3,.int .i64 2,.int .i64 4,.int .i64 1,.int .i64 5,.int .i64 0]) (ok:=fun _=>True) (okp:=fun _=>True) ?hr ?hp (fun _ hk=>hk) trivial (Below.refl _ _) (Nat.le_refl _) (by simp) ?_;(case hd=>rfl);(case hg=>rfl);(case hr=>first|(go_simp;done)|(go_simp;rfl));(case hp=>exact(Reps.one (show Kd.M (Kd.int .i64) _ _ _ 3 [.int .i64 3]from rfl) (Reps.one (show Kd.M (Kd.int .i64) _ _ _ 2 [.int .i64 2]from rfl) (Reps.one (show Kd.M (Kd.int .i64) _ _ _ 4 [.int .i64 4]from rfl) (Reps.one (show Kd.M (Kd.int .i64) _ _ _ 1 [.int .i64 1]from rfl) (Reps.one (show Kd.M (Kd.int .i64) _ _ _ 5 [.int .i64 5]from rfl) (Reps.one (show Kd.M (Kd.int .i64) _ _ _ 0 [.int .i64 0]from rfl) (Reps.none _ _))))))));intro v489 w14 ho15 hb hg_ hnew_;clear hg_ hnew_;(first|rw[←Ny488.out]at ho15|(simp only[Int.reduceToNat]at ho15;rw[←Ny488.out]at ho15));replace HO478:=rb HO478 hb;have HO490:=ak (R_lower (R_new' ho15 (R_lt (rm HO481.out))) (keep_size (w:=w) (g:=g) (row:=none) (kn HK.out)));replace HO481:=ak (R_elder' (rm HO481.out) (R_base ho15) hb);replace BK475:=kb BK475 hb;replace HK:=ak (KeepBut.trans (kn HK.out) (KeepBut.of_below hb g none) (.inl rfl));replace HB:=ak (below_step (h2 HB.out (IsS88.ge HI0.out) GE475.out) hb);replace HI0:=ak (IsS88.below (g:=g) (IsS88.now HI0.out) hb);clear hb ho15;obtain⟨Ao16,co16,eo16⟩:=R_slice HO490.out;subst eo16)|(refine gs 18 Try.func70 #[.pointer (some ⟨g,0,none⟩),.slice Ao16 y488.length co16] ?_;(with_reducible refine(spec_l1Cur_among.calls g s0_0 t486 t487 _ _ y488 t491 t492 t493 w0 _ ?side1 ?side2 ?side3 ?side4 ?side5 A5.out).mono ?_);(case side1=>exact IsS88.now HI0.out);(case side2=>exact h2 HB.out (IsS88.ge HI0.out) GE475.out);(case side3=>exact cm (R_reads' HO490.out).2.2);(case side4=>exact(R_reads' HO490.out).2.1);(case side5=>exact far_slice (IsS88.own_ne HI0.out HO490.out (by decide)));rintro e w17 ⟨rfl,hi,hb,hk⟩;refine⟨_,rfl,?_⟩;replace BK475:=kk BK475 hk NB475_0;replace HO478:=ak (R_mono (R_keep (IsS88.apart (show IsS88 w0 _ g s0_0 t486 t487 from(IsS88.now HI0.out)) (rm HO478.out) (by decide)) hk (fun _ h=>h.2)) (fun _ h=>h.1));replace HO481:=ak (R_mono (R_keep (IsS88.apart (show IsS88 w0 _ g s0_0 t486 t487 from(IsS88.now HI0.out)) (rm HO481.out) (by decide)) hk (fun _ h=>h.2)) (fun _ h=>h.1));replace HO490:=ak (R_mono (R_keep (IsS88.apart (show IsS88 w0 _ g s0_0 t486 t487 from(IsS88.now HI0.out)) (rm HO490.out) (by decide)) hk (fun _ h=>h.2)) (fun _ h=>h.1));replace HK:=ak (KeepBut.trans (kn HK.out) hk (.inl rfl));replace HB:=ak hb;replace HI0:=ak hi;(try clear hb);(try clear hk);(try clear hi)))
 go_loopg [5,8] k (fun kq v5 v8 w'=>∃ (x5_1:List (S58)) (x8_1:Int) (x1001_1:Int) (x1002_1:Int),v8= .int .i64 x8_1∧Aside0 (spec_l1Cur_sensors9.l0 kq x5_1 t482 t485 x8_1 s0_0 x1001_1 x1002_1 a1_0 a1_1=some (r1,r2,r3))∧Aside0 (kq≤k)∧Aside0 (Kd.R k58 58 w' w.heap.size (fun _=>True) v5 x5_1)∧Aside0 (w'.heap[gb475]? =some (.cells #[.int .i64 a1_0,.bool a1_1] 27 (0,0)))∧Aside0 (IsS88 w0 w' g s0_0 x1001_1 x1002_1)∧Aside0 (KeepBut w w' g none)∧Aside0 (Below w0.heap.size w0 w'))
 case atStart=>exact⟨(y476),(t491),(t492),(t493),fd,H',⟨Nat.le_refl _⟩,⟨rm HO478.out⟩,⟨bm BK475.out⟩,⟨(IsS88.now HI0.out)⟩,⟨(kn HK.out)⟩,⟨h2 HB.out (IsS88.ge HI0.out) GE475.out⟩⟩
 clear H'
 obtain⟨x5_1,x8_1,x1001_1,x1002_1,rfl,HA,HK1,HO_5,BK475,HI0,HK,HB⟩:=hrel
 obtain _|k1:=gk;·cases HA.out
 obtain⟨H⟩:=HA
 simp only[spec_l1Cur_sensors9.l0]at H
 by_cases c18:x8_1>0
 rotate_left
 ·rw[if_neg c18]at H
  have c18b0:decide (0<x8_1)=false:=decide_eq_false c18
  clear c18
  obtain⟨⟨t512,t513,t514⟩,A47,H⟩:=bd H;(try dsimp only at H)
  by_cases c48:t512=0
  rotate_left
  ·rw[if_neg c48]at H
   have c48b0: (t512==0)=false:=beq_eq_false_iff_ne.mpr c48
   have c48b1: (t512 !=0)=true:=bne_iff_ne.mpr c48
   by_cases c64:t512=1
   rotate_left
   ·rw[if_neg c64]at H
    have c64b0: (t512==1)=false:=beq_eq_false_iff_ne.mpr c64
    simp only[Option.some.injEq,Prod.mk.injEq]at H
    obtain⟨rfl,rfl,rfl⟩:=H
    go_wp2_with (first|(refine gs 42 Try.func71 #[.pointer (some ⟨g,0,none⟩),.int .i64 30] ?_;(with_reducible refine(spec_l1Cur_pick.calls g s0_0 x1001_1 x1002_1 30 t512 t513 t514 w0 _ ?side1 ?side2 A47.out).mono ?_);(case side1=>exact IsS88.now HI0.out);(case side2=>exact h2 HB.out (IsS88.ge HI0.out) GE475.out);rintro e w71 ⟨rfl,hi,hb,hk⟩;refine⟨_,rfl,?_⟩;replace HO_5:=ak (R_mono (R_keep (IsS88.apart (show IsS88 w0 _ g s0_0 x1001_1 x1002_1 from(IsS88.now HI0.out)) (rm HO_5.out) (by decide)) hk (fun _ h=>h.2)) (fun _ h=>h.1));replace BK475:=kk BK475 hk NB475_0;replace HK:=ak (KeepBut.trans (kn HK.out) hk (.inl rfl));replace HB:=ak hb;replace HI0:=ak hi;(try clear hb);(try clear hk);(try clear hi)))
    go_ret
    exact⟨_,fe,rm HO_5.out,(IsS88.now HI0.out),h2 HB.out (IsS88.ge HI0.out) GE475.out,(kn HK.out)⟩
   rw[if_pos c64]at H
   have c64b0: (t512==1)=true:=beq_iff_eq.mpr c64
   clear c64
   have H':=Aside0.mk H
   clear H
   go_wp2_with (first|(refine gs 42 Try.func71 #[.pointer (some ⟨g,0,none⟩),.int .i64 30] ?_;(with_reducible refine(spec_l1Cur_pick.calls g s0_0 x1001_1 x1002_1 30 t512 t513 t514 w0 _ ?side1 ?side2 A47.out).mono ?_);(case side1=>exact IsS88.now HI0.out);(case side2=>exact h2 HB.out (IsS88.ge HI0.out) GE475.out);rintro e w65 ⟨rfl,hi,hb,hk⟩;refine⟨_,rfl,?_⟩;replace HO_5:=ak (R_mono (R_keep (IsS88.apart (show IsS88 w0 _ g s0_0 x1001_1 x1002_1 from(IsS88.now HI0.out)) (rm HO_5.out) (by decide)) hk (fun _ h=>h.2)) (fun _ h=>h.1));replace BK475:=kk BK475 hk NB475_0;replace HK:=ak (KeepBut.trans (kn HK.out) hk (.inl rfl));replace HB:=ak hb;replace HI0:=ak hi;(try clear hb);(try clear hk);(try clear hi)))
   go_loopg [5] k1 (fun kq v5 w'=>∃ (x5_2:List (S58)),Aside0 (spec_l1Cur_sensors9.l1 kq x5_2 s0_0 t513 t514=some (r1,r2,r3))∧Aside0 (kq≤k1)∧Aside0 (Kd.R k58 58 w' w.heap.size (fun _=>True) v5 x5_2)∧Aside0 (w'.heap[gb475]? =some (.cells #[.int .i64 a1_0,.bool a1_1] 27 (0,0)))∧Aside0 (IsS88 w0 w' g s0_0 t513 t514)∧Aside0 (KeepBut w w' g none)∧Aside0 (Below w0.heap.size w0 w'))
   case atStart=>exact⟨(x5_1),H',⟨Nat.le_refl _⟩,⟨rm HO_5.out⟩,⟨bm BK475.out⟩,⟨(IsS88.now HI0.out)⟩,⟨(kn HK.out)⟩,⟨h2 HB.out (IsS88.ge HI0.out) GE475.out⟩⟩
   clear H'
   obtain⟨x5_2,HA,HK2,HO_5,BK475,HI0,HK,HB⟩:=hrel
   obtain _|k2:=gk;·cases HA.out
   obtain⟨H⟩:=HA
   simp only[spec_l1Cur_sensors9.l1]at H
   by_cases c66: (x5_2.length:Int)<7
   rotate_left
   ·rw[if_neg c66]at H
    have c66b0:decide ((x5_2.length:Int)<7)=false:=decide_eq_false c66
    clear c66
    simp only[Option.some.injEq,Prod.mk.injEq]at H
    obtain⟨rfl,rfl,rfl⟩:=H
    obtain⟨Ao70,co70,eo70⟩:=R_slice HO_5.out
    subst eo70
    go_wp2
    go_ret
    exact⟨_,fe,rm HO_5.out,(IsS88.now HI0.out),h2 HB.out (IsS88.ge HI0.out) GE475.out,(kn HK.out)⟩
   rw[if_pos c66]at H
   have c66b0:decide ((x5_2.length:Int)<7)=true:=decide_eq_true c66
   clear c66
   obtain⟨c67,H⟩:=gi H
   have LMc67:=Aside0.mk c67
   clear c67
   generalize hy530: (x5_2++[(⟨0,0⟩:S58)]:List (S58))=y530 at H
   have Ny530:=ak hy530.symm
   clear hy530
   have H':=Aside0.mk H
   clear H
   obtain⟨Ao68,co68,eo68⟩:=R_slice HO_5.out
   subst eo68
   go_wp2_with (first|((with_reducible refine gate_builtin (b:=.append) (xs:=#[.tmp 62,.tmp 64]) rfl ?_);at_builtin;refine R_append k58 w.heap.size rfl (.tmp 62) (.tmp 64) 36 58 (.agg #[(.int .i64 0),(.int .i64 0)]) 16 rfl Try.underlying36 info58 rfl (by decide) (by omega) (.slice Ao68 x5_2.length co68) x5_2 (⟨0,0⟩:S58) [.int .i64 0,.int .i64 0] (fun _=>True) (fun _=>False) rfl rfl ?aP (fun _ hk=>hk.elim) ?aF ?aO (Below.refl _ _) ?aS ?aL ?_;(case aP=>exact k58_mkM _ _ _ (⟨0,0⟩:S58));(case aF=>exact(fun _ _=>trivial));(case aO=>exact(rm HO_5.out));(case aS=>exact(keep_size (w:=w) (g:=g) (row:=none) (kn HK.out)));(case aL=>have:=LMc67.out;omega);intro v531 w69 ho hb hg hat;rw[←Ny530.out]at ho;replace BK475:=ak (blk_grown (g:=gb475) (o:=.cells #[.int .i64 a1_0,.bool a1_1] 27 (0,0)) (bm BK475.out) hg (R_ne HO_5.out BK475.out (by decide)));replace HB:=ak (below_weaken (h2 HB.out (IsS88.ge HI0.out) GE475.out) HL.out hb);replace HI0:=ak (IsS88.grown (show IsS88 w0 _ g s0_0 t513 t514 from(IsS88.now HI0.out)) hg (IsS88.own_ne HI0.out HO_5.out (by decide)));replace HK:=ak (KeepBut.trans (kn HK.out) (KeepBut.of_grown hg g) (R_base2 HO_5.out));have HO532:=ak ho;clear HO_5;clear ho hb hg hat))
   go_roundg k2
   case measure=>have:=HK1.out;have:=HK2.out;omega
   case rel=>exact⟨(y530),H',⟨by have:=HK1.out;have:=HK2.out;omega⟩,⟨rm HO532.out⟩,⟨bm BK475.out⟩,⟨(IsS88.now HI0.out)⟩,⟨(kn HK.out)⟩,⟨h2 HB.out (IsS88.ge HI0.out) GE475.out⟩⟩
  rw[if_pos c48]at H
  have c48b0: (t512==0)=true:=beq_iff_eq.mpr c48
  clear c48
  generalize hy515: ([(-1),a1_0,0]:List Int)=y515 at H
  have Ny515:=ak hy515.symm
  clear hy515
  obtain⟨⟨t518,t519,t520⟩,A49,H⟩:=bd H;(try dsimp only at H)
  generalize hy521: ([12,13,(-1)]:List Int)=y521 at H
  have Ny521:=ak hy521.symm
  clear hy521
  obtain⟨⟨t524,t525,t526⟩,A50,H⟩:=bd H;(try dsimp only at H)
  obtain⟨c51,H⟩:=gi H
  have LMc51:=Aside0.mk c51
  clear c51
  generalize hy527: (x5_1++[(⟨t518,t524⟩:S58)]:List (S58))=y527 at H
  have Ny527:=ak hy527.symm
  clear hy527
  simp only[Option.some.injEq,Prod.mk.injEq]at H
  obtain⟨rfl,rfl,rfl⟩:=H
  go_wp2_with (first|(refine gs 42 Try.func71 #[.pointer (some ⟨g,0,none⟩),.int .i64 30] ?_;(with_reducible refine(spec_l1Cur_pick.calls g s0_0 x1001_1 x1002_1 30 t512 t513 t514 w0 _ ?side1 ?side2 A47.out).mono ?_);(case side1=>exact IsS88.now HI0.out);(case side2=>exact h2 HB.out (IsS88.ge HI0.out) GE475.out);rintro e w52 ⟨rfl,hi,hb,hk⟩;refine⟨_,rfl,?_⟩;replace HO_5:=ak (R_mono (R_keep (IsS88.apart (show IsS88 w0 _ g s0_0 x1001_1 x1002_1 from(IsS88.now HI0.out)) (rm HO_5.out) (by decide)) hk (fun _ h=>h.2)) (fun _ h=>h.1));replace BK475:=kk BK475 hk NB475_0;replace HK:=ak (KeepBut.trans (kn HK.out) hk (.inl rfl));replace HB:=ak hb;replace HI0:=ak hi;(try clear hb);(try clear hk);(try clear hi);have hcz54_0:=bc BK475 0 rfl)|((with_reducible refine gate_dst (N:=49) rfl ?_);refine R_lit (Kd.int .i64) _ 3 ?hg (N:=49) ?hd (xs:=([(-1),a1_0,0]:List Int)) (inner:=[.int .i64 (-1),.int .i64 a1_0,.int .i64 0]) (ok:=fun _=>True) (okp:=fun _=>True) ?hr ?hp (fun _ hk=>hk) trivial (Below.refl _ _) (Nat.le_refl _) (by simp) ?_;(case hd=>rfl);(case hg=>rfl);(case hr=>first|(go_simp;done)|(go_simp;rfl));(case hp=>exact(Reps.one (show Kd.M (Kd.int .i64) _ _ _ (-1) [.int .i64 (-1)]from rfl) (Reps.one (show Kd.M (Kd.int .i64) _ _ _ a1_0 [.int .i64 a1_0]from rfl) (Reps.one (show Kd.M (Kd.int .i64) _ _ _ 0 [.int .i64 0]from rfl) (Reps.none _ _)))));intro v516 w55 ho56 hb hg_ hnew_;clear hg_ hnew_;(first|rw[←Ny515.out]at ho56|(simp only[Int.reduceToNat]at ho56;rw[←Ny515.out]at ho56));replace HO_5:=rb HO_5 hb;have HO517:=ak (R_lower ho56 (keep_size (w:=w) (g:=g) (row:=none) (kn HK.out)));replace BK475:=kb BK475 hb;replace HK:=ak (KeepBut.trans (kn HK.out) (KeepBut.of_below hb g none) (.inl rfl));replace HB:=ak (below_step (h2 HB.out (IsS88.ge HI0.out) GE475.out) hb);replace HI0:=ak (IsS88.below (g:=g) (IsS88.now HI0.out) hb);clear hb ho56;obtain⟨Ao57,co57,eo57⟩:=R_slice HO517.out;subst eo57)|(refine gs 50 Try.func70 #[.pointer (some ⟨g,0,none⟩),.slice Ao57 y515.length co57] ?_;(with_reducible refine(spec_l1Cur_among.calls g s0_0 t513 t514 _ _ y515 t518 t519 t520 w0 _ ?side1 ?side2 ?side3 ?side4 ?side5 A49.out).mono ?_);(case side1=>exact IsS88.now HI0.out);(case side2=>exact h2 HB.out (IsS88.ge HI0.out) GE475.out);(case side3=>exact cm (R_reads' HO517.out).2.2);(case side4=>exact(R_reads' HO517.out).2.1);(case side5=>exact far_slice (IsS88.own_ne HI0.out HO517.out (by decide)));rintro e w58 ⟨rfl,hi,hb,hk⟩;refine⟨_,rfl,?_⟩;replace HO_5:=ak (R_mono (R_keep (IsS88.apart (show IsS88 w0 _ g s0_0 t513 t514 from(IsS88.now HI0.out)) (rm HO_5.out) (by decide)) hk (fun _ h=>h.2)) (fun _ h=>h.1));replace BK475:=kk BK475 hk NB475_0;replace HO517:=ak (R_mono (R_keep (IsS88.apart (show IsS88 w0 _ g s0_0 t513 t514 from(IsS88.now HI0.out)) (rm HO517.out) (by decide)) hk (fun _ h=>h.2)) (fun _ h=>h.1));replace HK:=ak (KeepBut.trans (kn HK.out) hk (.inl rfl));replace HB:=ak hb;replace HI0:=ak hi;(try clear hb);(try clear hk);(try clear hi))|((with_reducible refine gate_dst (N:=52) rfl ?_);refine R_lit (Kd.int .i64) _ 3 ?hg (N:=52) ?hd (xs:=([12,13,(-1)]:List Int)) (inner:=[.int .i64 12,.int .i64 13,.int .i64 (-1)]) (ok:=fun _=>True) (okp:=fun _=>True) ?hr ?hp (fun _ hk=>hk) trivial (Below.refl _ _) (Nat.le_refl _) (by simp) ?_;(case hd=>rfl);(case hg=>rfl);(case hr=>first|(go_simp;done)|(go_simp;rfl));(case hp=>exact(Reps.one (show Kd.M (Kd.int .i64) _ _ _ 12 [.int .i64 12]from rfl) (Reps.one (show Kd.M (Kd.int .i64) _ _ _ 13 [.int .i64 13]from rfl) (Reps.one (show Kd.M (Kd.int .i64) _ _ _ (-1) [.int .i64 (-1)]from rfl) (Reps.none _ _)))));intro v522 w59 ho60 hb hg_ hnew_;clear hg_ hnew_;(first|rw[←Ny521.out]at ho60|(simp only[Int.reduceToNat]at ho60;rw[←Ny521.out]at ho60));replace HO_5:=rb HO_5 hb;have HO523:=ak (R_lower (R_new' ho60 (R_lt (rm HO517.out))) (keep_size (w:=w) (g:=g) (row:=none) (kn HK.out)));replace HO517:=ak (R_elder' (rm HO517.out) (R_base ho60) hb);replace BK475:=kb BK475 hb;replace HK:=ak (KeepBut.trans (kn HK.out) (KeepBut.of_below hb g none) (.inl rfl));replace HB:=ak (below_step (h2 HB.out (IsS88.ge HI0.out) GE475.out) hb);replace HI0:=ak (IsS88.below (g:=g) (IsS88.now HI0.out) hb);clear hb ho60;obtain⟨Ao61,co61,eo61⟩:=R_slice HO523.out;subst eo61)|(refine gs 53 Try.func70 #[.pointer (some ⟨g,0,none⟩),.slice Ao61 y521.length co61] ?_;(with_reducible refine(spec_l1Cur_among.calls g s0_0 t519 t520 _ _ y521 t524 t525 t526 w0 _ ?side1 ?side2 ?side3 ?side4 ?side5 A50.out).mono ?_);(case side1=>exact IsS88.now HI0.out);(case side2=>exact h2 HB.out (IsS88.ge HI0.out) GE475.out);(case side3=>exact cm (R_reads' HO523.out).2.2);(case side4=>exact(R_reads' HO523.out).2.1);(case side5=>exact far_slice (IsS88.own_ne HI0.out HO523.out (by decide)));rintro e w62 ⟨rfl,hi,hb,hk⟩;refine⟨_,rfl,?_⟩;replace HO_5:=ak (R_mono (R_keep (IsS88.apart (show IsS88 w0 _ g s0_0 t519 t520 from(IsS88.now HI0.out)) (rm HO_5.out) (by decide)) hk (fun _ h=>h.2)) (fun _ h=>h.1));replace BK475:=kk BK475 hk NB475_0;replace HO517:=ak (R_mono (R_keep (IsS88.apart (show IsS88 w0 _ g s0_0 t519 t520 from(IsS88.now HI0.out)) (rm HO517.out) (by decide)) hk (fun _ h=>h.2)) (fun _ h=>h.1));replace HO523:=ak (R_mono (R_keep (IsS88.apart (show IsS88 w0 _ g s0_0 t519 t520 from(IsS88.now HI0.out)) (rm HO523.out) (by decide)) hk (fun _ h=>h.2)) (fun _ h=>h.1));replace HK:=ak (KeepBut.trans (kn HK.out) hk (.inl rfl));replace HB:=ak hb;replace HI0:=ak hi;(try clear hb);(try clear hk);(try clear hi))|((with_reducible refine gate_builtin (b:=.append) (xs:=#[.tmp 45,.tmp 55]) rfl ?_);at_builtin;refine R_append k58 w.heap.size rfl (.tmp 45) (.tmp 55) 36 58 (.agg #[(.int .i64 0),(.int .i64 0)]) 16 rfl Try.underlying36 info58 rfl (by decide) (by omega) u5 x5_1 (⟨t518,t524⟩:S58) [.int .i64 t518,.int .i64 t524] (fun _=>True) (fun _=>False) rfl rfl ?aP (fun _ hk=>hk.elim) ?aF ?aO (Below.refl _ _) ?aS ?aL ?_;(case aP=>exact k58_mkM _ _ _ (⟨t518,t524⟩:S58));(case aF=>exact(fun _ _=>trivial));(case aO=>exact(rm HO_5.out));(case aS=>exact(keep_size (w:=w) (g:=g) (row:=none) (kn HK.out)));(case aL=>have:=LMc51.out;omega);intro v528 w63 ho hb hg hat;rw[←Ny527.out]at ho;replace BK475:=ak (blk_grown (g:=gb475) (o:=.cells #[.int .i64 a1_0,.bool a1_1] 27 (0,0)) (bm BK475.out) hg (R_ne HO_5.out BK475.out (by decide)));replace HO517:=ak (R_over' (rm HO517.out) (R_typed (rm HO_5.out)) (by decide) hg);replace HO523:=ak (R_over' (rm HO523.out) (R_typed (rm HO_5.out)) (by decide) hg);replace HB:=ak (below_weaken (h2 HB.out (IsS88.ge HI0.out) GE475.out) HL.out hb);replace HI0:=ak (IsS88.grown (show IsS88 w0 _ g s0_0 t525 t526 from(IsS88.now HI0.out)) hg (IsS88.own_ne HI0.out HO_5.out (by decide)));replace HK:=ak (KeepBut.trans (kn HK.out) (KeepBut.of_grown hg g) (R_base2 HO_5.out));have HO529:=ak ho;clear HO_5;clear ho hb hg hat))
  go_ret
  exact⟨_,fe,rm HO529.out,(IsS88.now HI0.out),h2 HB.out (IsS88.ge HI0.out) GE475.out,(kn HK.out)⟩
 rw[if_pos c18]at H
 have c18b0:decide (0<x8_1)=true:=decide_eq_true c18
 clear c18
 obtain⟨t494,A19,H⟩:=bd H;(try dsimp only at H)
 obtain⟨t495,A20,H⟩:=bd H;(try dsimp only at H)
 obtain⟨⟨t496,t497,t498⟩,A21,H⟩:=bd H;(try dsimp only at H)
 by_cases c22:t485=true
 ·subst c22
  rw[if_pos rfl]at H
  obtain⟨c23,H⟩:=gi H
  have LMc23:=Aside0.mk c23
  clear c23
  generalize hy500: (x5_1++[(⟨t496,t482⟩:S58)]:List (S58))=y500 at H
  have Ny500:=ak hy500.symm
  clear hy500
  have H':=Aside0.mk H
  clear H
  have hcz25_0:=bc BK475 0 rfl
  go_wp2_with (first|(refine gs 26 Try.func44 #[.int .i64 a1_0,.int .i64 24] ?_;(with_reducible refine(spec_l1Least.calls a1_0 24 t494 _ A19.out).mono ?_);rintro e w' ⟨rfl,⟨nd,rfl⟩⟩;refine⟨_,rfl,?_⟩;(try(rw[drewN_self wr];generalize hq_:World.drewN wr _=wr;have n0_:Aside0 (Kd.R k58 58 wr w.heap.size (fun _=>True) u5 x5_1):=⟨by rw[←hq_];exact(rm HO_5.out)⟩;have n1_:Aside0 (wr.heap[gb475]? =some (.cells #[.int .i64 a1_0,.bool a1_1] 27 (0,0))):=⟨by rw[←hq_];exact(bm BK475.out)⟩;have n2_:Aside0 (IsS88 w0 wr g s0_0 x1001_1 x1002_1):=⟨by rw[←hq_];exact(IsS88.now HI0.out)⟩;have n3_:Aside0 (KeepBut w wr g none):=⟨by rw[←hq_];exact(kn HK.out)⟩;have n4_:Aside0 (Below w0.heap.size w0 wr):=⟨by rw[←hq_];exact(h2 HB.out (IsS88.ge HI0.out) GE475.out)⟩;clear HO_5 BK475 HI0 HK HB hq_;have HO_5:=n0_;have BK475:=n1_;have HI0:=n2_;have HK:=n3_;have HB:=n4_;clear n0_ n1_ n2_ n3_ n4_)))|(refine gs 27 Try.func43 #[.int .i64 1,.int .i64 t494] ?_;(with_reducible refine(spec_l1Most.calls 1 t494 t495 _ A20.out).mono ?_);rintro e w' ⟨rfl,⟨nd,rfl⟩⟩;refine⟨_,rfl,?_⟩;(try(rw[drewN_self wr];generalize hq_:World.drewN wr _=wr;have n0_:Aside0 (Kd.R k58 58 wr w.heap.size (fun _=>True) u5 x5_1):=⟨by rw[←hq_];exact(rm HO_5.out)⟩;have n1_:Aside0 (wr.heap[gb475]? =some (.cells #[.int .i64 a1_0,.bool a1_1] 27 (0,0))):=⟨by rw[←hq_];exact(bm BK475.out)⟩;have n2_:Aside0 (IsS88 w0 wr g s0_0 x1001_1 x1002_1):=⟨by rw[←hq_];exact(IsS88.now HI0.out)⟩;have n3_:Aside0 (KeepBut w wr g none):=⟨by rw[←hq_];exact(kn HK.out)⟩;have n4_:Aside0 (Below w0.heap.size w0 wr):=⟨by rw[←hq_];exact(h2 HB.out (IsS88.ge HI0.out) GE475.out)⟩;clear HO_5 BK475 HI0 HK HB hq_;have HO_5:=n0_;have BK475:=n1_;have HI0:=n2_;have HK:=n3_;have HB:=n4_;clear n0_ n1_ n2_ n3_ n4_)))|(refine gs 28 Try.func71 #[.pointer (some ⟨g,0,none⟩),.int .i64 t495] ?_;(with_reducible refine(spec_l1Cur_pick.calls g s0_0 x1001_1 x1002_1 t495 t496 t497 t498 w0 _ ?side1 ?side2 A21.out).mono ?_);(case side1=>exact IsS88.now HI0.out);(case side2=>exact h2 HB.out (IsS88.ge HI0.out) GE475.out);rintro e w26 ⟨rfl,hi,hb,hk⟩;refine⟨_,rfl,?_⟩;replace HO_5:=ak (R_mono (R_keep (IsS88.apart (show IsS88 w0 _ g s0_0 x1001_1 x1002_1 from(IsS88.now HI0.out)) (rm HO_5.out) (by decide)) hk (fun _ h=>h.2)) (fun _ h=>h.1));replace BK475:=kk BK475 hk NB475_0;replace HK:=ak (KeepBut.trans (kn HK.out) hk (.inl rfl));replace HB:=ak hb;replace HI0:=ak hi;(try clear hb);(try clear hk);(try clear hi))|(refine bx 9 #[.int .i64 0,.int .i64 0] 58 ?_;intro gb499 hg w27 hbox hb;replace HO_5:=ak (R_below (R_elderB (rm HO_5.out) gb499 (Nat.le_of_eq hg.symm)) hb);replace HB:=ak (below_step (h2 HB.out (IsS88.ge HI0.out) GE475.out) hb);have BK499:=ak hbox;have GW499:=ak ((by rw[hg];exact(keep_size (w:=w) (g:=g) (row:=none) (kn HK.out)):w.heap.size≤gb499));have GE499:=ak ((Nat.le_trans HW0.out (by rw[hg];exact(keep_size (w:=w) (g:=g) (row:=none) (kn HK.out)):w.heap.size≤gb499):w0.heap.size≤gb499));replace HK:=ak (KeepBut.trans (kn HK.out) (KeepBut.of_below hb g none) (.inl rfl));have NB475_499:=nl BK475 hg;have NB499_475:=ng BK475 hg;replace BK475:=kb BK475 hb;have NB0_499:=ak ((by rw[hg];exact Nat.ne_of_lt (IsS88.lt (show IsS88 w0 _ g s0_0 t497 t498 from(IsS88.now HI0.out))):g≠gb499));have NB499_0:=ak ((by rw[hg];exact Nat.ne_of_gt (IsS88.lt (show IsS88 w0 _ g s0_0 t497 t498 from(IsS88.now HI0.out))):gb499≠g));replace HI0:=ak (IsS88.below (g:=g) (IsS88.now HI0.out) hb);clear hb hbox hg;have hcz30_0:=bc BK499 0 rfl;have hcz30_1:=bc BK499 1 rfl;have hfz30_0:=bf BK499 0;have hfz30_1:=bf BK499 1)|((with_reducible refine gate_builtin (b:=.append) (xs:=#[.tmp 37,.tmp 39]) rfl ?_);at_builtin;refine R_append k58 w.heap.size rfl (.tmp 37) (.tmp 39) 36 58 (.agg #[(.int .i64 0),(.int .i64 0)]) 16 rfl Try.underlying36 info58 rfl (by decide) (by omega) u5 x5_1 (⟨t496,t482⟩:S58) [.int .i64 t496,.int .i64 t482] (fun k_=>k_≠gb499) (fun _=>False) rfl (by first|(go_simp;done)|(go_simp;rfl)) ?aP (fun _ hk=>hk.elim) ?aF ?aO (Below.refl _ _) ?aS ?aL ?_;(case aP=>exact k58_mkM _ _ _ (⟨t496,t482⟩:S58));(case aF=>exact(fun k_ hk=>Kd.freshB (g:=gb499) (o:=.cells #[.int .i64 t496,.int .i64 t482] 58 (0,0)) (by(with_reducible repeat(first|apply blk_drewN|apply blk_drew|apply blk_alloc));refine blk_put (cs:=#[.int .i64 t496,.int .i64 0]) ?_ 1 _ rfl;(with_reducible repeat(first|apply blk_drewN|apply blk_drew|apply blk_alloc));refine blk_put (cs:=#[.int .i64 0,.int .i64 0]) ?_ 0 _ rfl;exact bm BK499.out) k_ hk));(case aO=>exact(by(with_reducible repeat(first|apply R_alloc|apply R_drewN|apply R_drew));exact R_mono (R_far (p:=⟨gb499,1,none⟩) (R_far (p:=⟨gb499,0,none⟩) (R_mono HO_5.out (fun k_ hk=>(⟨hk,hk.2⟩:_∧k_≠gb499))) (fun _ hk=>hk.2) (.int .i64 t496)) (fun _ hk=>hk.2) (.int .i64 t482)) (fun _ hk=>hk.1.2)));(case aS=>exact(keep_size (w:=w) (g:=g) (row:=none) (kn HK.out)));(case aL=>have:=LMc23.out;omega);intro v501 w31 ho hb hg hat;rw[←Ny500.out]at ho;replace BK475:=ak (blk_grown (g:=gb475) (o:=.cells #[.int .i64 a1_0,.bool a1_1] 27 (0,0)) (by(with_reducible repeat(first|apply blk_drewN|apply blk_drew|apply blk_alloc));refine blk_far ?_ NB475_499.out _;(with_reducible repeat(first|apply blk_drewN|apply blk_drew|apply blk_alloc));refine blk_far ?_ NB475_499.out _;exact bm BK475.out) hg (R_ne HO_5.out BK475.out (by decide)));replace BK499:=ak (blk_grown (g:=gb499) (o:=.cells #[.int .i64 t496,.int .i64 t482] 58 (0,0)) (by(with_reducible repeat(first|apply blk_drewN|apply blk_drew|apply blk_alloc));refine blk_put (cs:=#[.int .i64 t496,.int .i64 0]) ?_ 1 _ rfl;(with_reducible repeat(first|apply blk_drewN|apply blk_drew|apply blk_alloc));refine blk_put (cs:=#[.int .i64 0,.int .i64 0]) ?_ 0 _ rfl;exact bm BK499.out) hg (R_away HO_5.out (fun _ hk=>hk.2)));replace HB:=ak (below_weaken (h3 HB.out (IsS88.ge HI0.out) GE475.out GE499.out) HL.out hb);replace HI0:=ak (IsS88.grown (show IsS88 w0 _ g s0_0 t497 t498 from(IsS88.now HI0.out)) hg (IsS88.own_ne HI0.out HO_5.out (by decide)));replace HK:=ak (KeepBut.trans (kn HK.out) (KeepBut.of_grown hg g) (R_base2 HO_5.out));have HO502:=ak ho;clear HO_5;clear ho hb hg hat))
  go_roundg k1
  case measure=>have:=HK1.out;omega
  case rel=>exact⟨(y500),(wrap64 (x8_1-1)),(t497),(t498),fd,H',⟨by have:=HK1.out;omega⟩,⟨rm (R_mono HO502.out (fun _ hk=>trivial))⟩,⟨bm BK475.out⟩,⟨(IsS88.now HI0.out)⟩,⟨(kn HK.out)⟩,⟨h3 HB.out (IsS88.ge HI0.out) GE475.out GE499.out⟩⟩
 replace c22:=Bool.eq_false_iff.mpr c22
 subst c22
 rw[if_neg (show ¬(false=true)by decide)]at H
 generalize hy503: ([1,2,0,3,5,1]:List Int)=y503 at H
 have Ny503:=ak hy503.symm
 clear hy503
 obtain⟨⟨t506,t507,t508⟩,A32,H⟩:=bd H;(try dsimp only at H)
 obtain⟨c33,H⟩:=gi H
 have LMc33:=Aside0.mk c33
 clear c33
 generalize hy509: (x5_1++[(⟨t496,t506⟩:S58)]:List (S58))=y509 at H
 have Ny509:=ak hy509.symm
 clear hy509
 have H':=Aside0.mk H
 clear H
 have hcz35_0:=bc BK475 0 rfl
 go_wp2_with (first|(refine gs 26 Try.func44 #[.int .i64 a1_0,.int .i64 24] ?_;(with_reducible refine(spec_l1Least.calls a1_0 24 t494 _ A19.out).mono ?_);rintro e w' ⟨rfl,⟨nd,rfl⟩⟩;refine⟨_,rfl,?_⟩;(try(rw[drewN_self wr];generalize hq_:World.drewN wr _=wr;have n0_:Aside0 (Kd.R k58 58 wr w.heap.size (fun _=>True) u5 x5_1):=⟨by rw[←hq_];exact(rm HO_5.out)⟩;have n1_:Aside0 (wr.heap[gb475]? =some (.cells #[.int .i64 a1_0,.bool a1_1] 27 (0,0))):=⟨by rw[←hq_];exact(bm BK475.out)⟩;have n2_:Aside0 (IsS88 w0 wr g s0_0 x1001_1 x1002_1):=⟨by rw[←hq_];exact(IsS88.now HI0.out)⟩;have n3_:Aside0 (KeepBut w wr g none):=⟨by rw[←hq_];exact(kn HK.out)⟩;have n4_:Aside0 (Below w0.heap.size w0 wr):=⟨by rw[←hq_];exact(h2 HB.out (IsS88.ge HI0.out) GE475.out)⟩;clear HO_5 BK475 HI0 HK HB hq_;have HO_5:=n0_;have BK475:=n1_;have HI0:=n2_;have HK:=n3_;have HB:=n4_;clear n0_ n1_ n2_ n3_ n4_)))|(refine gs 27 Try.func43 #[.int .i64 1,.int .i64 t494] ?_;(with_reducible refine(spec_l1Most.calls 1 t494 t495 _ A20.out).mono ?_);rintro e w' ⟨rfl,⟨nd,rfl⟩⟩;refine⟨_,rfl,?_⟩;(try(rw[drewN_self wr];generalize hq_:World.drewN wr _=wr;have n0_:Aside0 (Kd.R k58 58 wr w.heap.size (fun _=>True) u5 x5_1):=⟨by rw[←hq_];exact(rm HO_5.out)⟩;have n1_:Aside0 (wr.heap[gb475]? =some (.cells #[.int .i64 a1_0,.bool a1_1] 27 (0,0))):=⟨by rw[←hq_];exact(bm BK475.out)⟩;have n2_:Aside0 (IsS88 w0 wr g s0_0 x1001_1 x1002_1):=⟨by rw[←hq_];exact(IsS88.now HI0.out)⟩;have n3_:Aside0 (KeepBut w wr g none):=⟨by rw[←hq_];exact(kn HK.out)⟩;have n4_:Aside0 (Below w0.heap.size w0 wr):=⟨by rw[←hq_];exact(h2 HB.out (IsS88.ge HI0.out) GE475.out)⟩;clear HO_5 BK475 HI0 HK HB hq_;have HO_5:=n0_;have BK475:=n1_;have HI0:=n2_;have HK:=n3_;have HB:=n4_;clear n0_ n1_ n2_ n3_ n4_)))|(refine gs 28 Try.func71 #[.pointer (some ⟨g,0,none⟩),.int .i64 t495] ?_;(with_reducible refine(spec_l1Cur_pick.calls g s0_0 x1001_1 x1002_1 t495 t496 t497 t498 w0 _ ?side1 ?side2 A21.out).mono ?_);(case side1=>exact IsS88.now HI0.out);(case side2=>exact h2 HB.out (IsS88.ge HI0.out) GE475.out);rintro e w36 ⟨rfl,hi,hb,hk⟩;refine⟨_,rfl,?_⟩;replace HO_5:=ak (R_mono (R_keep (IsS88.apart (show IsS88 w0 _ g s0_0 x1001_1 x1002_1 from(IsS88.now HI0.out)) (rm HO_5.out) (by decide)) hk (fun _ h=>h.2)) (fun _ h=>h.1));replace BK475:=kk BK475 hk NB475_0;replace HK:=ak (KeepBut.trans (kn HK.out) hk (.inl rfl));replace HB:=ak hb;replace HI0:=ak hi;(try clear hb);(try clear hk);(try clear hi))|(refine bx 9 #[.int .i64 0,.int .i64 0] 58 ?_;intro gb499 hg w37 hbox hb;replace HO_5:=ak (R_below (R_elderB (rm HO_5.out) gb499 (Nat.le_of_eq hg.symm)) hb);replace HB:=ak (below_step (h2 HB.out (IsS88.ge HI0.out) GE475.out) hb);have BK499:=ak hbox;have GW499:=ak ((by rw[hg];exact(keep_size (w:=w) (g:=g) (row:=none) (kn HK.out)):w.heap.size≤gb499));have GE499:=ak ((Nat.le_trans HW0.out (by rw[hg];exact(keep_size (w:=w) (g:=g) (row:=none) (kn HK.out)):w.heap.size≤gb499):w0.heap.size≤gb499));replace HK:=ak (KeepBut.trans (kn HK.out) (KeepBut.of_below hb g none) (.inl rfl));have NB475_499:=nl BK475 hg;have NB499_475:=ng BK475 hg;replace BK475:=kb BK475 hb;have NB0_499:=ak ((by rw[hg];exact Nat.ne_of_lt (IsS88.lt (show IsS88 w0 _ g s0_0 t497 t498 from(IsS88.now HI0.out))):g≠gb499));have NB499_0:=ak ((by rw[hg];exact Nat.ne_of_gt (IsS88.lt (show IsS88 w0 _ g s0_0 t497 t498 from(IsS88.now HI0.out))):gb499≠g));replace HI0:=ak (IsS88.below (g:=g) (IsS88.now HI0.out) hb);clear hb hbox hg;have hcz40_0:=bc BK499 0 rfl;have hcz40_1:=bc BK499 1 rfl;have hfz40_0:=bf BK499 0;have hfz40_1:=bf BK499 1)|((with_reducible refine gate_dst (N:=34) rfl ?_);refine R_lit (Kd.int .i64) _ 3 ?hg (N:=34) ?hd (xs:=([1,2,0,3,5,1]:List Int)) (inner:=[.int .i64 1,.int .i64 2,.int .i64 0,.int .i64 3,.int .i64 5,.int .i64 1]) (ok:=fun _=>True) (okp:=fun _=>True) ?hr ?hp (fun _ hk=>hk) trivial (Below.refl _ _) (Nat.le_refl _) (by simp) ?_;(case hd=>rfl);(case hg=>rfl);(case hr=>first|(go_simp;done)|(go_simp;rfl));(case hp=>exact(Reps.one (show Kd.M (Kd.int .i64) _ _ _ 1 [.int .i64 1]from rfl) (Reps.one (show Kd.M (Kd.int .i64) _ _ _ 2 [.int .i64 2]from rfl) (Reps.one (show Kd.M (Kd.int .i64) _ _ _ 0 [.int .i64 0]from rfl) (Reps.one (show Kd.M (Kd.int .i64) _ _ _ 3 [.int .i64 3]from rfl) (Reps.one (show Kd.M (Kd.int .i64) _ _ _ 5 [.int .i64 5]from rfl) (Reps.one (show Kd.M (Kd.int .i64) _ _ _ 1 [.int .i64 1]from rfl) (Reps.none _ _))))))));intro v504 w41 ho42 hb hg_ hnew_;clear hg_ hnew_;(first|rw[←Ny503.out]at ho42|(simp only[Int.reduceToNat]at ho42;rw[←Ny503.out]at ho42));replace HO_5:=ak (R_below (by(with_reducible repeat(first|apply R_alloc|apply R_drewN|apply R_drew));exact(R_mono (R_far (p:=⟨gb499,1,none⟩) (R_far (p:=⟨gb499,0,none⟩) (R_mono HO_5.out (fun k_ hk=>(⟨hk,hk.2⟩:_∧k_≠gb499))) (fun _ hk=>hk.2) (.int .i64 t496)) (fun _ hk=>hk.2) (.int .i64 t482)) (fun _ h_=>h_.1))) hb);have HO505:=ak (R_lower ho42 (keep_size (w:=w) (g:=g) (row:=none) (kn HK.out)));replace BK475:=ak (blk_below (g:=gb475) (o:=.cells #[.int .i64 a1_0,.bool a1_1] 27 (0,0)) (by(with_reducible repeat(first|apply blk_drewN|apply blk_drew|apply blk_alloc));refine blk_far ?_ NB475_499.out _;(with_reducible repeat(first|apply blk_drewN|apply blk_drew|apply blk_alloc));refine blk_far ?_ NB475_499.out _;exact bm BK475.out) hb);replace BK499:=ak (blk_below (g:=gb499) (o:=.cells #[.int .i64 t496,.int .i64 t482] 58 (0,0)) (by(with_reducible repeat(first|apply blk_drewN|apply blk_drew|apply blk_alloc));refine blk_put (cs:=#[.int .i64 t496,.int .i64 0]) ?_ 1 _ rfl;(with_reducible repeat(first|apply blk_drewN|apply blk_drew|apply blk_alloc));refine blk_put (cs:=#[.int .i64 0,.int .i64 0]) ?_ 0 _ rfl;exact bm BK499.out) hb);replace HK:=ak (KeepBut.trans (kn HK.out) (KeepBut.of_below hb g none) (.inl rfl));replace HB:=ak (below_step (h3 HB.out (IsS88.ge HI0.out) GE475.out GE499.out) hb);replace HI0:=ak (IsS88.below (show IsS88 w0 ((w37.setCell ⟨gb499,0,none⟩ (.int .i64 t496)).setCell ⟨gb499,1,none⟩ (.int .i64 t482)) g s0_0 t497 t498 from(IsS88.now HI0.out)) hb);clear hb ho42;obtain⟨Ao43,co43,eo43⟩:=R_slice HO505.out;subst eo43)|(refine gs 35 Try.func70 #[.pointer (some ⟨g,0,none⟩),.slice Ao43 y503.length co43] ?_;(with_reducible refine(spec_l1Cur_among.calls g s0_0 t497 t498 _ _ y503 t506 t507 t508 w0 _ ?side1 ?side2 ?side3 ?side4 ?side5 A32.out).mono ?_);(case side1=>exact IsS88.now HI0.out);(case side2=>exact h3 HB.out (IsS88.ge HI0.out) GE475.out GE499.out);(case side3=>exact cm (R_reads' HO505.out).2.2);(case side4=>exact(R_reads' HO505.out).2.1);(case side5=>exact far_slice (IsS88.own_ne HI0.out HO505.out (by decide)));rintro e w44 ⟨rfl,hi,hb,hk⟩;refine⟨_,rfl,?_⟩;replace HO_5:=ak (R_mono (R_keep (IsS88.apart (show IsS88 w0 _ g s0_0 t497 t498 from(IsS88.now HI0.out)) (rm HO_5.out) (by decide)) hk (fun _ h=>h.2)) (fun _ h=>h.1));replace BK475:=kk BK475 hk NB475_0;replace BK499:=kk BK499 hk NB499_0;replace HO505:=ak (R_mono (R_keep (IsS88.apart (show IsS88 w0 _ g s0_0 t497 t498 from(IsS88.now HI0.out)) (rm HO505.out) (by decide)) hk (fun _ h=>h.2)) (fun _ h=>h.1));replace HK:=ak (KeepBut.trans (kn HK.out) hk (.inl rfl));replace HB:=ak hb;replace HI0:=ak hi;(try clear hb);(try clear hk);(try clear hi);have hcz45_0:=bc BK499 0 rfl;have hcz45_1:=bc BK499 1 rfl;have hfz45_1:=bf BK499 1)|((with_reducible refine gate_builtin (b:=.append) (xs:=#[.tmp 37,.tmp 39]) rfl ?_);at_builtin;refine R_append k58 w.heap.size rfl (.tmp 37) (.tmp 39) 36 58 (.agg #[(.int .i64 0),(.int .i64 0)]) 16 rfl Try.underlying36 info58 rfl (by decide) (by omega) u5 x5_1 (⟨t496,t506⟩:S58) [.int .i64 t496,.int .i64 t506] (fun k_=>k_≠gb499) (fun _=>False) rfl (by first|(go_simp;done)|(go_simp;rfl)) ?aP (fun _ hk=>hk.elim) ?aF ?aO (Below.refl _ _) ?aS ?aL ?_;(case aP=>exact k58_mkM _ _ _ (⟨t496,t506⟩:S58));(case aF=>exact(fun k_ hk=>Kd.freshB (g:=gb499) (o:=.cells #[.int .i64 t496,.int .i64 t506] 58 (0,0)) (by(with_reducible repeat(first|apply blk_drewN|apply blk_drew|apply blk_alloc));refine blk_put (cs:=#[.int .i64 t496,.int .i64 t482]) ?_ 1 _ rfl;exact bm BK499.out) k_ hk));(case aO=>exact(by(with_reducible repeat(first|apply R_alloc|apply R_drewN|apply R_drew));exact R_mono (R_far (p:=⟨gb499,1,none⟩) (R_mono HO_5.out (fun k_ hk=>(⟨hk,hk.2⟩:_∧k_≠gb499))) (fun _ hk=>hk.2) (.int .i64 t506)) (fun _ hk=>hk.1.2)));(case aS=>exact(keep_size (w:=w) (g:=g) (row:=none) (kn HK.out)));(case aL=>have:=LMc33.out;omega);intro v510 w46 ho hb hg hat;rw[←Ny509.out]at ho;replace BK475:=ak (blk_grown (g:=gb475) (o:=.cells #[.int .i64 a1_0,.bool a1_1] 27 (0,0)) (by(with_reducible repeat(first|apply blk_drewN|apply blk_drew|apply blk_alloc));refine blk_far ?_ NB475_499.out _;exact bm BK475.out) hg (R_ne HO_5.out BK475.out (by decide)));replace HO505:=ak (R_over' (by(with_reducible repeat(first|apply R_alloc|apply R_drewN|apply R_drew));exact(R_mono (R_far (p:=⟨gb499,1,none⟩) (R_types HO505.out BK499.out (by decide)) (fun _ hk=>hk.2) (.int .i64 t506)) (fun _ h_=>h_.1))) (R_typed (by(with_reducible repeat(first|apply R_alloc|apply R_drewN|apply R_drew));exact(R_mono (R_far (p:=⟨gb499,1,none⟩) (R_mono HO_5.out (fun k_ hk=>(⟨hk,hk.2⟩:_∧k_≠gb499))) (fun _ hk=>hk.2) (.int .i64 t506)) (fun _ h_=>h_.1)))) (by decide) hg);replace BK499:=ak (blk_grown (g:=gb499) (o:=.cells #[.int .i64 t496,.int .i64 t506] 58 (0,0)) (by(with_reducible repeat(first|apply blk_drewN|apply blk_drew|apply blk_alloc));refine blk_put (cs:=#[.int .i64 t496,.int .i64 t482]) ?_ 1 _ rfl;exact bm BK499.out) hg (R_away HO_5.out (fun _ hk=>hk.2)));replace HB:=ak (below_weaken (h3 HB.out (IsS88.ge HI0.out) GE475.out GE499.out) HL.out hb);replace HI0:=ak (IsS88.grown (show IsS88 w0 _ g s0_0 t507 t508 from(IsS88.now HI0.out)) hg (IsS88.own_ne HI0.out HO_5.out (by decide)));replace HK:=ak (KeepBut.trans (kn HK.out) (KeepBut.of_grown hg g) (R_base2 HO_5.out));have HO511:=ak ho;clear HO_5;clear ho hb hg hat))
 go_roundg k1
 case measure=>have:=HK1.out;omega
 case rel=>exact⟨(y509),(wrap64 (x8_1-1)),(t507),(t508),fd,H',⟨by have:=HK1.out;omega⟩,⟨rm (R_mono HO511.out (fun _ hk=>trivial))⟩,⟨bm BK475.out⟩,⟨(IsS88.now HI0.out)⟩,⟨(kn HK.out)⟩,⟨h3 HB.out (IsS88.ge HI0.out) GE475.out GE499.out⟩⟩
end
section
open Kd
def spec_DrawCanGuard.f (k:Nat) (l0:List Int):Option (Int × Bool × (List (S58))× Int):=(spec_l1Cur_line9.f l0 0 0).bind fun bt535=>((spec_l1Cur_sensors9.f k l0 bt535.2.2.1 bt535.2.2.2 bt535.1 bt535.2.1).bind fun bt540=>((some (([1,2,0,3,5,24,25,(-1)]:List Int):List Int)).bind fun y545=>((spec_l1Cur_pick.f l0 bt540.2.1 bt540.2.2 24).bind fun bt548=>(if 0≤(wrap64 (5+(wrap64 (Int.tdiv bt548.1 8))))then(if(wrap64 (5+(wrap64 (Int.tdiv bt548.1 8))))≤(y545.length:Int)then((spec_l1Cur_among.f l0 bt548.2.1 bt548.2.2 (y545.take ((wrap64 (5+(wrap64 (Int.tdiv bt548.1 8)))):Int).toNat)).bind fun bt555=>(some (bt535.1,bt535.2.1,bt540.1,bt555.1)))else(none))else(none)))))
theorem spec_DrawCanGuard.mono:∀ a0 k,LeO (spec_DrawCanGuard.f k a0) (spec_DrawCanGuard.f (k+1) a0):=by
 intro a0 k
 unfold spec_DrawCanGuard.f
 repeat' (with_reducible first|exact spec_l1Cur_sensors9.mono ..|exact LeO.refl _|exact LeO.none _|refine LeO.ite ?_ ?_|refine LeO.bind ?_ (fun _=>?_))
def spec_DrawCanGuard.T3:Bool × List (List Nat × List Nat):=(true,[([],[]),([],[]),([],[]),([1,2],[1,2]),([],[]),([],[]),([],[]),([6,3],[6]),([7],[7]),([8],[8]),([5,9],[5,9]),([4,10,7],[4,10]),([0,11,0],[0]),([3,12,0,1,2,3,12],[3]),([11,13,0,1,2,3,4,5,6,7,8,9,10,11,12,13],[11])])
def spec_DrawCanGuard.B3:List Nat:=[0,0,0,6,0,0,0,78,206,462,1006,2046,4095,8191,16383]
theorem spec_DrawCanGuard.tab3:rtab .any (opsOf Try.f33 3)=spec_DrawCanGuard.T3:=by kernel_rfl
theorem spec_DrawCanGuard.bits3:waitsOk spec_DrawCanGuard.T3.2 spec_DrawCanGuard.B3=true:=by kernel_rfl
set_option maxHeartbeats 8000000 in
set_option maxRecDepth 100000 in
theorem spec_DrawCanGuard.calls (k:Nat) (A0:Option Addr) (c0:Nat) (l0:List Int) (r1:Int) (r2:Bool) (r3:List (S58)) (r4:Int) (w:World) (hr0:Kd.C (Kd.int .u8) w A0 l0.length l0) (hc0:l0.length≤c0) (h:spec_DrawCanGuard.f k l0=some (r1,r2,r3,r4)):
  Calls Try.prog 33 #[.slice A0 l0.length c0] w fun e w'=>∃ v2_:Value,e= .returned (.tuple #[.agg #[.int .i64 r1,.bool r2],v2_,.int .i64 r4])∧Kd.R k58 58 w' w.heap.size (fun _=>True) v2_ r3∧Below w.heap.size w w':=by
 have HR0:=Aside0.mk hr0
 clear hr0 hc0
 have HB:=Aside0.mk (Below.refl w.heap.size w)
 unfold spec_DrawCanGuard.f at h
 have H:=h
 clear h
 obtain⟨⟨t535,t536,t537,t538⟩,A2,H⟩:=bd H;(try dsimp only at H)
 obtain⟨⟨t540,t543,t544⟩,A3,H⟩:=bd H;(try dsimp only at H)
 obtain⟨y545,hy545⟩:∃ y_:List Int,y_=(([1,2,0,3,5,24,25,(-1)]:List Int)):=⟨_,rfl⟩
 replace H: ((spec_l1Cur_pick.f l0 t543 t544 24).bind fun bt548=>(if 0≤(wrap64 (5+(wrap64 (Int.tdiv bt548.1 8))))then(if(wrap64 (5+(wrap64 (Int.tdiv bt548.1 8))))≤(y545.length:Int)then((spec_l1Cur_among.f l0 bt548.2.1 bt548.2.2 (y545.take ((wrap64 (5+(wrap64 (Int.tdiv bt548.1 8)))):Int).toNat)).bind fun bt555=>(some (t535,t536,t540,bt555.1)))else(none))else(none)))=some (r1,r2,r3,r4):=by subst hy545;first|(with_reducible exact H)|exact H
 have Ny545:=Aside0.mk hy545
 clear hy545
 obtain⟨⟨t548,t549,t550⟩,A4,H⟩:=bd H;(try dsimp only at H)
 generalize hji5: (wrap64 (5+(wrap64 (Int.tdiv t548 8))))=ji5 at H
 (try rw[hji5]at A2)
 (try rw[hji5]at A3)
 (try rw[hji5]at A4)
 have hji5w: (IntKind.i64.wrap (5+(wrap64 (Int.tdiv t548 8))))=ji5:=(i64_w _).trans hji5
 obtain⟨c6,H⟩:=gi H
 have c6b1:decide (0≤(ji5))=true:=decide_eq_true c6
 clear c6
 obtain⟨c7,H⟩:=gi H
 have c7b1:decide ((ji5)≤(y545.length:Int))=true:=decide_eq_true c7
 clear c7
 generalize hy551: (y545.take ((ji5):Int).toNat:List Int)=y551 at H
 have Ny551:=ak hy551.symm
 clear hy551
 obtain⟨⟨t555,t556,t557⟩,A8,H⟩:=bd H;(try dsimp only at H)
 simp only[Option.some.injEq,Prod.mk.injEq]at H
 obtain⟨rfl,rfl,rfl,rfl⟩:=H
 go_enter Try.func33,Try.ntmps33
 try go_wp2_with (first|(refine bx 2 #[.int .i64 0,.bool false] 27 ?_;intro gb533 hg w9 hbox hb;have BK533:=ak hbox;have GE533:=gw HB hg;replace HB:=bs HB hb;clear hb hbox hg)|(refine bx 9 #[.slice A0 l0.length c0,.int .i64 0,.int .u64 0] 88 ?_;intro gb534 hg w10 hbox hb;have NB533_534:=nl BK533 hg;replace BK533:=kb BK533 hb;have HI534:=ak ((⟨_,_,hbox,(by rw[hg];exact(below_size (h1 HB.out GE533.out)):w.heap.size≤gb534),HR0.out⟩:IsS88 w w10 gb534 l0 0 0));replace HB:=ak (below_step (h1 HB.out GE533.out) hb);clear hb hbox hg)|(refine gs 11 Try.func68 #[.pointer (some ⟨gb534,0,none⟩)] ?_;(with_reducible refine(spec_l1Cur_line9.calls gb534 l0 0 0 t535 t536 t537 t538 w _ ?side1 ?side2 A2.out).mono ?_);(case side1=>exact IsS88.now HI534.out);(case side2=>exact h2 HB.out (IsS88.ge HI534.out) GE533.out);rintro e w11 ⟨rfl,hi,hb,hk⟩;refine⟨_,rfl,?_⟩;replace BK533:=kk BK533 hk NB533_534;replace HB:=ak hb;replace HI534:=ak hi;(try clear hb);(try clear hk);(try clear hi))|(refine bx 6 #[.int .i64 0,.bool false] 27 ?_;intro gb539 hg w12 hbox hb;have BK539:=ak hbox;have GE539:=ak ((by rw[hg];exact(below_size (h2 HB.out (IsS88.ge HI534.out) GE533.out)):w.heap.size≤gb539));replace HB:=ak (below_step (h2 HB.out (IsS88.ge HI534.out) GE533.out) hb);have NB533_539:=nl BK533 hg;have NB539_533:=ng BK533 hg;replace BK533:=kb BK533 hb;have NB534_539:=ak ((by rw[hg];exact Nat.ne_of_lt (IsS88.lt (show IsS88 w _ gb534 l0 t537 t538 from by exact IsS88.now HI534.out)):gb534≠gb539));have NB539_534:=ak ((by rw[hg];exact Nat.ne_of_gt (IsS88.lt (show IsS88 w _ gb534 l0 t537 t538 from by exact IsS88.now HI534.out)):gb539≠gb534));replace HI534:=ak (IsS88.below (by exact IsS88.now HI534.out) hb);clear hb hbox hg;have hcz15_0:=bc BK539 0 rfl;have hcz15_1:=bc BK539 1 rfl;have hfz15_0:=bf BK539 0;have hfz15_1:=bf BK539 1))
 have n0_:Aside0 (((w12.setCell ⟨gb539,0,none⟩ (.int .i64 t535)).setCell ⟨gb539,1,none⟩ (.bool t536)).heap[gb533]? =some (.cells #[.int .i64 0,.bool false] 27 (0,0))):=⟨by(with_reducible repeat(first|apply blk_drewN|apply blk_drew|apply blk_alloc));refine blk_far ?_ NB533_539.out _;(with_reducible repeat(first|apply blk_drewN|apply blk_drew|apply blk_alloc));refine blk_far ?_ NB533_539.out _;exact bm BK533.out⟩
 have n1_:Aside0 (((w12.setCell ⟨gb539,0,none⟩ (.int .i64 t535)).setCell ⟨gb539,1,none⟩ (.bool t536)).heap[gb539]? =some (.cells #[.int .i64 t535,.bool t536] 27 (0,0))):=⟨by(with_reducible repeat(first|apply blk_drewN|apply blk_drew|apply blk_alloc));refine blk_put (cs:=#[.int .i64 t535,.bool false]) ?_ 1 _ rfl;(with_reducible repeat(first|apply blk_drewN|apply blk_drew|apply blk_alloc));refine blk_put (cs:=#[.int .i64 0,.bool false]) ?_ 0 _ rfl;exact bm BK539.out⟩
 have n2_:Aside0 (IsS88 w ((w12.setCell ⟨gb539,0,none⟩ (.int .i64 t535)).setCell ⟨gb539,1,none⟩ (.bool t536)) gb534 l0 t537 t538):=⟨by exact IsS88.now HI534.out⟩
 have n3_:Aside0 (Below w.heap.size w ((w12.setCell ⟨gb539,0,none⟩ (.int .i64 t535)).setCell ⟨gb539,1,none⟩ (.bool t536))):=⟨h3 HB.out (IsS88.ge HI534.out) GE533.out GE539.out⟩
 (try clear BK533)
 (try clear BK539)
 (try clear HI534)
 (try clear HB)
 generalize ((w12.setCell ⟨gb539,0,none⟩ (.int .i64 t535)).setCell ⟨gb539,1,none⟩ (.bool t536))=w16 at n0_ n1_ n2_ n3_⊢
 have BK533:=n0_
 have BK539:=n1_
 have HI534:=n2_
 have HB:=n3_
 clear n0_ n1_ n2_ n3_
 replace BK533:=ak (blk_drew BK533.out)
 replace BK539:=ak (blk_drew BK539.out)
 replace HI534:=ak (IsS88.drew HI534.out)
 replace HB:=ak (below_drew1 HB.out)
 refine start_ (n:=15) (S:=fun w'=>w'.cell? ⟨gb539,0,none⟩=some (.int .i64 t535)∧w'.cell? ⟨gb539,1,none⟩=some (.bool t536)) (ds:=[]) (lb 15 0) (by kernel_rfl) rfl rfl ⟨bc BK539 0 rfl,bc BK539 1 rfl⟩ (fun hHeld=>?_);refine with_tabW spec_DrawCanGuard.tab3 spec_DrawCanGuard.bits3 (fun HT_ HW_=>?_)
 generalize w16.drew=w17 at BK533 BK539 HI534 HB hHeld⊢
 refine pq 1 (N:=some 13) (lb 15 2) HT_ ?_
 refine pq 4 (N:=some 16) (lb 15 18) HT_ ?_
 refine pq 6 (N:=some 18) (lb 15 82) HT_ ?_
 refine tq 0 (N:=some 12) (lb 15 83) HT_ HW_ hHeld ?_
 refine tq 2 (N:=some 14) (lb 15 87) HT_ HW_ hHeld ?_
 refine join_ (σ:=Value × Value) 5 (lb 15 1023) (fun s_=>[(15,s_.1),(17,s_.2),(19,.int .i64 t548),(20,.int .i64 (wrap64 (Int.tdiv t548 8))),(21,.int .i64 ji5)]) (fun s_ w'=>(w'.cell? ⟨gb539,0,none⟩=some (.int .i64 t535)∧w'.cell? ⟨gb539,1,none⟩=some (.bool t536))∧(Kd.R k58 58 w' w.heap.size (fun _=>True) s_.1 t540)∧(Kd.R (Kd.int .i64) 3 w' w.heap.size (fun _=>True) s_.2 y545)∧(w'.heap[gb533]? =some (.cells #[.int .i64 0,.bool false] 27 (0,0)))∧(w'.heap[gb539]? =some (.cells #[.int .i64 t535,.bool t536] 27 (0,0)))∧(IsS88 w w' gb534 l0 t549 t550)∧(Below w.heap.size w w')) ?_ ?_
 rotate_left
 ·intro hCont
  refine two_ (i:=3) (j:=5) (Ni:=some 15) (Nj:=some 17) (lb 15 95) (lb 15 119) rfl rfl rfl rfl (two_of HT_.out (by kernel_rfl)) (by decide) (by decide) (fun K hK=>?_) (fun K hK=>?_)
  rotate_left
  ·skip
   refine R_lit_step (Kd.int .i64) _ 3 ?hg (N:=17) ?hd (xs:=([1,2,0,3,5,24,25,(-1)]:List Int)) (inner:=[.int .i64 1,.int .i64 2,.int .i64 0,.int .i64 3,.int .i64 5,.int .i64 24,.int .i64 25,.int .i64 (-1)]) (ok:=fun _=>True) (okp:=fun _=>True) ?hr ?hp (fun _ hk=>hk) trivial (Below.refl _ _) (Nat.le_refl _) (by simp) ?_;(case hd=>rfl);(case hg=>rfl);(case hr=>first|(go_simp;done)|(go_simp;rfl));(case hp=>exact(Reps.one (show Kd.M (Kd.int .i64) _ _ _ 1 [.int .i64 1]from rfl) (Reps.one (show Kd.M (Kd.int .i64) _ _ _ 2 [.int .i64 2]from rfl) (Reps.one (show Kd.M (Kd.int .i64) _ _ _ 0 [.int .i64 0]from rfl) (Reps.one (show Kd.M (Kd.int .i64) _ _ _ 3 [.int .i64 3]from rfl) (Reps.one (show Kd.M (Kd.int .i64) _ _ _ 5 [.int .i64 5]from rfl) (Reps.one (show Kd.M (Kd.int .i64) _ _ _ 24 [.int .i64 24]from rfl) (Reps.one (show Kd.M (Kd.int .i64) _ _ _ 25 [.int .i64 25]from rfl) (Reps.one (show Kd.M (Kd.int .i64) _ _ _ (-1) [.int .i64 (-1)]from rfl) (Reps.none _ _))))))))))
   intro v546 w18 ho19 hb hg_ hnew_
   clear hg_ hnew_
   (first|rw[←Ny545.out]at ho19|(simp only[Int.reduceToNat]at ho19;rw[←Ny545.out]at ho19))
   have HO547:=ak (R_lower ho19 (below_size (h3 HB.out (IsS88.ge HI534.out) GE533.out GE539.out)))
   replace BK533:=kb BK533 hb
   replace BK539:=kb BK539 hb
   replace HB:=ak (below_step (h3 HB.out (IsS88.ge HI534.out) GE533.out GE539.out) hb)
   replace HI534:=ak (IsS88.below (by exact IsS88.now HI534.out) hb)
   clear hb ho19
   refine hK.out _ _ ⟨bc BK539 0 rfl,bc BK539 1 rfl⟩ (fun hHeld=>?_)
   clear hK K
   refine norm_ (a':=?_) ?_ ?_
   rotate_left
   ·show Act.put _ (some 17) _=_
    simp only[ap]
    rfl
   refine one_ (i:=3) (N:=some 15) (lb 15 127) rfl rfl (one_of HT_.out (by kernel_rfl)) (by decide) (fun K hK=>?_)
   refine goes_ Try.func69 (by kernel_rfl) rfl #[.pointer (some ⟨gb534,0,none⟩),.agg #[.int .i64 t535,.bool t536]] (by rfl) rfl rfl gl ?_
   with_reducible refine(spec_l1Cur_sensors9.calls k gb534 l0 t537 t538 t535 t536 t540 t543 t544 w _ ?side1 ?side2 A3.out).mono ?_
   (case side1=>exact IsS88.now HI534.out)
   (case side2=>exact h3 HB.out (IsS88.ge HI534.out) GE533.out GE539.out)
   rintro e w20 ⟨v541,rfl,ho0,hi,hb,hk⟩
   refine⟨_,rfl,?_⟩
   replace BK533:=kk BK533 hk NB533_534
   replace BK539:=kk BK539 hk NB539_534
   replace HO547:=ak (R_mono (R_keep (IsS88.apart (show IsS88 w _ gb534 l0 t537 t538 from by exact IsS88.now HI534.out) (rm HO547.out) (by decide)) hk (fun _ h=>h.2)) (fun _ h=>h.1))
   have HO542:=ak (R_lower ho0 (below_size (h3 HB.out (IsS88.ge HI534.out) GE533.out GE539.out)))
   replace HB:=ak hb
   replace HI534:=ak hi
   (try clear hb)
   (try clear hb2)
   (try clear hk)
   (try clear hi)
   (try clear ho0)
   refine hK.out _ _ ⟨bc BK539 0 rfl,bc BK539 1 rfl⟩ (fun hHeld=>?_)
   clear hK K
   refine norm_ (a':=?_) ?_ ?_
   rotate_left
   ·show Act.put _ (some 15) _=_
    simp only[ap]
    rfl
   refine one_ (i:=7) (N:=some 19) (lb 15 255) rfl rfl (one_of HT_.out (by kernel_rfl)) (by decide) (fun K hK=>?_)
   refine goes_ Try.func71 (by kernel_rfl) rfl #[.pointer (some ⟨gb534,0,none⟩),.int .i64 24] (by rfl) rfl rfl gl ?_
   with_reducible refine(spec_l1Cur_pick.calls gb534 l0 t543 t544 24 t548 t549 t550 w _ ?side1 ?side2 A4.out).mono ?_
   (case side1=>exact IsS88.now HI534.out)
   (case side2=>exact h3 HB.out (IsS88.ge HI534.out) GE533.out GE539.out)
   rintro e w21 ⟨rfl,hi,hb,hk⟩
   refine⟨_,rfl,?_⟩
   replace BK533:=kk BK533 hk NB533_534
   replace BK539:=kk BK539 hk NB539_534
   replace HO547:=ak (R_mono (R_keep (IsS88.apart (show IsS88 w _ gb534 l0 t543 t544 from by exact IsS88.now HI534.out) (rm HO547.out) (by decide)) hk (fun _ h=>h.2)) (fun _ h=>h.1))
   replace HO542:=ak (R_mono (R_keep (IsS88.apart (show IsS88 w _ gb534 l0 t543 t544 from by exact IsS88.now HI534.out) (rm HO542.out) (by decide)) hk (fun _ h=>h.2)) (fun _ h=>h.1))
   replace HB:=ak hb
   replace HI534:=ak hi
   (try clear hb)
   (try clear hb2)
   (try clear hk)
   (try clear hi)
   refine hK.out _ _ ⟨bc BK539 0 rfl,bc BK539 1 rfl⟩ (fun hHeld=>?_)
   clear hK K
   refine norm_ (a':=?_) ?_ ?_
   rotate_left
   ·show Act.put _ (some 19) _=_
    simp only[ap]
    rfl
   refine pq 8 (N:=some 20) (lb 15 511) HT_ ?_
   refine pq 9 (N:=some 21) (lb 15 1023) HT_ ?_
   exact norm_ (by simp only[putAll,Act.put,List.setIfInBounds_toArray,List.set_cons_zero,List.set_cons_succ]) (hCont (v541,v546) _ ⟨hHeld,(rm HO542.out),(rm HO547.out),(bm BK533.out),(bm BK539.out),(by exact IsS88.now HI534.out),(h3 HB.out (IsS88.ge HI534.out) GE533.out GE539.out)⟩)
  skip
  refine goes_ Try.func69 (by kernel_rfl) rfl #[.pointer (some ⟨gb534,0,none⟩),.agg #[.int .i64 t535,.bool t536]] (by rfl) rfl rfl gl ?_
  with_reducible refine(spec_l1Cur_sensors9.calls k gb534 l0 t537 t538 t535 t536 t540 t543 t544 w _ ?side1 ?side2 A3.out).mono ?_
  (case side1=>exact IsS88.now HI534.out)
  (case side2=>exact h3 HB.out (IsS88.ge HI534.out) GE533.out GE539.out)
  rintro e w18 ⟨v541,rfl,ho0,hi,hb,hk⟩
  refine⟨_,rfl,?_⟩
  replace BK533:=kk BK533 hk NB533_534
  replace BK539:=kk BK539 hk NB539_534
  have HO542:=ak (R_lower ho0 (below_size (h3 HB.out (IsS88.ge HI534.out) GE533.out GE539.out)))
  replace HB:=ak hb
  replace HI534:=ak hi
  (try clear hb)
  (try clear hb2)
  (try clear hk)
  (try clear hi)
  (try clear ho0)
  refine hK.out _ _ ⟨bc BK539 0 rfl,bc BK539 1 rfl⟩ (fun hHeld=>?_)
  clear hK K
  refine norm_ (a':=?_) ?_ ?_
  rotate_left
  ·show Act.put _ (some 15) _=_
   simp only[ap]
   rfl
  refine two_ (i:=5) (j:=7) (Ni:=some 17) (Nj:=some 19) (lb 15 127) (lb 15 223) rfl rfl rfl rfl (two_of HT_.out (by kernel_rfl)) (by decide) (by decide) (fun K hK=>?_) (fun K hK=>?_)
  rotate_left
  ·skip
   refine goes_ Try.func71 (by kernel_rfl) rfl #[.pointer (some ⟨gb534,0,none⟩),.int .i64 24] (by rfl) rfl rfl gl ?_
   with_reducible refine(spec_l1Cur_pick.calls gb534 l0 t543 t544 24 t548 t549 t550 w _ ?side1 ?side2 A4.out).mono ?_
   (case side1=>exact IsS88.now HI534.out)
   (case side2=>exact h3 HB.out (IsS88.ge HI534.out) GE533.out GE539.out)
   rintro e w19 ⟨rfl,hi,hb,hk⟩
   refine⟨_,rfl,?_⟩
   replace BK533:=kk BK533 hk NB533_534
   replace BK539:=kk BK539 hk NB539_534
   replace HO542:=ak (R_mono (R_keep (IsS88.apart (show IsS88 w _ gb534 l0 t543 t544 from by exact IsS88.now HI534.out) (rm HO542.out) (by decide)) hk (fun _ h=>h.2)) (fun _ h=>h.1))
   replace HB:=ak hb
   replace HI534:=ak hi
   (try clear hb)
   (try clear hb2)
   (try clear hk)
   (try clear hi)
   refine hK.out _ _ ⟨bc BK539 0 rfl,bc BK539 1 rfl⟩ (fun hHeld=>?_)
   clear hK K
   refine norm_ (a':=?_) ?_ ?_
   rotate_left
   ·show Act.put _ (some 19) _=_
    simp only[ap]
    rfl
   refine pq 8 (N:=some 20) (lb 15 479) HT_ ?_
   refine pq 9 (N:=some 21) (lb 15 991) HT_ ?_
   refine one_ (i:=5) (N:=some 17) (lb 15 1023) rfl rfl (one_of HT_.out (by kernel_rfl)) (by decide) (fun K hK=>?_)
   refine R_lit_step (Kd.int .i64) _ 3 ?hg (N:=17) ?hd (xs:=([1,2,0,3,5,24,25,(-1)]:List Int)) (inner:=[.int .i64 1,.int .i64 2,.int .i64 0,.int .i64 3,.int .i64 5,.int .i64 24,.int .i64 25,.int .i64 (-1)]) (ok:=fun _=>True) (okp:=fun _=>True) ?hr ?hp (fun _ hk=>hk) trivial (Below.refl _ _) (Nat.le_refl _) (by simp) ?_;(case hd=>rfl);(case hg=>rfl);(case hr=>first|(go_simp;done)|(go_simp;rfl));(case hp=>exact(Reps.one (show Kd.M (Kd.int .i64) _ _ _ 1 [.int .i64 1]from rfl) (Reps.one (show Kd.M (Kd.int .i64) _ _ _ 2 [.int .i64 2]from rfl) (Reps.one (show Kd.M (Kd.int .i64) _ _ _ 0 [.int .i64 0]from rfl) (Reps.one (show Kd.M (Kd.int .i64) _ _ _ 3 [.int .i64 3]from rfl) (Reps.one (show Kd.M (Kd.int .i64) _ _ _ 5 [.int .i64 5]from rfl) (Reps.one (show Kd.M (Kd.int .i64) _ _ _ 24 [.int .i64 24]from rfl) (Reps.one (show Kd.M (Kd.int .i64) _ _ _ 25 [.int .i64 25]from rfl) (Reps.one (show Kd.M (Kd.int .i64) _ _ _ (-1) [.int .i64 (-1)]from rfl) (Reps.none _ _))))))))))
   intro v546 w20 ho21 hb hg_ hnew_
   clear hg_ hnew_
   (first|rw[←Ny545.out]at ho21|(simp only[Int.reduceToNat]at ho21;rw[←Ny545.out]at ho21))
   replace HO542:=rb HO542 hb
   have HO547:=ak (R_lower ho21 (below_size (h3 HB.out (IsS88.ge HI534.out) GE533.out GE539.out)))
   replace BK533:=kb BK533 hb
   replace BK539:=kb BK539 hb
   replace HB:=ak (below_step (h3 HB.out (IsS88.ge HI534.out) GE533.out GE539.out) hb)
   replace HI534:=ak (IsS88.below (by exact IsS88.now HI534.out) hb)
   clear hb ho21
   refine hK.out _ _ ⟨bc BK539 0 rfl,bc BK539 1 rfl⟩ (fun hHeld=>?_)
   clear hK K
   refine norm_ (a':=?_) ?_ ?_
   rotate_left
   ·show Act.put _ (some 17) _=_
    simp only[ap]
    rfl
   exact norm_ (by simp only[putAll,Act.put,List.setIfInBounds_toArray,List.set_cons_zero,List.set_cons_succ]) (hCont (v541,v546) _ ⟨hHeld,(rm HO542.out),(rm HO547.out),(bm BK533.out),(bm BK539.out),(by exact IsS88.now HI534.out),(h3 HB.out (IsS88.ge HI534.out) GE533.out GE539.out)⟩)
  skip
  refine R_lit_step (Kd.int .i64) _ 3 ?hg (N:=17) ?hd (xs:=([1,2,0,3,5,24,25,(-1)]:List Int)) (inner:=[.int .i64 1,.int .i64 2,.int .i64 0,.int .i64 3,.int .i64 5,.int .i64 24,.int .i64 25,.int .i64 (-1)]) (ok:=fun _=>True) (okp:=fun _=>True) ?hr ?hp (fun _ hk=>hk) trivial (Below.refl _ _) (Nat.le_refl _) (by simp) ?_;(case hd=>rfl);(case hg=>rfl);(case hr=>first|(go_simp;done)|(go_simp;rfl));(case hp=>exact(Reps.one (show Kd.M (Kd.int .i64) _ _ _ 1 [.int .i64 1]from rfl) (Reps.one (show Kd.M (Kd.int .i64) _ _ _ 2 [.int .i64 2]from rfl) (Reps.one (show Kd.M (Kd.int .i64) _ _ _ 0 [.int .i64 0]from rfl) (Reps.one (show Kd.M (Kd.int .i64) _ _ _ 3 [.int .i64 3]from rfl) (Reps.one (show Kd.M (Kd.int .i64) _ _ _ 5 [.int .i64 5]from rfl) (Reps.one (show Kd.M (Kd.int .i64) _ _ _ 24 [.int .i64 24]from rfl) (Reps.one (show Kd.M (Kd.int .i64) _ _ _ 25 [.int .i64 25]from rfl) (Reps.one (show Kd.M (Kd.int .i64) _ _ _ (-1) [.int .i64 (-1)]from rfl) (Reps.none _ _))))))))))
  intro v546 w19 ho20 hb hg_ hnew_
  clear hg_ hnew_
  (first|rw[←Ny545.out]at ho20|(simp only[Int.reduceToNat]at ho20;rw[←Ny545.out]at ho20))
  replace HO542:=rb HO542 hb
  have HO547:=ak (R_lower ho20 (below_size (h3 HB.out (IsS88.ge HI534.out) GE533.out GE539.out)))
  replace BK533:=kb BK533 hb
  replace BK539:=kb BK539 hb
  replace HB:=ak (below_step (h3 HB.out (IsS88.ge HI534.out) GE533.out GE539.out) hb)
  replace HI534:=ak (IsS88.below (by exact IsS88.now HI534.out) hb)
  clear hb ho20
  refine hK.out _ _ ⟨bc BK539 0 rfl,bc BK539 1 rfl⟩ (fun hHeld=>?_)
  clear hK K
  refine norm_ (a':=?_) ?_ ?_
  rotate_left
  ·show Act.put _ (some 17) _=_
   simp only[ap]
   rfl
  refine one_ (i:=7) (N:=some 19) (lb 15 255) rfl rfl (one_of HT_.out (by kernel_rfl)) (by decide) (fun K hK=>?_)
  refine goes_ Try.func71 (by kernel_rfl) rfl #[.pointer (some ⟨gb534,0,none⟩),.int .i64 24] (by rfl) rfl rfl gl ?_
  with_reducible refine(spec_l1Cur_pick.calls gb534 l0 t543 t544 24 t548 t549 t550 w _ ?side1 ?side2 A4.out).mono ?_
  (case side1=>exact IsS88.now HI534.out)
  (case side2=>exact h3 HB.out (IsS88.ge HI534.out) GE533.out GE539.out)
  rintro e w21 ⟨rfl,hi,hb,hk⟩
  refine⟨_,rfl,?_⟩
  replace BK533:=kk BK533 hk NB533_534
  replace BK539:=kk BK539 hk NB539_534
  replace HO542:=ak (R_mono (R_keep (IsS88.apart (show IsS88 w _ gb534 l0 t543 t544 from by exact IsS88.now HI534.out) (rm HO542.out) (by decide)) hk (fun _ h=>h.2)) (fun _ h=>h.1))
  replace HO547:=ak (R_mono (R_keep (IsS88.apart (show IsS88 w _ gb534 l0 t543 t544 from by exact IsS88.now HI534.out) (rm HO547.out) (by decide)) hk (fun _ h=>h.2)) (fun _ h=>h.1))
  replace HB:=ak hb
  replace HI534:=ak hi
  (try clear hb)
  (try clear hb2)
  (try clear hk)
  (try clear hi)
  refine hK.out _ _ ⟨bc BK539 0 rfl,bc BK539 1 rfl⟩ (fun hHeld=>?_)
  clear hK K
  refine norm_ (a':=?_) ?_ ?_
  rotate_left
  ·show Act.put _ (some 19) _=_
   simp only[ap]
   rfl
  refine pq 8 (N:=some 20) (lb 15 511) HT_ ?_
  refine pq 9 (N:=some 21) (lb 15 1023) HT_ ?_
  exact norm_ (by simp only[putAll,Act.put,List.setIfInBounds_toArray,List.set_cons_zero,List.set_cons_succ]) (hCont (v541,v546) _ ⟨hHeld,(rm HO542.out),(rm HO547.out),(bm BK533.out),(bm BK539.out),(by exact IsS88.now HI534.out),(h3 HB.out (IsS88.ge HI534.out) GE533.out GE539.out)⟩)
 rintro⟨v541,v546⟩ w22 ⟨hS_,h0_,h1_,h2_,h3_,h4_,h5_⟩
 have n0_:Aside0 (Kd.R k58 58 w22 w.heap.size (fun _=>True) v541 t540):=⟨h0_⟩
 have n1_:Aside0 (Kd.R (Kd.int .i64) 3 w22 w.heap.size (fun _=>True) v546 y545):=⟨h1_⟩
 have n2_:Aside0 (w22.heap[gb533]? =some (.cells #[.int .i64 0,.bool false] 27 (0,0))):=⟨h2_⟩
 have n3_:Aside0 (w22.heap[gb539]? =some (.cells #[.int .i64 t535,.bool t536] 27 (0,0))):=⟨h3_⟩
 have n4_:Aside0 (IsS88 w w22 gb534 l0 t549 t550):=⟨h4_⟩
 have n5_:Aside0 (Below w.heap.size w w22):=⟨h5_⟩
 clear BK533
 clear BK539
 clear HI534
 clear HB
 clear h0_ h1_ h2_ h3_ h4_ h5_
 have HO542:=n0_
 have HO547:=n1_
 have BK533:=n2_
 have BK539:=n3_
 have HI534:=n4_
 have HB:=n5_
 clear n0_ n1_ n2_ n3_ n4_ n5_
 obtain⟨Ao24,co24,eo24⟩:=R_slice HO547.out
 (first|subst eo24|(injection eo24 with f1_ f2_ f3_;have f4_:=f1_.symm;have f5_:=f3_.symm;clear f1_ f2_ f3_;subst f4_;subst f5_))
 have q23: ((ji5):Int)≤((y545.length:Int):Int):=od
 obtain⟨i023,hi023,_,hsz23,_⟩:=info_parts info3
 have hroom23:y545.length≤co24:=(R_reads' HO547.out).2.1
 have hC23:Kd.C (Kd.int .i64) _ Ao24 y545.length y545:=(R_reads' HO547.out).2.2
 have hcut23:=cut_to (P:=Try.prog) 24 3 .i64 Try.underlying24 hi023 Ao24 y545.length co24 (ji5) (od) q23 hroom23
 have hr23:=C_take (m:=((ji5):Int).toNat) hC23 (by omega)
 have hy23:y551.length=((ji5):Int).toNat:=(by rw[Ny551.out,List.length_take];omega)
 rw[←Ny551.out]at hr23
 rw[←hy23]at hcut23
 have HR554:=Aside0.mk hr23
 have HC554:=Aside0.mk (show y551.length≤co24 from by omega)
 clear hr23 hC23 hroom23 hi023 hsz23
 clear hy23
 replace q23:=eq_true q23
 refine norm_ (a':=?_) ?_ ?_
 rotate_left
 ·simp only[putAll,Act.put,List.setIfInBounds_toArray,List.set_cons_zero,List.set_cons_succ]
  rfl
 refine pq 10 (N:=some 22) (lb 15 2047) HT_ ?_
 refine one_ (i:=11) (N:=some 23) (lb 15 4095) rfl rfl (one_of HT_.out (by kernel_rfl)) (by decide) (fun K hK=>?_)
 refine goes_ Try.func70 (by kernel_rfl) rfl #[.pointer (some ⟨gb534,0,none⟩),.slice Ao24 y551.length co24] (by rfl) rfl rfl gl ?_
 with_reducible refine(spec_l1Cur_among.calls gb534 l0 t549 t550 _ _ y551 t555 t556 t557 w _ ?side1 ?side2 ?side3 ?side4 ?side5 A8.out).mono ?_
 (case side1=>exact IsS88.now HI534.out)
 (case side2=>exact h3 HB.out (IsS88.ge HI534.out) GE533.out GE539.out)
 (case side3=>repeat(first|exact(by repeat(first|(with_reducible exact HR554.out)|(with_reducible refine C_alloc ?_ _)|(with_reducible refine C_drewN ?_ _)|(with_reducible refine C_drew ?_)|exact HR554.out))|(with_reducible refine C_alloc ?_ _)|(with_reducible refine C_drewN ?_ _)|(with_reducible refine C_drew ?_)))
 (case side4=>exact HC554.out)
 (case side5=>exact far_cut (IsS88.own_ne HI534.out HO547.out (by decide)))
 rintro e w25 ⟨rfl,hi,hb,hk⟩
 refine⟨_,rfl,?_⟩
 replace BK533:=kk BK533 hk NB533_534
 replace BK539:=kk BK539 hk NB539_534
 replace HO542:=ak (R_mono (R_keep (IsS88.apart (show IsS88 w _ gb534 l0 t549 t550 from by exact IsS88.now HI534.out) (rm HO542.out) (by decide)) hk (fun _ h=>h.2)) (fun _ h=>h.1))
 replace HO547:=ak (R_mono (R_keep (IsS88.apart (show IsS88 w _ gb534 l0 t549 t550 from by exact IsS88.now HI534.out) (rm HO547.out) (by decide)) hk (fun _ h=>h.2)) (fun _ h=>h.1))
 replace HB:=ak hb
 replace HI534:=ak hi
 (try clear hb)
 (try clear hb2)
 (try clear hk)
 (try clear hi)
 refine hK.out _ _ ⟨bc BK539 0 rfl,bc BK539 1 rfl⟩ (fun hHeld=>?_)
 clear hK K
 refine norm_ (a':=?_) ?_ ?_
 rotate_left
 ·show Act.put _ (some 23) _=_
  simp only[ap]
  rfl
 refine one_ (i:=12) (N:=none) (lb 15 8191) rfl rfl (one_of HT_.out (by kernel_rfl)) (by decide) (fun K hK=>?_)
 have hs26:w25.cell? ⟨gb533,0,none⟩=some (.int .i64 0):=bc BK533 0 rfl
 have hfs26:=blk_frozen BK533.out 0
 have hs27:w25.cell? ⟨gb533,1,none⟩=some (.bool false):=bc BK533 1 rfl
 have hfs27:=blk_frozen BK533.out 1
 refine skip_ (w1:=?_) (by rfl) rfl ?_ ?_
 rotate_left
 ·go_simp
  rfl
 refine hK.out _ _ ⟨((cell_far (p:=⟨gb533,_,none⟩) NB539_533.out _).trans (((cell_far (p:=⟨gb533,_,none⟩) NB539_533.out _).trans (hHeld.1)))),((cell_far (p:=⟨gb533,_,none⟩) NB539_533.out _).trans (((cell_far (p:=⟨gb533,_,none⟩) NB539_533.out _).trans (hHeld.2))))⟩ (fun hHeld=>?_)
 clear hK K
 refine pq 13 (N:=some 3) (lb 15 16383) HT_ ?_
 refine pq 14 (N:=some 4) (lb 15 32767) HT_ ?_
 refine done_ (done_of HT_.out (by kernel_rfl)) ?_
 try go_wp2
 refine bodyPost_ret (results_ctt rfl _ _ gb533 27 #[.int .i64 t535,.bool t536] (0,0) _ rfl (by(with_reducible repeat(first|apply blk_drewN|apply blk_drew|apply blk_alloc));refine blk_put (cs:=#[.int .i64 t535,.bool false]) ?_ 1 _ rfl;(with_reducible repeat(first|apply blk_drewN|apply blk_drew|apply blk_alloc));refine blk_put (cs:=#[.int .i64 0,.bool false]) ?_ 0 _ rfl;exact bm BK533.out) Try.underlying27 rfl (by kernel_rfl)) rfl ?_
 exact⟨_,by first|rfl|(simp[errW_none,errW_some]<;>rfl)|(simp only[←hji5];first|rfl|(simp[errW_none,errW_some]<;>rfl))|(simp[*,errW_none,errW_some]<;>rfl),by(with_reducible repeat(first|apply R_alloc|apply R_drewN|apply R_drew));exact R_mono (R_far (p:=⟨gb533,1,none⟩) (R_far (p:=⟨gb533,0,none⟩) (R_types HO542.out BK533.out (by decide)) (fun _ hk=>hk.2) (.int .i64 t535)) (fun _ hk=>hk.2) (.bool t536)) (fun _ hk=>trivial),h3 HB.out (IsS88.ge HI534.out) GE533.out GE539.out⟩
def spec_l1Cur_placeOn.f (s0_0:List Int) (s0_1:Int) (s0_2:Int) (a1_0:Int) (a1_1:Bool):Option (Int × Int × Int):=(spec_l1Cur_one.f s0_0 s0_1 s0_2 30).bind fun bt559=>(if bt559.1=true then((spec_l1Cur_among.f s0_0 bt559.2.1 bt559.2.2 (([(-1),0,a1_0,wrap64 (a1_0-1),4611686018427387904]:List Int))).bind fun bt565=>(some (bt565.1,bt565.2.1,bt565.2.2)))else((spec_l1Least.f a1_0 24).bind fun t568=>((spec_l1Most.f t568 1).bind fun t569=>((spec_l1Cur_pick.f s0_0 bt559.2.1 bt559.2.2 t569).bind fun bt570=>(some (bt570.1,bt570.2.1,bt570.2.2))))))
set_option maxHeartbeats 8000000 in
set_option maxRecDepth 100000 in
theorem spec_l1Cur_placeOn.calls (g:Nat) (s0_0:List Int) (s0_1:Int) (s0_2:Int) (a1_0:Int) (a1_1:Bool) (r1:Int) (r2:Int) (r3:Int) (w0 w:World) (hI:IsS88 w0 w g s0_0 s0_1 s0_2) (hB:Below w0.heap.size w0 w) (h:spec_l1Cur_placeOn.f s0_0 s0_1 s0_2 a1_0 a1_1=some (r1,r2,r3)):
  Calls Try.prog 73 #[.pointer (some ⟨g,0,none⟩),.agg #[.int .i64 a1_0,.bool a1_1]] w fun e w'=>e= .returned (.int .i64 r1)∧IsS88 w0 w' g s0_0 r2 r3∧Below w0.heap.size w0 w'∧KeepBut w w' g none:=by
 have HI0:=Aside0.mk hI
 have HK:=Aside0.mk (KeepBut.refl w g none)
 clear hI
 have HW0:=Aside0.mk hB.size
 have HB:=Aside0.mk hB
 clear hB
 unfold spec_l1Cur_placeOn.f at h
 have H:=h
 clear h
 obtain⟨⟨t559,t560,t561⟩,A3,H⟩:=bd H;(try dsimp only at H)
 by_cases c4:t559=true
 rotate_left
 ·replace c4:=Bool.eq_false_iff.mpr c4
  subst c4
  rw[if_neg (show ¬(false=true)by decide)]at H
  obtain⟨t568,A14,H⟩:=bd H;(try dsimp only at H)
  obtain⟨t569,A15,H⟩:=bd H;(try dsimp only at H)
  obtain⟨⟨t570,t571,t572⟩,A16,H⟩:=bd H;(try dsimp only at H)
  simp only[Option.some.injEq,Prod.mk.injEq]at H
  obtain⟨rfl,rfl,rfl⟩:=H
  go_enter Try.func73,Try.ntmps73
  go_wp2_with (first|(refine bx 3 #[.int .i64 a1_0,.bool a1_1] 27 ?_;intro gb558 hg w17 hbox hb;replace HB:=ak (below_step (h1 HB.out (IsS88.ge HI0.out)) hb);have BK558:=ak hbox;have GE558:=ak ((Nat.le_trans HW0.out (by rw[hg];exact(keep_size (w:=w) (g:=g) (row:=none) (kn HK.out)):w.heap.size≤gb558):w0.heap.size≤gb558));replace HK:=ak (KeepBut.trans (kn HK.out) (KeepBut.of_below hb g none) (.inl rfl));have NB0_558:=ak ((by rw[hg];exact Nat.ne_of_lt (IsS88.lt (show IsS88 w0 _ g s0_0 s0_1 s0_2 from(IsS88.now HI0.out))):g≠gb558));have NB558_0:=ak ((by rw[hg];exact Nat.ne_of_gt (IsS88.lt (show IsS88 w0 _ g s0_0 s0_1 s0_2 from(IsS88.now HI0.out))):gb558≠g));replace HI0:=ak (IsS88.below (g:=g) (IsS88.now HI0.out) hb);clear hb hbox hg)|(refine gs 6 Try.func72 #[.pointer (some ⟨g,0,none⟩),.int .i64 30] ?_;(with_reducible refine(spec_l1Cur_one.calls g s0_0 s0_1 s0_2 30 false t560 t561 w0 _ ?side1 ?side2 A3.out).mono ?_);(case side1=>exact IsS88.now HI0.out);(case side2=>exact h2 HB.out (IsS88.ge HI0.out) GE558.out);rintro e w18 ⟨rfl,hi,hb,hk⟩;refine⟨_,rfl,?_⟩;replace BK558:=kk BK558 hk NB558_0;replace HK:=ak (KeepBut.trans (kn HK.out) hk (.inl rfl));replace HB:=ak hb;replace HI0:=ak hi;(try clear hb);(try clear hk);(try clear hi);have hcz20_0:=bc BK558 0 rfl)|(refine gs 18 Try.func44 #[.int .i64 a1_0,.int .i64 24] ?_;(with_reducible refine(spec_l1Least.calls a1_0 24 t568 _ A14.out).mono ?_);rintro e w' ⟨rfl,⟨nd,rfl⟩⟩;refine⟨_,rfl,?_⟩)|(refine gs 19 Try.func43 #[.int .i64 t568,.int .i64 1] ?_;(with_reducible refine(spec_l1Most.calls t568 1 t569 _ A15.out).mono ?_);rintro e w' ⟨rfl,⟨nd,rfl⟩⟩;refine⟨_,rfl,?_⟩)|(refine gs 20 Try.func71 #[.pointer (some ⟨g,0,none⟩),.int .i64 t569] ?_;(with_reducible refine(spec_l1Cur_pick.calls g s0_0 t560 t561 t569 t570 t571 t572 w0 _ ?side1 ?side2 A16.out).mono ?_);(case side1=>exact IsS88.now HI0.out);(case side2=>exact h2 HB.out (IsS88.ge HI0.out) GE558.out);rintro e w21 ⟨rfl,hi,hb,hk⟩;refine⟨_,rfl,?_⟩;replace BK558:=kk BK558 hk NB558_0;replace HK:=ak (KeepBut.trans (kn HK.out) hk (.inl rfl));replace HB:=ak hb;replace HI0:=ak hi;(try clear hb);(try clear hk);(try clear hi)))
  go_ret
  exact⟨fe,(IsS88.now HI0.out),h2 HB.out (IsS88.ge HI0.out) GE558.out,(kn HK.out)⟩
 subst c4
 rw[if_pos rfl]at H
 generalize hy562: ([(-1),0,a1_0,wrap64 (a1_0-1),4611686018427387904]:List Int)=y562 at H
 have Ny562:=ak hy562.symm
 clear hy562
 obtain⟨⟨t565,t566,t567⟩,A5,H⟩:=bd H;(try dsimp only at H)
 simp only[Option.some.injEq,Prod.mk.injEq]at H
 obtain⟨rfl,rfl,rfl⟩:=H
 go_enter Try.func73,Try.ntmps73
 go_wp2_with (first|(refine bx 3 #[.int .i64 a1_0,.bool a1_1] 27 ?_;intro gb558 hg w6 hbox hb;replace HB:=ak (below_step (h1 HB.out (IsS88.ge HI0.out)) hb);have BK558:=ak hbox;have GE558:=ak ((Nat.le_trans HW0.out (by rw[hg];exact(keep_size (w:=w) (g:=g) (row:=none) (kn HK.out)):w.heap.size≤gb558):w0.heap.size≤gb558));replace HK:=ak (KeepBut.trans (kn HK.out) (KeepBut.of_below hb g none) (.inl rfl));have NB0_558:=ak ((by rw[hg];exact Nat.ne_of_lt (IsS88.lt (show IsS88 w0 _ g s0_0 s0_1 s0_2 from(IsS88.now HI0.out))):g≠gb558));have NB558_0:=ak ((by rw[hg];exact Nat.ne_of_gt (IsS88.lt (show IsS88 w0 _ g s0_0 s0_1 s0_2 from(IsS88.now HI0.out))):gb558≠g));replace HI0:=ak (IsS88.below (g:=g) (IsS88.now HI0.out) hb);clear hb hbox hg)|(refine gs 6 Try.func72 #[.pointer (some ⟨g,0,none⟩),.int .i64 30] ?_;(with_reducible refine(spec_l1Cur_one.calls g s0_0 s0_1 s0_2 30 true t560 t561 w0 _ ?side1 ?side2 A3.out).mono ?_);(case side1=>exact IsS88.now HI0.out);(case side2=>exact h2 HB.out (IsS88.ge HI0.out) GE558.out);rintro e w7 ⟨rfl,hi,hb,hk⟩;refine⟨_,rfl,?_⟩;replace BK558:=kk BK558 hk NB558_0;replace HK:=ak (KeepBut.trans (kn HK.out) hk (.inl rfl));replace HB:=ak hb;replace HI0:=ak hi;(try clear hb);(try clear hk);(try clear hi);have hcz9_0:=bc BK558 0 rfl)|((with_reducible refine gate_dst (N:=13) rfl ?_);refine R_lit (Kd.int .i64) _ 3 ?hg (N:=13) ?hd (xs:=([(-1),0,a1_0,wrap64 (a1_0-1),4611686018427387904]:List Int)) (inner:=[.int .i64 (-1),.int .i64 0,.int .i64 a1_0,.int .i64 (wrap64 (a1_0-1)),.int .i64 4611686018427387904]) (ok:=fun _=>True) (okp:=fun _=>True) ?hr ?hp (fun _ hk=>hk) trivial (Below.refl _ _) (Nat.le_refl _) (by simp) ?_;(case hd=>rfl);(case hg=>rfl);(case hr=>first|(go_simp;done)|(go_simp;rfl));(case hp=>exact(Reps.one (show Kd.M (Kd.int .i64) _ _ _ (-1) [.int .i64 (-1)]from rfl) (Reps.one (show Kd.M (Kd.int .i64) _ _ _ 0 [.int .i64 0]from rfl) (Reps.one (show Kd.M (Kd.int .i64) _ _ _ a1_0 [.int .i64 a1_0]from rfl) (Reps.one (show Kd.M (Kd.int .i64) _ _ _ (wrap64 (a1_0-1)) [.int .i64 (wrap64 (a1_0-1))]from rfl) (Reps.one (show Kd.M (Kd.int .i64) _ _ _ 4611686018427387904 [.int .i64 4611686018427387904]from rfl) (Reps.none _ _)))))));intro v563 w10 ho11 hb hg_ hnew_;clear hg_ hnew_;(first|rw[←Ny562.out]at ho11|(simp only[Int.reduceToNat]at ho11;rw[←Ny562.out]at ho11));have HO564:=ak (R_lower ho11 (keep_size (w:=w) (g:=g) (row:=none) (kn HK.out)));replace BK558:=kb BK558 hb;replace HK:=ak (KeepBut.trans (kn HK.out) (KeepBut.of_below hb g none) (.inl rfl));replace HB:=ak (below_step (h2 HB.out (IsS88.ge HI0.out) GE558.out) hb);replace HI0:=ak (IsS88.below (g:=g) (IsS88.now HI0.out) hb);clear hb ho11;obtain⟨Ao12,co12,eo12⟩:=R_slice HO564.out;subst eo12)|(refine gs 14 Try.func70 #[.pointer (some ⟨g,0,none⟩),.slice Ao12 y562.length co12] ?_;(with_reducible refine(spec_l1Cur_among.calls g s0_0 t560 t561 _ _ y562 t565 t566 t567 w0 _ ?side1 ?side2 ?side3 ?side4 ?side5 A5.out).mono ?_);(case side1=>exact IsS88.now HI0.out);(case side2=>exact h2 HB.out (IsS88.ge HI0.out) GE558.out);(case side3=>exact cm (R_reads' HO564.out).2.2);(case side4=>exact(R_reads' HO564.out).2.1);(case side5=>exact far_slice (IsS88.own_ne HI0.out HO564.out (by decide)));rintro e w13 ⟨rfl,hi,hb,hk⟩;refine⟨_,rfl,?_⟩;replace BK558:=kk BK558 hk NB558_0;replace HO564:=ak (R_mono (R_keep (IsS88.apart (show IsS88 w0 _ g s0_0 t560 t561 from(IsS88.now HI0.out)) (rm HO564.out) (by decide)) hk (fun _ h=>h.2)) (fun _ h=>h.1));replace HK:=ak (KeepBut.trans (kn HK.out) hk (.inl rfl));replace HB:=ak hb;replace HI0:=ak hi;(try clear hb);(try clear hk);(try clear hi)))
 go_ret
 exact⟨fe,(IsS88.now HI0.out),h2 HB.out (IsS88.ge HI0.out) GE558.out,(kn HK.out)⟩
end
end Go.Proofs.Ytanfamfgdgcjpaa.QFnMoves
