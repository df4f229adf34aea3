/- Functions that the law FnReaches comes to, and their walks: no condition but those named. -/
import Derived.Test.YthagkpoinjpmfaaQFnReachesx0
import Derived.Test.YthagkpoinjpmfaaQFnReachesx1
import Derived.Test.YthagkpoinjpmfaaQFnReachesx2
import Derived.Test.YthagkpoinjpmfaaQFnReachesx13
namespace Go.Proofs.Ythagkpoinjpmfaa.QFnReaches
open Go.RowKit Go.Proofs.YthagkpoinjpmfaaW.PrintWords Go.Proofs.YthagkpoinjpmfaaW.PrintLast Go.Proofs.YthagkpoinjpmfaaW.PrintMore Go.Proofs.Ythagkpoinjpmfaa.Short
attribute [local go_sem] max2_int min2_int max_two min_two max_three min_three max_four min_four
set_option linter.unusedVariables false
set_option linter.unusedSimpArgs false
section
open Kd
mutual
def spec_l7Best.l0:Nat→List (S63)→Int→Int→Bool→List (List Int)→Int→Int→Bool→Option (Int)
 | 0,_,_,_,_,_,_,_,_=>none
 | k+1,x1,x2,x3,x4,x11,x12,x523000,x523001=>if x12<(shl .i64 1 (x1.length:Int))then(spec_l7Best.l1 k x1 x2 x3 x4 x11 x12 (([]:List Int)) x2 x523000 x523001)else(if 0<(x11.length:Int)then(if 0<((rd_L2 x11 0).length:Int)then(spec_l7Best.l2 k x1 x2 x3 x4 (x11.set (0:Int).toNat ((rd_L2 x11 0).set (0:Int).toNat 0)) (-1) 0 x523000 x523001)else(none))else(none))
def spec_l7Best.l1:Nat→List (S63)→Int→Int→Bool→List (List Int)→Int→List Int→Int→Int→Bool→Option (Int)
 | 0,_,_,_,_,_,_,_,_,_,_=>none
 | k+1,x1,x2,x3,x4,x11,x12,x13,x14,x523000,x523001=>if x14≤x3 then(if x13.length<17592186044416 then(spec_l7Best.l1 k x1 x2 x3 x4 x11 x12 (x13++[(-1)]) (wrap64 (x14+1)) x523000 x523001)else(none))else(if x11.length<5864062014805 then(spec_l7Best.l0 k x1 x2 x3 x4 (x11++[x13]) (wrap64 (x12+1)) x523000 x523001)else(none))
def spec_l7Best.l2:Nat→List (S63)→Int→Int→Bool→List (List Int)→Int→Int→Int→Bool→Option (Int)
 | 0,_,_,_,_,_,_,_,_,_=>none
 | k+1,x1,x2,x3,x4,x11,x15,x16,x523000,x523001=>if x16<(x11.length:Int)then(spec_l7Best.l3 k x1 x2 x3 x4 x11 x15 x16 x2 x523000 x523001)else(some x15)
def spec_l7Best.l3:Nat→List (S63)→Int→Int→Bool→List (List Int)→Int→Int→Int→Int→Bool→Option (Int)
 | 0,_,_,_,_,_,_,_,_,_,_=>none
 | k+1,x1,x2,x3,x4,x11,x15,x16,x17,x523000,x523001=>if x17≤x3 then(if 0≤x16 then(if x16<(x11.length:Int)then(if 0≤(wrap64 (x17-x2))then(if(wrap64 (x17-x2))<((rd_L2 x11 x16).length:Int)then(if(rd (rd_L2 x11 x16) (wrap64 (x17-x2)))<0 then(spec_l7Best.l3 k x1 x2 x3 x4 x11 x15 x16 (wrap64 (x17+1)) x523000 x523001)else(if x17=x3 then(if x15<0 then(spec_l7Best.j4 k x1 x2 x3 x4 x11 x15 x16 x17 (rd (rd_L2 x11 x16) (wrap64 (x17-x2))) true x523000 x523001)else(spec_l7Best.j4 k x1 x2 x3 x4 x11 x15 x16 x17 (rd (rd_L2 x11 x16) (wrap64 (x17-x2))) (decide ((rd (rd_L2 x11 x16) (wrap64 (x17-x2)))<x15)) x523000 x523001))else(spec_l7Best.j4 k x1 x2 x3 x4 x11 x15 x16 x17 (rd (rd_L2 x11 x16) (wrap64 (x17-x2))) false x523000 x523001)))else(none))else(none))else(none))else(none))else(spec_l7Best.l2 k x1 x2 x3 x4 x11 x15 (wrap64 (x16+1)) x523000 x523001)
def spec_l7Best.j4:Nat→List (S63)→Int→Int→Bool→List (List Int)→Int→Int→Int→Int→Bool→Int→Bool→Option (Int)
 | 0,_,_,_,_,_,_,_,_,_,_,_,_=>none
 | k+1,x1,x2,x3,x4,x11,x15,x16,x17,x18,x84,x523000,x523001=>if x84=true then(spec_l7Best.j5 k x1 x2 x3 x4 x11 x18 x16 x17 x18 x523000 x523001)else(spec_l7Best.j5 k x1 x2 x3 x4 x11 x15 x16 x17 x18 x523000 x523001)
def spec_l7Best.j5:Nat→List (S63)→Int→Int→Bool→List (List Int)→Int→Int→Int→Int→Int→Bool→Option (Int)
 | 0,_,_,_,_,_,_,_,_,_,_,_=>none
 | k+1,x1,x2,x3,x4,x11,x15,x16,x17,x18,x523000,x523001=>spec_l7Best.l4 k x1 x2 x3 x4 x11 x15 x16 x17 x18 0 x523000 x523001
def spec_l7Best.l4:Nat→List (S63)→Int→Int→Bool→List (List Int)→Int→Int→Int→Int→Int→Int→Bool→Option (Int)
 | 0,_,_,_,_,_,_,_,_,_,_,_,_=>none
 | k+1,x1,x2,x3,x4,x11,x15,x16,x17,x18,x19,x523000,x523001=>if x19<(x1.length:Int)then(if 0≤x19 then((spec_l7End.f x523000 x523001 ((rd_T63 x1 x19).f0) ((rd_T63 x1 x19).f1) ((rd_T63 x1 x19).f2) x17).bind fun t542=>(spec_l7Best.l5 k x1 x2 x3 x4 x11 x15 x16 x17 x18 x19 t542 (wrap64 (x17+1)) x523000 x523001))else(none))else(spec_l7Best.l3 k x1 x2 x3 x4 x11 x15 x16 (wrap64 (x17+1)) x523000 x523001)
def spec_l7Best.l5:Nat→List (S63)→Int→Int→Bool→List (List Int)→Int→Int→Int→Int→Int→Int→Int→Int→Bool→Option (Int)
 | 0,_,_,_,_,_,_,_,_,_,_,_,_,_,_=>none
 | k+1,x1,x2,x3,x4,x11,x15,x16,x17,x18,x19,x20,x21,x523000,x523001=>(spec_l1Least.f x3 x20).bind fun t543=>(if x21≤t543 then(if 0≤x19 then(spec_l7Best.j8 k x1 x2 x3 x4 x11 x15 x16 x17 x18 x19 x20 x21 ((Go.bits .and .i64 (shr .i64 x16 x19) 1)==0) x523000 x523001)else(none))else(spec_l7Best.j8 k x1 x2 x3 x4 x11 x15 x16 x17 x18 x19 x20 x21 false x523000 x523001))
def spec_l7Best.j8:Nat→List (S63)→Int→Int→Bool→List (List Int)→Int→Int→Int→Int→Int→Int→Int→Bool→Int→Bool→Option (Int)
 | 0,_,_,_,_,_,_,_,_,_,_,_,_,_,_,_=>none
 | k+1,x1,x2,x3,x4,x11,x15,x16,x17,x18,x19,x20,x21,x112,x523000,x523001=>if x112=true then(if 0≤x19 then(if x19<(x1.length:Int)then((spec_l7Steps.f x523000 x523001 ((rd_T63 x1 x19).f0) ((rd_T63 x1 x19).f1) ((rd_T63 x1 x19).f2) x17 x21).bind fun t546=>(if x4=true then((spec_l7Arrive.f x523000 x523001 ((rd_T63 x1 x19).f0) ((rd_T63 x1 x19).f1) ((rd_T63 x1 x19).f2) x18 x17 x21).bind fun t548=>(if 0≤(wrap64 (x16+(shl .i64 1 x19)))then(if(wrap64 (x16+(shl .i64 1 x19)))<(x11.length:Int)then(if 0≤(wrap64 (x21-x2))then(if(wrap64 (x21-x2))<((rd_L2 x11 (wrap64 (x16+(shl .i64 1 x19)))).length:Int)then(if(rd (rd_L2 x11 (wrap64 (x16+(shl .i64 1 x19)))) (wrap64 (x21-x2)))<0 then(spec_l7Best.l5 k x1 x2 x3 x4 (x11.set ((wrap64 (x16+(shl .i64 1 x19))):Int).toNat ((rd_L2 x11 (wrap64 (x16+(shl .i64 1 x19)))).set ((wrap64 (x21-x2)):Int).toNat t548)) x15 x16 x17 x18 x19 x20 (wrap64 (x21+1)) x523000 x523001)else(if t548<(rd (rd_L2 x11 (wrap64 (x16+(shl .i64 1 x19)))) (wrap64 (x21-x2)))then(spec_l7Best.l5 k x1 x2 x3 x4 (x11.set ((wrap64 (x16+(shl .i64 1 x19))):Int).toNat ((rd_L2 x11 (wrap64 (x16+(shl .i64 1 x19)))).set ((wrap64 (x21-x2)):Int).toNat t548)) x15 x16 x17 x18 x19 x20 (wrap64 (x21+1)) x523000 x523001)else(spec_l7Best.l5 k x1 x2 x3 x4 x11 x15 x16 x17 x18 x19 x20 (wrap64 (x21+1)) x523000 x523001)))else(none))else(none))else(none))else(none)))else(if 0≤(wrap64 (x16+(shl .i64 1 x19)))then(if(wrap64 (x16+(shl .i64 1 x19)))<(x11.length:Int)then(if 0≤(wrap64 (x21-x2))then(if(wrap64 (x21-x2))<((rd_L2 x11 (wrap64 (x16+(shl .i64 1 x19)))).length:Int)then(if(rd (rd_L2 x11 (wrap64 (x16+(shl .i64 1 x19)))) (wrap64 (x21-x2)))<0 then(spec_l7Best.l5 k x1 x2 x3 x4 (x11.set ((wrap64 (x16+(shl .i64 1 x19))):Int).toNat ((rd_L2 x11 (wrap64 (x16+(shl .i64 1 x19)))).set ((wrap64 (x21-x2)):Int).toNat (wrap64 (x18+(wrap64 (((rd_T63 x1 x19).f2)*t546)))))) x15 x16 x17 x18 x19 x20 (wrap64 (x21+1)) x523000 x523001)else(if(wrap64 (x18+(wrap64 (((rd_T63 x1 x19).f2)*t546))))<(rd (rd_L2 x11 (wrap64 (x16+(shl .i64 1 x19)))) (wrap64 (x21-x2)))then(spec_l7Best.l5 k x1 x2 x3 x4 (x11.set ((wrap64 (x16+(shl .i64 1 x19))):Int).toNat ((rd_L2 x11 (wrap64 (x16+(shl .i64 1 x19)))).set ((wrap64 (x21-x2)):Int).toNat (wrap64 (x18+(wrap64 (((rd_T63 x1 x19).f2)*t546)))))) x15 x16 x17 x18 x19 x20 (wrap64 (x21+1)) x523000 x523001)else(spec_l7Best.l5 k x1 x2 x3 x4 x11 x15 x16 x17 x18 x19 x20 (wrap64 (x21+1)) x523000 x523001)))else(none))else(none))else(none))else(none))))else(none))else(none))else(spec_l7Best.l4 k x1 x2 x3 x4 x11 x15 x16 x17 x18 (wrap64 (x19+1)) x523000 x523001)
end
def spec_l7Best.f (k:Nat) (a0_0:Int) (a0_1:Bool) (l1:List (S63)) (a2:Int) (a3:Int) (a4:Bool):Option (Int):=spec_l7Best.l0 k l1 a2 a3 a4 (([]:List (List Int))) 0 a0_0 a0_1
theorem spec_l7Best.mono_l:∀ k,(∀ y0 y1 y2 y3 y4 y5 y6 y7,LeO (spec_l7Best.l0 k y0 y1 y2 y3 y4 y5 y6 y7) (spec_l7Best.l0 (k+1) y0 y1 y2 y3 y4 y5 y6 y7))∧(∀ y0 y1 y2 y3 y4 y5 y6 y7 y8 y9,LeO (spec_l7Best.l1 k y0 y1 y2 y3 y4 y5 y6 y7 y8 y9) (spec_l7Best.l1 (k+1) y0 y1 y2 y3 y4 y5 y6 y7 y8 y9))∧(∀ y0 y1 y2 y3 y4 y5 y6 y7 y8,LeO (spec_l7Best.l2 k y0 y1 y2 y3 y4 y5 y6 y7 y8) (spec_l7Best.l2 (k+1) y0 y1 y2 y3 y4 y5 y6 y7 y8))∧(∀ y0 y1 y2 y3 y4 y5 y6 y7 y8 y9,LeO (spec_l7Best.l3 k y0 y1 y2 y3 y4 y5 y6 y7 y8 y9) (spec_l7Best.l3 (k+1) y0 y1 y2 y3 y4 y5 y6 y7 y8 y9))∧(∀ y0 y1 y2 y3 y4 y5 y6 y7 y8 y9 y10 y11,LeO (spec_l7Best.j4 k y0 y1 y2 y3 y4 y5 y6 y7 y8 y9 y10 y11) (spec_l7Best.j4 (k+1) y0 y1 y2 y3 y4 y5 y6 y7 y8 y9 y10 y11))∧(∀ y0 y1 y2 y3 y4 y5 y6 y7 y8 y9 y10,LeO (spec_l7Best.j5 k y0 y1 y2 y3 y4 y5 y6 y7 y8 y9 y10) (spec_l7Best.j5 (k+1) y0 y1 y2 y3 y4 y5 y6 y7 y8 y9 y10))∧(∀ y0 y1 y2 y3 y4 y5 y6 y7 y8 y9 y10 y11,LeO (spec_l7Best.l4 k y0 y1 y2 y3 y4 y5 y6 y7 y8 y9 y10 y11) (spec_l7Best.l4 (k+1) y0 y1 y2 y3 y4 y5 y6 y7 y8 y9 y10 y11))∧(∀ y0 y1 y2 y3 y4 y5 y6 y7 y8 y9 y10 y11 y12 y13,LeO (spec_l7Best.l5 k y0 y1 y2 y3 y4 y5 y6 y7 y8 y9 y10 y11 y12 y13) (spec_l7Best.l5 (k+1) y0 y1 y2 y3 y4 y5 y6 y7 y8 y9 y10 y11 y12 y13))∧(∀ y0 y1 y2 y3 y4 y5 y6 y7 y8 y9 y10 y11 y12 y13 y14,LeO (spec_l7Best.j8 k y0 y1 y2 y3 y4 y5 y6 y7 y8 y9 y10 y11 y12 y13 y14) (spec_l7Best.j8 (k+1) y0 y1 y2 y3 y4 y5 y6 y7 y8 y9 y10 y11 y12 y13 y14))
 | 0=>by
  refine⟨?_,?_,?_,?_,?_,?_,?_,?_,?_⟩<;>(intros;intro r h;simp[spec_l7Best.l0,spec_l7Best.l1,spec_l7Best.l2,spec_l7Best.l3,spec_l7Best.j4,spec_l7Best.j5,spec_l7Best.l4,spec_l7Best.l5,spec_l7Best.j8]at h)
 | k+1=>by
  obtain⟨ih0,ih1,ih2,ih3,ih4,ih5,ih6,ih7,ih8⟩:=spec_l7Best.mono_l k
  refine⟨?_,?_,?_,?_,?_,?_,?_,?_,?_⟩<;>intros<;>(first|unfold spec_l7Best.l0|unfold spec_l7Best.l1|unfold spec_l7Best.l2|unfold spec_l7Best.l3|unfold spec_l7Best.j4|unfold spec_l7Best.j5|unfold spec_l7Best.l4|unfold spec_l7Best.l5|unfold spec_l7Best.j8)<;>(repeat' (with_reducible first|exact ih0 ..|exact ih1 ..|exact ih2 ..|exact ih3 ..|exact ih4 ..|exact ih5 ..|exact ih6 ..|exact ih7 ..|exact ih8 ..|exact LeO.refl _|exact LeO.none _|refine LeO.ite ?_ ?_|refine LeO.bind ?_ (fun _=>?_)))
theorem spec_l7Best.mono:∀ a0 a1 a2 a3 a4 a5 k,LeO (spec_l7Best.f k a0 a1 a2 a3 a4 a5) (spec_l7Best.f (k+1) a0 a1 a2 a3 a4 a5):=by
 intro a0 a1 a2 a3 a4 a5 k
 obtain⟨ih0,ih1,ih2,ih3,ih4,ih5,ih6,ih7,ih8⟩:=spec_l7Best.mono_l k
 unfold spec_l7Best.f
 repeat' (with_reducible first|exact ih0 ..|exact ih1 ..|exact ih2 ..|exact ih3 ..|exact ih4 ..|exact ih5 ..|exact ih6 ..|exact ih7 ..|exact ih8 ..|exact LeO.refl _|exact LeO.none _|refine LeO.ite ?_ ?_|refine LeO.bind ?_ (fun _=>?_))
def spec_l7Best.T26:Bool × List (List Nat × List Nat):=(true,[([],[]),([],[]),([],[]),([1,2],[1,2]),([3],[3]),([],[]),([0,4,5],[0,4,5]),([6,6,0,1,2,3,4,5,6],[6])])
def spec_l7Best.B26:List Nat:=[0,0,0,6,14,0,63,127]
theorem spec_l7Best.tab26:rtab .any (opsOf Try.f76 26)=spec_l7Best.T26:=by kernel_rfl
theorem spec_l7Best.bits26:waitsOk spec_l7Best.T26.2 spec_l7Best.B26=true:=by kernel_rfl
def spec_l7Best.T30:Bool × List (List Nat × List Nat):=(true,[([],[]),([],[]),([],[]),([1,2],[1,2]),([3],[3]),([4],[4]),([],[]),([],[]),([],[]),([7,8],[7,8]),([9],[9]),([],[]),([],[]),([6,10,11,12],[6,10,11,12]),([5,13],[5,13]),([0,14],[0,14]),([15,13,0,1,2,3,4,5,6,7,8,9,10,11,12,13,14,15],[15])])
def spec_l7Best.B30:List Nat:=[0,0,0,6,14,30,0,0,0,384,896,0,0,8128,16382,32767,65535]
theorem spec_l7Best.tab30:rtab .any (opsOf Try.f76 30)=spec_l7Best.T30:=by kernel_rfl
theorem spec_l7Best.bits30:waitsOk spec_l7Best.T30.2 spec_l7Best.B30=true:=by kernel_rfl
def spec_l7Best.T32:Bool × List (List Nat × List Nat):=(true,[([],[]),([],[]),([],[]),([1,2],[1,2]),([3],[3]),([],[]),([],[]),([],[]),([0,4,5,6,7],[0,4,5,6,7]),([8,8,0,1,2,3,4,5,6,7,8],[8])])
def spec_l7Best.B32:List Nat:=[0,0,0,6,14,0,0,0,255,511]
theorem spec_l7Best.tab32:rtab .any (opsOf Try.f76 32)=spec_l7Best.T32:=by kernel_rfl
theorem spec_l7Best.bits32:waitsOk spec_l7Best.T32.2 spec_l7Best.B32=true:=by kernel_rfl
set_option maxHeartbeats 8000000 in
set_option maxRecDepth 100000 in
theorem spec_l7Best.calls (k:Nat) (a0_0:Int) (a0_1:Bool) (A1:Option Addr) (c1:Nat) (l1:List (S63)) (a2:Int) (a3:Int) (a4:Bool) (r:Int) (w:World) (hr1:Kd.C k63 w A1 l1.length l1) (hc1:l1.length≤c1) (h:spec_l7Best.f k a0_0 a0_1 l1 a2 a3 a4=some r):
  Calls Try.prog 76 #[.agg #[.int .i64 a0_0,.bool a0_1],.slice A1 l1.length c1,.int .i64 a2,.int .i64 a3,.bool a4] w fun e w'=>e= .returned (.int .i64 r)∧Below w.heap.size w w':=by
 have hu28:=Try.underlying28
 have hu63:=Try.underlying63
 have HR1:=Aside0.mk hr1
 have HC1:=Aside0.mk hc1
 clear hr1 hc1
 have HB:=Aside0.mk (Below.refl w.heap.size w)
 unfold spec_l7Best.f at h
 have H:=h
 clear h
 generalize hy523: ([]:List (List Int))=y523 at H
 have Ny523:=ak hy523.symm
 clear hy523
 have H':=Aside0.mk H
 clear H
 go_enter Try.func76,Try.ntmps76
 go_wp2_with (first|(refine bx 5 #[.int .i64 a0_0,.bool a0_1] 28 ?_;intro gb522 hg w6 hbox hb;have BK522:=ak hbox;have GW522:=gw HB hg;have GE522:=gw HB hg;replace HB:=bs HB hb;clear hb hbox hg)|((with_reducible refine gate_dst (N:=24) rfl ?_);refine Kd.S_lit (Kd.slice 3 (Kd.int .i64)) _ 40 ?hg (N:=24) ?hd (xs:=([]:List (List Int))) (inner:=[]) (ok:=fun _=>True) (okp:=fun _=>True) ?hr ?hp (fun _ hk=>hk) trivial (Below.refl _ _) (Nat.le_refl _) (by simp) ?_;(case hd=>rfl);(case hg=>rfl);(case hr=>first|(go_simp;done)|(go_simp;rfl));(case hp=>exact(Reps.none _ _));intro v524 w7 ho8 hb hg_ hnew_;clear hg_ hnew_;(first|rw[←Ny523.out]at ho8|(simp only[Int.reduceToNat]at ho8;rw[←Ny523.out]at ho8));have HO525:=ak (Kd.S_lower ho8 (below_size (h1 HB.out GE522.out)));replace BK522:=kb BK522 hb;replace HB:=ak (below_step (h1 HB.out GE522.out) hb);clear hb ho8))
 go_loopg [11,12] k (fun kq v11 v12 w'=>∃ (x11_1:List (List Int)) (x12_1:Int),v12= .int .i64 x12_1∧Aside0 (spec_l7Best.l0 kq l1 a2 a3 a4 x11_1 x12_1 a0_0 a0_1=some r)∧Aside0 (kq≤k)∧Aside0 (Kd.S (Kd.slice 3 (Kd.int .i64)) 40 w' w.heap.size (fun _=>True) v11 x11_1)∧Aside0 (w'.heap[gb522]? =some (.cells #[.int .i64 a0_0,.bool a0_1] 28 (0,0)))∧Aside0 (Below w.heap.size w w'))
 case atStart=>exact⟨(y523),(0),fd,H',⟨Nat.le_refl _⟩,⟨sm HO525.out⟩,⟨bm BK522.out⟩,⟨h1 HB.out GE522.out⟩⟩
 clear H'
 try clear c1
 try clear p2
 try clear c7
 obtain⟨x11_1,x12_1,rfl,HA,HK1,HO_11,BK522,HB⟩:=hrel
 obtain _|k1:=gk;·cases HA.out
 obtain⟨H⟩:=HA
 simp only[spec_l7Best.l0]at H
 generalize hji9: (shl .i64 1 (l1.length:Int))=ji9 at H
 have hji9_: (IntKind.i64.wrap (1*2^min (l1.length:Int).toNat 64))=ji9:=hji9
 have hji9z: (l1.length:Int)≤64→(IntKind.i64.wrap (1*2^ (l1.length:Int).toNat))=ji9:=shl_small hji9
 have hji9p: (IntKind.i64.wrap (1*2^min l1.length 64))=ji9:=hji9_
 have hji9q: (l1.length:Int)≤64→(IntKind.i64.wrap (1*2^l1.length))=ji9:=hji9z
 have hji9r: (IntKind.i64.wrap (2^min l1.length 64))=ji9:=by have h_:=hji9p;rw[Int.one_mul]at h_;exact h_
 have hji9s: (l1.length:Int)≤64→(IntKind.i64.wrap (2^l1.length))=ji9:=fun hle_=>by have h_:=hji9q hle_;rw[Int.one_mul]at h_;exact h_
 have hji9u: (IntKind.i64.wrap (2^min (l1.length:Int).toNat 64))=ji9:=by have h_:=hji9_;rw[Int.one_mul]at h_;exact h_
 have hji9v: (l1.length:Int)≤64→(IntKind.i64.wrap (2^ (l1.length:Int).toNat))=ji9:=fun hle_=>by have h_:=hji9z hle_;rw[Int.one_mul]at h_;exact h_
 have hji9y: (wrap64 (1*2^min (l1.length:Int).toNat 64))=ji9:=(i64_w _).symm.trans hji9_
 have hji9x: (l1.length:Int)≤64→(wrap64 (1*2^ (l1.length:Int).toNat))=ji9:=fun h_=>(i64_w _).symm.trans (hji9z h_)
 by_cases c10:x12_1<(ji9)
 ·rw[if_pos c10]at H
  have c10b0:decide (x12_1<(ji9))=true:=decide_eq_true c10
  clear c10
  generalize hy526: ([]:List Int)=y526 at H
  have Ny526:=ak hy526.symm
  clear hy526
  have H':=Aside0.mk H
  clear H
  go_wp2_with (first|((with_reducible refine gate_dst (N:=32) rfl ?_);refine R_lit (Kd.int .i64) _ 3 ?hg (N:=32) ?hd (xs:=([]:List Int)) (inner:=[]) (ok:=fun _=>True) (okp:=fun _=>True) ?hr ?hp (fun _ hk=>hk) trivial (Below.refl _ _) (Nat.le_refl _) (by simp) ?_;(case hd=>rfl);(case hg=>rfl);(case hr=>first|(go_simp;done)|(go_simp;rfl));(case hp=>exact(Reps.none _ _));intro v527 w11 ho12 hb hg_ hnew_;clear hg_ hnew_;(first|rw[←Ny526.out]at ho12|(simp only[Int.reduceToNat]at ho12;rw[←Ny526.out]at ho12));replace HO_11:=ak (Kd.S_elder' (sm HO_11.out) (R_base ho12) hb);have HO528:=ak (R_lower ho12 (below_size (h1 HB.out GE522.out)));replace BK522:=kb BK522 hb;replace HB:=ak (below_step (h1 HB.out GE522.out) hb);clear hb ho12))
  go_loopg [13,14] k1 (fun kq v13 v14 w'=>∃ (x13_2:List Int) (x14_2:Int),v14= .int .i64 x14_2∧Aside0 (spec_l7Best.l1 kq l1 a2 a3 a4 x11_1 x12_1 x13_2 x14_2 a0_0 a0_1=some r)∧Aside0 (kq≤k1)∧Aside0 (Kd.S (Kd.slice 3 (Kd.int .i64)) 40 w' w.heap.size (fun k_=>ob k_ v13) u11 x11_1)∧Aside0 (Kd.R (Kd.int .i64) 3 w' w.heap.size (fun _=>True) v13 x13_2)∧Aside0 (w'.heap[gb522]? =some (.cells #[.int .i64 a0_0,.bool a0_1] 28 (0,0)))∧Aside0 (Below w.heap.size w w'))
  case atStart=>exact⟨(y526),(a2),fd,H',⟨Nat.le_refl _⟩,⟨sm (Kd.S_mono HO_11.out (fun _ hk=>hk.2))⟩,⟨rm HO528.out⟩,⟨bm BK522.out⟩,⟨h1 HB.out GE522.out⟩⟩
  clear H'
  try clear c1
  try clear p2
  try clear p6
  try clear c7
  try clear c10
  try clear c10b0
  try clear p2
  obtain⟨x13_2,x14_2,rfl,HA,HK2,HO_11,HO_13,BK522,HB⟩:=hrel
  obtain _|k2:=gk;·cases HA.out
  obtain⟨H⟩:=HA
  simp only[spec_l7Best.l1]at H
  by_cases c13:x14_2≤a3
  ·rw[if_pos c13]at H
   have c13b0:decide (x14_2≤a3)=true:=decide_eq_true c13
   clear c13
   obtain⟨c14,H⟩:=gi H
   have LMc14:=Aside0.mk c14
   clear c14
   generalize hy529: (x13_2++[(-1)]:List Int)=y529 at H
   have Ny529:=ak hy529.symm
   clear hy529
   have H':=Aside0.mk H
   clear H
   go_wp2_with (first|((with_reducible refine gate_builtin (b:=.append) (xs:=#[.tmp 39,.tmp 40]) rfl ?_);at_builtin;refine R_append (Kd.int .i64) (w0:=w) w.heap.size rfl (.tmp 39) (.tmp 40) 40 3 (.int .i64 0) 8 rfl Try.underlying40 info3 rfl (by decide) (by omega) u13 x13_2 (-1) [.int .i64 (-1)] (fun _=>True) (fun _=>False) rfl rfl ?aP (fun _ hk=>hk.elim) ?aF ?aO ?aB ?aS ?aL ?_;(case aP=>exact rfl);(case aB=>exact(h1 HB.out GE522.out));(case aF=>exact(fun _ _=>trivial));(case aO=>exact(rm HO_13.out));(case aS=>exact(below_size (h1 HB.out GE522.out)));(case aL=>have:=LMc14.out;omega);intro v530 w15 ho hb hg hat;rw[←Ny529.out]at ho;replace HO_11:=ak (Kd.S_after (ok:=(fun _=>True)) (sm (Kd.S_mono HO_11.out (fun _ hk=>⟨trivial,hk⟩))) hg hat);replace BK522:=ak (blk_grown (g:=gb522) (o:=.cells #[.int .i64 a0_0,.bool a0_1] 28 (0,0)) (bm BK522.out) hg (R_ne HO_13.out BK522.out (by decide)));replace HB:=ak hb;have HO531:=ak ho;clear HO_13;clear ho hb hg hat))
   go_roundg k2
   case measure=>have:=HK1.out;have:=HK2.out;omega
   case rel=>exact⟨(y529),(wrap64 (x14_2+1)),fd,H',⟨by have:=HK1.out;have:=HK2.out;omega⟩,⟨sm (Kd.S_mono HO_11.out (fun _ hk=>hk.2))⟩,⟨rm HO531.out⟩,⟨bm BK522.out⟩,⟨h1 HB.out GE522.out⟩⟩
  rw[if_neg c13]at H
  have c13b0:decide (x14_2≤a3)=false:=decide_eq_false c13
  clear c13
  obtain⟨c16,H⟩:=gi H
  have LMc16:=Aside0.mk c16
  clear c16
  generalize hy532: (x11_1++[x13_2]:List (List Int))=y532 at H
  have Ny532:=ak hy532.symm
  clear hy532
  have H':=Aside0.mk H
  clear H
  obtain⟨Ao18,co18,eo18⟩:=R_slice HO_13.out
  subst eo18
  go_wp2_with (first|((with_reducible refine gate_builtin (b:=.append) (xs:=#[.tmp 42,.tmp 44]) rfl ?_);at_builtin;refine Kd.S_append (Kd.slice 3 (Kd.int .i64)) (w0:=w) w.heap.size rfl (.tmp 42) (.tmp 44) 89 40 (.slice none 0 0) 24 rfl Try.underlying89 info40 rfl (by decide) (by omega) u11 x11_1 x13_2 [.slice Ao18 x13_2.length co18] (fun _=>True) (fun k_=>some k_=(.slice Ao18 x13_2.length co18:Value).ownBlock) rfl rfl ?aP (fun k_ hk_=>((R_mono (ok':=fun k_=>((fun _=>True)) k_∧ob k_ u11) (R_apart' (HO_13.out) (Kd.S_typed HO_11.out) (by decide)) (fun k_ hk=>⟨trivial,hk.2⟩))).1 k_ hk_.symm) ?aF ?aO ?aB ?aS ?aL ?_;(case aP=>exact Kd.M_row (R_mono (R_tight rfl (R_mono (ok':=fun k_=>((fun _=>True)) k_∧ob k_ u11) (R_apart' (HO_13.out) (Kd.S_typed HO_11.out) (by decide)) (fun k_ hk=>⟨trivial,hk.2⟩))) (fun _ h_=>h_)));(case aB=>exact(h1 HB.out GE522.out));(case aF=>exact(fun _ _=>trivial));(case aO=>exact(sm (Kd.S_mono HO_11.out (fun k_ hk=>⟨trivial,fun e_=>hk e_⟩))));(case aS=>exact(below_size (h1 HB.out GE522.out)));(case aL=>have:=LMc16.out;omega);intro v533 w17 ho hb hg hat;rw[←Ny532.out]at ho;replace BK522:=ak (blk_grown (g:=gb522) (o:=.cells #[.int .i64 a0_0,.bool a0_1] 28 (0,0)) (bm BK522.out) hg (Kd.S_ne HO_11.out BK522.out (by decide)));replace HB:=ak hb;have HO534:=ak ho;clear HO_11 HO_13;clear ho hb hg hat))
  go_roundg k2
  case measure=>have:=HK1.out;have:=HK2.out;omega
  case rel=>exact⟨(y532),(wrap64 (x12_1+1)),fd,H',⟨by have:=HK1.out;have:=HK2.out;omega⟩,⟨sm HO534.out⟩,⟨bm BK522.out⟩,⟨h1 HB.out GE522.out⟩⟩
 rw[if_neg c10]at H
 have c10b0:decide (x12_1<(ji9))=false:=decide_eq_false c10
 clear c10
 obtain⟨c19,H⟩:=gi H
 have c19b0:decide (0<(x11_1.length:Int))=true:=decide_eq_true c19
 have c19b1:decide (0<x11_1.length)=true:=decide_eq_true (by omega)
 clear c19
 obtain⟨c20,H⟩:=gi H
 have c20b0:decide (0<((rd_L2 x11_1 0).length:Int))=true:=decide_eq_true c20
 have c20b1:decide (0<(rd_L2 x11_1 0).length)=true:=decide_eq_true (by omega)
 clear c20
 generalize hy536: (rd_L2 x11_1 0).set (0:Int).toNat 0=y536 at H
 have Ny536:=ak hy536.symm
 clear hy536
 generalize hy538: (x11_1.set (0:Int).toNat y536:List (List Int))=y538 at H
 have Ny538:=ak hy538.symm
 clear hy538
 have H':=Aside0.mk H
 clear H
 obtain⟨Ao22,co22,eo22⟩:=Kd.S_slice HO_11.out
 subst eo22
 have p535:0≤(0:Int):=(by omega)
 have q535:0<(x11_1.length:Int):=od
 obtain⟨ad535,A535_0,c535_0,e535,hx535_0,hl535_0,hi535_0⟩:=at_L2 (Kd.S_reads' HO_11.out).2.2 0 p535 q535
 cases e535
 obtain⟨ce535,hce535,hMe535,hcc535⟩:=Kd.S_get HO_11.out [] 0 p535 (by first|exact q535|exact od|(have e_:=(Kd.S_reads' HO_11.out).1;omega))
 obtain⟨ve535_0,rfl,ge535_0⟩:=hMe535
 have hv535_0:=hcc535 0 _ rfl
 rw[Nat.add_zero,show((Kd.slice 3 (Kd.int .i64))).sz=1 from rfl,Nat.mul_one]at hv535_0
 replace hv535_0:=Option.some.inj (hv535_0.symm.trans hx535_0)
 rw[hv535_0]at ge535_0
 have HL535_0:=Aside0.mk (show Kd.R (Kd.int .i64) 3 _ _ _ _ (rd_L2 x11_1 0)from ge535_0)
 clear hv535_0 ge535_0
 have HX535_0:=Aside0.mk hx535_0
 clear hcc535 hce535
 have qi535: (0<x11_1.length)=True:=eq_true (by omega)
 (try rw[show((0:Int)).toNat=0 from rfl]at hx535_0)
 (try rw[Addr.add_zero']at hx535_0)
 have HR535_0:=Aside0.mk hi535_0
 have HC535_0:=Aside0.mk hl535_0
 clear hi535_0 hl535_0
 replace p535:=eq_true p535
 replace q535:=eq_true q535
 have p21:0≤(0:Int):=(by omega)
 have q21: (0:Int)<(((rd_L2 x11_1 0).length:Int):Int):=od
 have qi21: (0<(rd_L2 x11_1 0).length)=True:=eq_true (by omega)
 obtain⟨go21,co21,eo21,gb21,gl21,cl21,HG21⟩:=R_form HL535_0.out (by omega)
 (first|cases eo21|(injection eo21 with ea_ en_ ec_;(first|subst ea_|(injection ea_ with ea_;subst ea_));subst ec_;clear en_))
 have GB21:=Aside0.mk gb21
 have GG21:=Aside0.mk HG21
 clear gb21 gl21 HG21
 obtain⟨hx21_0,hf21_0⟩:=R_celln 0 HL535_0.out (0:Int) p21 q21
 (try rw[show((0:Int)).toNat=0 from rfl]at hx21_0)
 (try simp only[Nat.reduceMul,Nat.zero_mul,Nat.zero_add,Nat.reduceAdd]at hx21_0)
 (try rw[show((0:Int)).toNat=0 from rfl]at hf21_0)
 (try simp only[Nat.reduceMul,Nat.zero_mul,Nat.zero_add,Nat.reduceAdd]at hf21_0)
 replace p21:=eq_true p21
 replace q21:=eq_true q21
 have hq23: (0:Int)<(x11_1.length:Int):=(by have h_: (0:Int)<((x11_1.length:Int):Int):=od;first|exact h_|(have e_:=(Kd.S_reads' HO_11.out).1;omega)|simpa only[List.length_set,List.length_set]using h_)
 obtain⟨oki23,ce23,hcl23,hM23,hcc23,hok23,hbk23⟩:=Kd.S_borrow HO_11.out [] (0:Int) (by omega) hq23
 obtain⟨ve23_0,rfl,ge23_0⟩:=hM23
 have hv23:=hcc23 0 _ rfl
 rw[Nat.add_zero,show((Kd.slice 3 (Kd.int .i64))).sz=1 from rfl,Nat.mul_one]at hv23
 replace hv23:=Option.some.inj (hv23.symm.trans HX535_0.out)
 subst hv23
 clear hcc23 hcl23
 replace ge23_0:=(show Kd.R (Kd.int .i64) 3 _ _ _ _ (rd_L2 x11_1 0)from ge23_0)
 have HP23:=R_putg ge23_0 (0:Int) 0
 go_wp2_with (first|((with_reducible refine gate_store (t:=3) (p:=49) rfl ?_);refine store_event (t:=3) (p:=49) (v:=?vo_w24) (w1:=(wr.setCell ⟨go21,0,none⟩ (.int .i64 0))) ?hg ?ho ?hn ?hr ?_;(case ho=>rfl);(case hg=>rfl);(case hn=>rfl);(case hr=>first|(go_simp;done)|(go_simp;rfl));intro w24 hw;have hg:wr.grownBy w24 (some go21):=(by rw[hw];exact HP23.2);have hz_:Kd.R (Kd.int .i64) 3 w24 w.heap.size oki23 (.slice (some ⟨go21,0,none⟩) (rd_L2 x11_1 0).length c535_0) y536:=(by rw[hw,Ny536.out];exact HP23.1);have hp_:Kd.S (Kd.slice 3 (Kd.int .i64)) 40 w24 w.heap.size (fun _=>True) (.slice (some ad535) x11_1.length co22) y538:=(by rw[Ny538.out];exact hbk23 hg (fun k_ e_=>by injection e_ with e_;subst e_;exact ge23_0.1 _ rfl) (Kd.M_row hz_));have hm_:=R_mono hz_ hok23;clear HP23 hbk23;replace HO_11:=ak hp_;replace BK522:=ak (blk_grown (g:=gb522) (o:=.cells #[.int .i64 a0_0,.bool a0_1] 28 (0,0)) (bm BK522.out) hg (R_ne HL535_0.out BK522.out (by decide)));replace HB:=ak ((by rw[hw];exact below_set (HB.out) GB21.out:Below w.heap.size w w24));have HL569:=ak hm_;have HC537:=ak ((R_reads' hm_).2.1);clear HL535_0;clear hg hw hp_ hz_ hm_ hok23))
 go_loopg [15,16] k1 (fun kq v15 v16 w'=>∃ (x11_2:List (List Int)) (x15_2:Int) (x16_2:Int),v15= .int .i64 x15_2∧v16= .int .i64 x16_2∧Aside0 (spec_l7Best.l2 kq l1 a2 a3 a4 x11_2 x15_2 x16_2 a0_0 a0_1=some r)∧Aside0 (kq≤k1)∧Aside0 (Kd.S (Kd.slice 3 (Kd.int .i64)) 40 w' w.heap.size (fun _=>True) (.slice (some ad535) x11_1.length co22) x11_2)∧Aside0 (w'.heap[gb522]? =some (.cells #[.int .i64 a0_0,.bool a0_1] 28 (0,0)))∧Aside0 (Below w.heap.size w w'))
 case atStart=>exact⟨(y538),((-1)),(0),fd,fd,H',⟨Nat.le_refl _⟩,⟨sm HO_11.out⟩,⟨bm BK522.out⟩,⟨h1 HB.out GE522.out⟩⟩
 clear H'
 try clear c1
 try clear c2
 try clear p2
 try clear q2
 try clear hx2
 try clear qi2
 try clear c5
 try clear p5
 try clear q5
 try clear hx5
 try clear qi5
 try clear p6
 try clear c7
 try clear c10
 try clear c10b0
 try clear c13
 try clear c13b0
 try clear c14
 try clear c16
 try clear c19
 try clear c19b0
 try clear c19b1
 try clear c20
 try clear c20b0
 try clear c20b1
 try clear p21
 try clear q21
 try clear hx21
 try clear qi21
 try clear hf21
 try clear c23
 try clear q23
 try clear hx21_0
 try clear hx535_0
 try clear p2
 try clear p21
 try clear p535
 try clear p6
 try clear q21
 try clear q535
 obtain⟨x11_2,x15_2,x16_2,rfl,rfl,HA,HK2,HO_11,BK522,HB⟩:=hrel
 have hl11_2:=(Kd.S_reads' HO_11.out).1
 rw[hl11_2]at HO_11
 (try simp only[hl11_2])
 (try simp only[hl11_2]at BK522)
 obtain _|k2:=gk;·cases HA.out
 obtain⟨H⟩:=HA
 simp only[spec_l7Best.l2]at H
 by_cases c25:x16_2<(x11_2.length:Int)
 rotate_left
 ·rw[if_neg c25]at H
  have c25b0:decide (x16_2<(x11_2.length:Int))=false:=decide_eq_false c25
  (try simp only[hl11_2]at c25b0)
  clear c25
  obtain rfl:=Option.some.inj H
  go_wp2
  go_ret
  exact⟨by first|rfl|(simp[errW_none,errW_some]<;>rfl)|(simp only[←hji9];first|rfl|(simp[errW_none,errW_some]<;>rfl))|(simp[*,errW_none,errW_some]<;>rfl),h1 HB.out GE522.out⟩
 rw[if_pos c25]at H
 have c25b0:decide (x16_2<(x11_2.length:Int))=true:=decide_eq_true c25
 (try simp only[hl11_2]at c25b0)
 clear c25
 have H':=Aside0.mk H
 clear H
 go_wp2
 go_loopg [15,17] k2 (fun kq v15 v17 w'=>∃ (x11_3:List (List Int)) (x15_3:Int) (x17_3:Int),v15= .int .i64 x15_3∧v17= .int .i64 x17_3∧Aside0 (spec_l7Best.l3 kq l1 a2 a3 a4 x11_3 x15_3 x16_2 x17_3 a0_0 a0_1=some r)∧Aside0 (kq≤k2)∧Aside0 (Kd.S (Kd.slice 3 (Kd.int .i64)) 40 w' w.heap.size (fun _=>True) (.slice (some ad535) x11_2.length co22) x11_3)∧Aside0 (w'.heap[gb522]? =some (.cells #[.int .i64 a0_0,.bool a0_1] 28 (0,0)))∧Aside0 (Below w.heap.size w w'))
 case atStart=>exact⟨(x11_2),(x15_2),(a2),fd,fd,H',⟨Nat.le_refl _⟩,⟨by(try simp only[hl11_2]);(with_reducible repeat(first|apply Kd.S_alloc|apply Kd.S_drewN|apply Kd.S_drew));exact HO_11.out⟩,⟨by(try simp only[hl11_2]);exact bm BK522.out⟩,⟨h1 HB.out GE522.out⟩⟩
 clear H'
 try clear c1
 try clear c2
 try clear p2
 try clear q2
 try clear hx2
 try clear qi2
 try clear c5
 try clear p5
 try clear q5
 try clear hx5
 try clear qi5
 try clear p6
 try clear c7
 try clear c10
 try clear c10b0
 try clear c13
 try clear c13b0
 try clear c14
 try clear c16
 try clear c19
 try clear c19b0
 try clear c19b1
 try clear c20
 try clear c20b0
 try clear c20b1
 try clear p21
 try clear q21
 try clear hx21
 try clear qi21
 try clear hf21
 try clear c23
 try clear q23
 try clear c25
 try clear c25b0
 try clear hx21_0
 try clear hx535_0
 try clear p2
 try clear p21
 try clear p5
 try clear p535
 try clear p6
 try clear q2
 try clear q21
 try clear q23
 try clear q5
 try clear q535
 obtain⟨x11_3,x15_3,x17_3,rfl,rfl,HA,HK3,HO_11,BK522,HB⟩:=hrel
 have hl11_3:=(Kd.S_reads' HO_11.out).1
 rw[hl11_3]at HO_11
 (try simp only[hl11_3])
 (try simp only[hl11_3]at BK522)
 obtain _|k3:=gk;·cases HA.out
 obtain⟨H⟩:=HA
 simp only[spec_l7Best.l3]at H
 by_cases c26:x17_3≤a3
 rotate_left
 ·rw[if_neg c26]at H
  have c26b0:decide (x17_3≤a3)=false:=decide_eq_false c26
  clear c26
  have H':=Aside0.mk H
  clear H
  go_wp2
  (try simp only[←hl11_2,←hl11_3])
  go_roundg k3
  case measure=>have:=HK1.out;have:=HK2.out;have:=HK3.out;omega
  case rel=>exact⟨(x11_3),(x15_3),(wrap64 (x16_2+1)),fd,fd,H',⟨by have:=HK1.out;have:=HK2.out;have:=HK3.out;omega⟩,⟨by(try simp only[hl11_2]);(try simp only[hl11_3]);(with_reducible repeat(first|apply Kd.S_alloc|apply Kd.S_drewN|apply Kd.S_drew));exact HO_11.out⟩,⟨by(try simp only[hl11_2]);(try simp only[hl11_3]);exact bm BK522.out⟩,⟨h1 HB.out GE522.out⟩⟩
 rw[if_pos c26]at H
 have c26b0:decide (x17_3≤a3)=true:=decide_eq_true c26
 clear c26
 obtain⟨c27,H⟩:=gi H
 have c27b0:decide (0≤x16_2)=true:=decide_eq_true c27
 clear c27
 obtain⟨c28,H⟩:=gi H
 have c28b0:decide (x16_2<(x11_3.length:Int))=true:=decide_eq_true c28
 (try simp only[hl11_2,hl11_3]at c28b0)
 clear c28
 generalize hji29: (wrap64 (x17_3-a2))=ji29 at H
 have hji29w: (IntKind.i64.wrap (x17_3-a2))=ji29:=(i64_w _).trans hji29
 obtain⟨c30,H⟩:=gi H
 have c30b0:decide (0≤(ji29))=true:=decide_eq_true c30
 clear c30
 obtain⟨c31,H⟩:=gi H
 have c31b0:decide ((ji29)<((rd_L2 x11_3 x16_2).length:Int))=true:=decide_eq_true c31
 (try simp only[hl11_2,hl11_3]at c31b0)
 clear c31
 by_cases c32: (rd (rd_L2 x11_3 x16_2) (ji29))<0
 ·rw[if_pos c32]at H
  have c32b0:decide ((rd (rd_L2 x11_3 x16_2) (ji29))<0)=true:=decide_eq_true c32
  clear c32
  have H':=Aside0.mk H
  clear H
  have p539:0≤(x16_2:Int):=od
  have q539:x16_2<(x11_3.length:Int):=od
  obtain⟨ad539,A539_0,c539_0,e539,hx539_0,hl539_0,hi539_0⟩:=at_L2 (Kd.S_reads' HO_11.out).2.2 x16_2 p539 q539
  obtain rfl:ad535=ad539:=(by injection e539)
  obtain⟨ce539,hce539,hMe539,hcc539⟩:=Kd.S_get HO_11.out [] x16_2 p539 (by first|exact q539|exact od|(have e_:=(Kd.S_reads' HO_11.out).1;omega))
  obtain⟨ve539_0,rfl,ge539_0⟩:=hMe539
  have hv539_0:=hcc539 0 _ rfl
  rw[Nat.add_zero,show((Kd.slice 3 (Kd.int .i64))).sz=1 from rfl,Nat.mul_one]at hv539_0
  replace hv539_0:=Option.some.inj (hv539_0.symm.trans hx539_0)
  rw[hv539_0]at ge539_0
  have HL539_0:=Aside0.mk (show Kd.R (Kd.int .i64) 3 _ _ _ _ (rd_L2 x11_3 x16_2)from ge539_0)
  clear hv539_0 ge539_0
  have HX539_0:=Aside0.mk hx539_0
  clear hcc539 hce539
  have HR539_0:=Aside0.mk hi539_0
  have HC539_0:=Aside0.mk hl539_0
  clear hi539_0 hl539_0
  replace p539:=eq_true p539
  replace q539:=eq_true q539
  have p540:0≤((ji29):Int):=od
  have q540: (ji29)<((rd_L2 x11_3 x16_2).length:Int):=od
  obtain⟨ad540,e540,hx540_0⟩:=Kd.at_int (by repeat(first|(with_reducible exact HR539_0.out)|(with_reducible refine C_alloc ?_ _)|(with_reducible refine C_drewN ?_ _)|(with_reducible refine C_drew ?_)|exact HR539_0.out)) (ji29) p540 q540
  cases e540
  replace p540:=eq_true p540
  replace q540:=eq_true q540
  go_wp2
  (try simp only[←hl11_3])
  go_roundg k3
  case measure=>have:=HK1.out;have:=HK2.out;have:=HK3.out;omega
  case rel=>exact⟨(x11_3),(x15_3),(wrap64 (x17_3+1)),fd,fd,H',⟨by have:=HK1.out;have:=HK2.out;have:=HK3.out;omega⟩,⟨by(try simp only[hl11_2]);(try simp only[hl11_3]);(with_reducible repeat(first|apply Kd.S_alloc|apply Kd.S_drewN|apply Kd.S_drew));exact HO_11.out⟩,⟨by(try simp only[hl11_2]);(try simp only[hl11_3]);exact bm BK522.out⟩,⟨h1 HB.out GE522.out⟩⟩
 rw[if_neg c32]at H
 have c32b0:decide ((rd (rd_L2 x11_3 x16_2) (ji29))<0)=false:=decide_eq_false c32
 clear c32
 have HC33:=Aside0.mk H
 clear H
 have p539:0≤(x16_2:Int):=od
 have q539:x16_2<(x11_3.length:Int):=od
 obtain⟨ad539,A539_0,c539_0,e539,hx539_0,hl539_0,hi539_0⟩:=at_L2 (Kd.S_reads' HO_11.out).2.2 x16_2 p539 q539
 obtain rfl:ad535=ad539:=(by injection e539)
 obtain⟨ce539,hce539,hMe539,hcc539⟩:=Kd.S_get HO_11.out [] x16_2 p539 (by first|exact q539|exact od|(have e_:=(Kd.S_reads' HO_11.out).1;omega))
 obtain⟨ve539_0,rfl,ge539_0⟩:=hMe539
 have hv539_0:=hcc539 0 _ rfl
 rw[Nat.add_zero,show((Kd.slice 3 (Kd.int .i64))).sz=1 from rfl,Nat.mul_one]at hv539_0
 replace hv539_0:=Option.some.inj (hv539_0.symm.trans hx539_0)
 rw[hv539_0]at ge539_0
 have HL539_0:=Aside0.mk (show Kd.R (Kd.int .i64) 3 _ _ _ _ (rd_L2 x11_3 x16_2)from ge539_0)
 clear hv539_0 ge539_0
 have HX539_0:=Aside0.mk hx539_0
 clear hcc539 hce539
 have HR539_0:=Aside0.mk hi539_0
 have HC539_0:=Aside0.mk hl539_0
 clear hi539_0 hl539_0
 replace p539:=eq_true p539
 replace q539:=eq_true q539
 have p540:0≤((ji29):Int):=od
 have q540: (ji29)<((rd_L2 x11_3 x16_2).length:Int):=od
 obtain⟨ad540,e540,hx540_0⟩:=Kd.at_int (by repeat(first|(with_reducible exact HR539_0.out)|(with_reducible refine C_alloc ?_ _)|(with_reducible refine C_drewN ?_ _)|(with_reducible refine C_drew ?_)|exact HR539_0.out)) (ji29) p540 q540
 cases e540
 replace p540:=eq_true p540
 replace q540:=eq_true q540
 go_upto_region 21 with(fail)
 go_cut [84] (fun v84 wc=>∃ (kq:Nat) (x84_32:Bool),v84= .bool x84_32∧Aside0 (spec_l7Best.j4 kq l1 a2 a3 a4 x11_3 x15_3 x16_2 x17_3 (rd (rd_L2 x11_3 x16_2) (ji29)) x84_32 a0_0 a0_1=some r)∧Aside0 (kq≤k3)∧Aside0 (Kd.S (Kd.slice 3 (Kd.int .i64)) 40 wc w.heap.size (fun _=>True) (.slice (some ad535) x11_3.length co22) x11_3)∧Aside0 (wc.heap[gb522]? =some (.cells #[.int .i64 a0_0,.bool a0_1] 28 (0,0)))∧Aside0 (Kd.C (Kd.int .i64) wc (some ad540) (rd_L2 x11_3 x16_2).length (rd_L2 x11_3 x16_2))∧Aside0 (Below w.heap.size w wc))
 case first=>
  have H:=HC33.out
  clear HC33
  by_cases c34:x17_3=a3
  rotate_left
  ·rw[if_neg c34]at H
   have c34b0: (x17_3==a3)=false:=beq_eq_false_iff_ne.mpr c34
   have c34b1: (x17_3 !=a3)=true:=bne_iff_ne.mpr c34
   (first|rw[c34b0]|(simp only[i64_w,i32_w];rw[c34b0])|skip)
   have H':=Aside0.mk H
   clear H
   go_wp2
   go_meet
   case rel=>exact⟨_,(false),fd,H',⟨by first|exact Nat.le_refl _|(have:=HK1.out;have:=HK2.out;have:=HK3.out;omega)⟩,⟨by(try simp only[hl11_2]);(try simp only[hl11_3]);(with_reducible repeat(first|apply Kd.S_alloc|apply Kd.S_drewN|apply Kd.S_drew));exact HO_11.out⟩,⟨by(try simp only[hl11_2]);(try simp only[hl11_3]);exact bm BK522.out⟩,⟨by repeat(first|(with_reducible exact HR539_0.out)|(with_reducible refine C_alloc ?_ _)|(with_reducible refine C_drewN ?_ _)|(with_reducible refine C_drew ?_)|exact HR539_0.out)⟩,⟨h1 HB.out GE522.out⟩⟩
  rw[if_pos c34]at H
  have c34b0: (x17_3==a3)=true:=beq_iff_eq.mpr c34
  have c34b1: (x17_3 !=a3)=false:=bne_eq_false_iff_eq.mpr c34
  clear c34
  (first|rw[c34b0]|(simp only[i64_w,i32_w];rw[c34b0])|skip)
  by_cases c35:x15_3<0
  ·rw[if_pos c35]at H
   have c35b0:decide (x15_3<0)=true:=decide_eq_true c35
   clear c35
   have H':=Aside0.mk H
   clear H
   go_wp2
   go_meet
   case rel=>exact⟨_,(true),fd,H',⟨by first|exact Nat.le_refl _|(have:=HK1.out;have:=HK2.out;have:=HK3.out;omega)⟩,⟨by(try simp only[hl11_2]);(try simp only[hl11_3]);(with_reducible repeat(first|apply Kd.S_alloc|apply Kd.S_drewN|apply Kd.S_drew));exact HO_11.out⟩,⟨by(try simp only[hl11_2]);(try simp only[hl11_3]);exact bm BK522.out⟩,⟨by repeat(first|(with_reducible exact HR539_0.out)|(with_reducible refine C_alloc ?_ _)|(with_reducible refine C_drewN ?_ _)|(with_reducible refine C_drew ?_)|exact HR539_0.out)⟩,⟨h1 HB.out GE522.out⟩⟩
  rw[if_neg c35]at H
  have c35b0:decide (x15_3<0)=false:=decide_eq_false c35
  clear c35
  have H':=Aside0.mk H
  clear H
  go_wp2
  go_meet
  case rel=>exact⟨_,(decide ((rd (rd_L2 x11_3 x16_2) (ji29))<x15_3)),(by first|rfl|(simp;done)|(simp only[←hji29]<;>(first|rfl|simp))|(simp[*];done)),H',⟨by first|exact Nat.le_refl _|(have:=HK1.out;have:=HK2.out;have:=HK3.out;omega)⟩,⟨by(try simp only[hl11_2]);(try simp only[hl11_3]);(with_reducible repeat(first|apply Kd.S_alloc|apply Kd.S_drewN|apply Kd.S_drew));exact HO_11.out⟩,⟨by(try simp only[hl11_2]);(try simp only[hl11_3]);exact bm BK522.out⟩,⟨by repeat(first|(with_reducible exact HR539_0.out)|(with_reducible refine C_alloc ?_ _)|(with_reducible refine C_drewN ?_ _)|(with_reducible refine C_drew ?_)|exact HR539_0.out)⟩,⟨h1 HB.out GE522.out⟩⟩
 clear HC33
 try clear c1
 try clear c2
 try clear p2
 try clear q2
 try clear hx2
 try clear qi2
 try clear c3
 try clear c5
 try clear p5
 try clear q5
 try clear hx5
 try clear qi5
 try clear p6
 try clear c7
 try clear c10
 try clear c10b0
 try clear c13
 try clear c13b0
 try clear c14
 try clear c16
 try clear c19
 try clear c19b0
 try clear c19b1
 try clear c20
 try clear c20b0
 try clear c20b1
 try clear p21
 try clear q21
 try clear hx21
 try clear qi21
 try clear hf21
 try clear c23
 try clear q23
 try clear c25
 try clear c25b0
 try clear c26
 try clear c26b0
 try clear c27
 try clear c27b0
 try clear c28
 try clear c28b0
 try clear c30
 try clear c30b0
 try clear c31
 try clear c31b0
 try clear c32
 try clear c32b0
 try clear c34
 try clear c34b0
 try clear c34b1
 try clear c35
 try clear c35b0
 try clear hx21_0
 try clear hx535_0
 try clear hx539_0
 try clear hx540_0
 try clear p2
 try clear p21
 try clear p5
 try clear p535
 try clear p539
 try clear p540
 try clear p6
 try clear q2
 try clear q21
 try clear q23
 try clear q5
 try clear q535
 try clear q539
 try clear q540
 obtain⟨kq,x84_32,rfl,HA,HJ32,HO_11,BK522,HR539_0,HB⟩:=hcut
 obtain _|kj32:=kq;·cases HA.out
 obtain⟨H⟩:=HA
 simp only[spec_l7Best.j4]at H
 have HC36:=Aside0.mk H
 clear H
 go_upto_if 84 with(fail)
 go_cut [15] (fun v15 wc=>∃ (kq:Nat) (x15_35:Int),v15= .int .i64 x15_35∧Aside0 (spec_l7Best.j5 kq l1 a2 a3 a4 x11_3 x15_35 x16_2 x17_3 (rd (rd_L2 x11_3 x16_2) (ji29)) a0_0 a0_1=some r)∧Aside0 (kq≤kj32)∧Aside0 (Kd.S (Kd.slice 3 (Kd.int .i64)) 40 wc w.heap.size (fun _=>True) (.slice (some ad535) x11_3.length co22) x11_3)∧Aside0 (wc.heap[gb522]? =some (.cells #[.int .i64 a0_0,.bool a0_1] 28 (0,0)))∧Aside0 (Kd.C (Kd.int .i64) wc (some ad540) (rd_L2 x11_3 x16_2).length (rd_L2 x11_3 x16_2))∧Aside0 (Below w.heap.size w wc))
 case first=>
  have H:=HC36.out
  clear HC36
  by_cases c37:x84_32=true
  rotate_left
  ·replace c37:=Bool.eq_false_iff.mpr c37
   subst c37
   rw[if_neg (show ¬(false=true)by decide)]at H
   have H':=Aside0.mk H
   clear H
   go_wp2
   go_meet
   case rel=>exact⟨_,(x15_3),fd,H',⟨by first|exact Nat.le_refl _|(have:=HK1.out;have:=HK2.out;have:=HK3.out;have:=HJ32.out;omega)⟩,⟨by(try simp only[hl11_2]);(try simp only[hl11_3]);(with_reducible repeat(first|apply Kd.S_alloc|apply Kd.S_drewN|apply Kd.S_drew));exact HO_11.out⟩,⟨by(try simp only[hl11_2]);(try simp only[hl11_3]);exact bm BK522.out⟩,⟨by repeat(first|(with_reducible exact HR539_0.out)|(with_reducible refine C_alloc ?_ _)|(with_reducible refine C_drewN ?_ _)|(with_reducible refine C_drew ?_)|exact HR539_0.out)⟩,⟨h1 HB.out GE522.out⟩⟩
  subst c37
  rw[if_pos rfl]at H
  have H':=Aside0.mk H
  clear H
  go_wp2
  go_meet
  case rel=>exact⟨_,((rd (rd_L2 x11_3 x16_2) (ji29))),(by first|rfl|(simp;done)|(simp only[←hji29]<;>(first|rfl|simp))|(simp[*];done)),H',⟨by first|exact Nat.le_refl _|(have:=HK1.out;have:=HK2.out;have:=HK3.out;have:=HJ32.out;omega)⟩,⟨by(try simp only[hl11_2]);(try simp only[hl11_3]);(with_reducible repeat(first|apply Kd.S_alloc|apply Kd.S_drewN|apply Kd.S_drew));exact HO_11.out⟩,⟨by(try simp only[hl11_2]);(try simp only[hl11_3]);exact bm BK522.out⟩,⟨by repeat(first|(with_reducible exact HR539_0.out)|(with_reducible refine C_alloc ?_ _)|(with_reducible refine C_drewN ?_ _)|(with_reducible refine C_drew ?_)|exact HR539_0.out)⟩,⟨h1 HB.out GE522.out⟩⟩
 clear HC36
 try clear c1
 try clear c2
 try clear p2
 try clear q2
 try clear hx2
 try clear qi2
 try clear c3
 try clear c5
 try clear p5
 try clear q5
 try clear hx5
 try clear qi5
 try clear p6
 try clear c7
 try clear c10
 try clear c10b0
 try clear c13
 try clear c13b0
 try clear c14
 try clear c16
 try clear c19
 try clear c19b0
 try clear c19b1
 try clear c20
 try clear c20b0
 try clear c20b1
 try clear p21
 try clear q21
 try clear hx21
 try clear qi21
 try clear hf21
 try clear c23
 try clear q23
 try clear c25
 try clear c25b0
 try clear c26
 try clear c26b0
 try clear c27
 try clear c27b0
 try clear c28
 try clear c28b0
 try clear c30
 try clear c30b0
 try clear c31
 try clear c31b0
 try clear c32
 try clear c32b0
 try clear c34
 try clear c34b0
 try clear c34b1
 try clear c35
 try clear c35b0
 try clear c37
 try clear hx21_0
 try clear hx535_0
 try clear hx539_0
 try clear hx540_0
 try clear p2
 try clear p21
 try clear p5
 try clear p535
 try clear p539
 try clear p540
 try clear p6
 try clear q2
 try clear q21
 try clear q23
 try clear q5
 try clear q535
 try clear q539
 try clear q540
 obtain⟨kq,x15_35,rfl,HA,HJ35,HO_11,BK522,HR539_0,HB⟩:=hcut
 obtain _|kj35:=kq;·cases HA.out
 obtain⟨H⟩:=HA
 simp only[spec_l7Best.j5]at H
 have H':=Aside0.mk H
 clear H
 go_wp2
 go_loopg [19] kj35 (fun kq v19 w'=>∃ (x11_6:List (List Int)) (x19_6:Int),v19= .int .i64 x19_6∧Aside0 (spec_l7Best.l4 kq l1 a2 a3 a4 x11_6 x15_35 x16_2 x17_3 (rd (rd_L2 x11_3 x16_2) (ji29)) x19_6 a0_0 a0_1=some r)∧Aside0 (kq≤kj35)∧Aside0 (Kd.S (Kd.slice 3 (Kd.int .i64)) 40 w' w.heap.size (fun _=>True) (.slice (some ad535) x11_3.length co22) x11_6)∧Aside0 (w'.heap[gb522]? =some (.cells #[.int .i64 a0_0,.bool a0_1] 28 (0,0)))∧Aside0 (Below w.heap.size w w'))
 case atStart=>exact⟨(x11_3),(0),fd,H',⟨Nat.le_refl _⟩,⟨by(try simp only[hl11_2]);(try simp only[hl11_3]);(with_reducible repeat(first|apply Kd.S_alloc|apply Kd.S_drewN|apply Kd.S_drew));exact HO_11.out⟩,⟨by(try simp only[hl11_2]);(try simp only[hl11_3]);exact bm BK522.out⟩,⟨h1 HB.out GE522.out⟩⟩
 clear H'
 try clear c1
 try clear c2
 try clear p2
 try clear q2
 try clear hx2
 try clear qi2
 try clear c3
 try clear c5
 try clear p5
 try clear q5
 try clear hx5
 try clear qi5
 try clear p6
 try clear c7
 try clear c10
 try clear c10b0
 try clear c13
 try clear c13b0
 try clear c14
 try clear c16
 try clear c19
 try clear c19b0
 try clear c19b1
 try clear c20
 try clear c20b0
 try clear c20b1
 try clear p21
 try clear q21
 try clear hx21
 try clear qi21
 try clear hf21
 try clear c23
 try clear q23
 try clear c25
 try clear c25b0
 try clear c26
 try clear c26b0
 try clear c27
 try clear c27b0
 try clear c28
 try clear c28b0
 try clear c30
 try clear c30b0
 try clear c31
 try clear c31b0
 try clear c32
 try clear c32b0
 try clear c34
 try clear c34b0
 try clear c34b1
 try clear c35
 try clear c35b0
 try clear c37
 try clear hx21_0
 try clear hx535_0
 try clear hx539_0
 try clear hx540_0
 try clear p2
 try clear p21
 try clear p5
 try clear p535
 try clear p539
 try clear p540
 try clear p6
 try clear q2
 try clear q21
 try clear q23
 try clear q5
 try clear q535
 try clear q539
 try clear q540
 obtain⟨x11_6,x19_6,rfl,HA,HK6,HO_11,BK522,HB⟩:=hrel
 have hl11_6:=(Kd.S_reads' HO_11.out).1
 rw[hl11_6]at HO_11
 (try simp only[hl11_6])
 (try simp only[hl11_6]at BK522)
 obtain _|k6:=gk;·cases HA.out
 obtain⟨H⟩:=HA
 simp only[spec_l7Best.l4]at H
 by_cases c38:x19_6<(l1.length:Int)
 rotate_left
 ·rw[if_neg c38]at H
  have c38b0:decide (x19_6<(l1.length:Int))=false:=decide_eq_false c38
  (try simp only[hl11_2,hl11_3,hl11_6]at c38b0)
  clear c38
  have H':=Aside0.mk H
  clear H
  go_wp2
  (try simp only[←hl11_3,←hl11_6])
  go_roundg k6
  case measure=>have:=HK1.out;have:=HK2.out;have:=HK3.out;have:=HJ32.out;have:=HJ35.out;have:=HK6.out;omega
  case rel=>exact⟨(x11_6),(x15_35),(wrap64 (x17_3+1)),fd,fd,H',⟨by have:=HK1.out;have:=HK2.out;have:=HK3.out;have:=HJ32.out;have:=HJ35.out;have:=HK6.out;omega⟩,⟨by(try simp only[hl11_2]);(try simp only[hl11_3]);(try simp only[hl11_6]);(with_reducible repeat(first|apply Kd.S_alloc|apply Kd.S_drewN|apply Kd.S_drew));exact HO_11.out⟩,⟨by(try simp only[hl11_2]);(try simp only[hl11_3]);(try simp only[hl11_6]);exact bm BK522.out⟩,⟨h1 HB.out GE522.out⟩⟩
 rw[if_pos c38]at H
 have c38b0:decide (x19_6<(l1.length:Int))=true:=decide_eq_true c38
 (try simp only[hl11_2,hl11_3,hl11_6]at c38b0)
 clear c38
 obtain⟨c39,H⟩:=gi H
 have c39b0:decide (0≤x19_6)=true:=decide_eq_true c39
 clear c39
 obtain⟨t542,A40,H⟩:=bd H;(try dsimp only at H)
 have H':=Aside0.mk H
 clear H
 try go_wp2
 replace HO_11:=ak (Kd.S_drew HO_11.out)
 replace BK522:=ak (blk_drew BK522.out)
 replace HB:=ak (below_drew1 HB.out)
 have p541:0≤(x19_6:Int):=od
 have q541:x19_6<(l1.length:Int):=od
 obtain⟨ad541,e541,hx541_0,hx541_1,hx541_2⟩:=at_T63 HR1.out x19_6 p541 q541
 have hw541_2:=hx541_2
 have hw541_1:=hx541_1
 have hw541_0:=hx541_0
 cases e541
 replace hx541_0:=hc HB hx541_0
 replace hx541_1:=hc HB hx541_1
 replace hx541_2:=hc HB hx541_2
 replace p541:=eq_true p541
 replace q541:=eq_true q541
 refine start_ (n:=8) (S:=fun w'=>w'.cell? ⟨gb522,0,none⟩=some (.int .i64 a0_0)∧w'.cell? ⟨gb522,1,none⟩=some (.bool a0_1)∧w'.cell? (ad541.add ((x19_6).toNat*3))=some (.int .i64 ((rd_T63 l1 x19_6).f0))∧w'.cell? ⟨(ad541.add ((x19_6).toNat*3)).block,(ad541.add ((x19_6).toNat*3)).off+1,none⟩=some (.int .i64 ((rd_T63 l1 x19_6).f1))∧w'.cell? ⟨(ad541.add ((x19_6).toNat*3)).block,(ad541.add ((x19_6).toNat*3)).off+2,none⟩=some (.int .i64 ((rd_T63 l1 x19_6).f2))) (ds:=[]) (lb 8 0) (by kernel_rfl) rfl rfl ⟨bc BK522 0 rfl,bc BK522 1 rfl,((HB.out.cell (World.block_lt_of_cell? w _ hw541_0)).trans hw541_0),((HB.out.cell (World.block_lt_of_cell? w _ hw541_1)).trans hw541_1),((HB.out.cell (World.block_lt_of_cell? w _ hw541_2)).trans hw541_2)⟩ (fun hHeld=>?_);refine with_tabW spec_l7Best.tab26 spec_l7Best.bits26 (fun HT_ HW_=>?_)
 generalize wr.drew=w41 at HO_11 BK522 HB hx541_0 hx541_1 hx541_2 hHeld⊢
 refine pq 1 (N:=some 93) (lb 8 2) HT_ ?_
 refine pq 2 (N:=some 94) (lb 8 6) HT_ ?_
 refine pq 3 (N:=some 95) (lb 8 14) HT_ ?_
 refine pq 5 (N:=some 97) (lb 8 46) HT_ ?_
 refine tq 0 (N:=some 92) (lb 8 47) HT_ HW_ hHeld ?_
 refine tq 4 (N:=some 96) (lb 8 63) HT_ HW_ hHeld ?_
 refine one_ (i:=6) (N:=some 98) (lb 8 127) rfl rfl (one_of HT_.out (by kernel_rfl)) (by decide) (fun K hK=>?_)
 refine goes_ Try.func98 (by kernel_rfl) rfl #[.agg #[.int .i64 a0_0,.bool a0_1],.agg #[.int .i64 ((rd_T63 l1 x19_6).f0),.int .i64 ((rd_T63 l1 x19_6).f1),.int .i64 ((rd_T63 l1 x19_6).f2)],.int .i64 x17_3] (by rfl) rfl rfl gl ?_
 with_reducible refine(spec_l7End.calls a0_0 a0_1 ((rd_T63 l1 x19_6).f0) ((rd_T63 l1 x19_6).f1) ((rd_T63 l1 x19_6).f2) x17_3 t542 _ A40.out).mono ?_
 rintro e w42 ⟨rfl,hb⟩
 refine⟨_,rfl,?_⟩
 replace HO_11:=ak (Kd.S_below (sm HO_11.out) hb)
 replace BK522:=kb BK522 hb
 replace HB:=ak (below_step (h1 HB.out GE522.out) hb)
 (try clear hb)
 (try clear hb2)
 (try clear hk)
 (try clear hi)
 refine hK.out _ _ ⟨bc BK522 0 rfl,bc BK522 1 rfl,((HB.out.cell (World.block_lt_of_cell? w _ hw541_0)).trans hw541_0),((HB.out.cell (World.block_lt_of_cell? w _ hw541_1)).trans hw541_1),((HB.out.cell (World.block_lt_of_cell? w _ hw541_2)).trans hw541_2)⟩ (fun hHeld=>?_)
 clear hK K
 refine norm_ (a':=?_) ?_ ?_
 rotate_left
 ·show Act.put _ (some 98) _=_
  simp only[ap]
  rfl
 refine pq 7 (N:=some 20) (lb 8 255) HT_ ?_
 refine done_ (done_of HT_.out (by kernel_rfl)) ?_
 try go_wp2
 go_loopg [21] k6 (fun kq v21 w'=>∃ (x11_7:List (List Int)) (x21_7:Int),v21= .int .i64 x21_7∧Aside0 (spec_l7Best.l5 kq l1 a2 a3 a4 x11_7 x15_35 x16_2 x17_3 (rd (rd_L2 x11_3 x16_2) (ji29)) x19_6 t542 x21_7 a0_0 a0_1=some r)∧Aside0 (kq≤k6)∧Aside0 (Kd.S (Kd.slice 3 (Kd.int .i64)) 40 w' w.heap.size (fun _=>True) (.slice (some ad535) x11_6.length co22) x11_7)∧Aside0 (w'.heap[gb522]? =some (.cells #[.int .i64 a0_0,.bool a0_1] 28 (0,0)))∧Aside0 (Below w.heap.size w w'))
 case atStart=>exact⟨(x11_6),(wrap64 (x17_3+1)),fd,H',⟨Nat.le_refl _⟩,⟨by(try simp only[hl11_2]);(try simp only[hl11_3]);(try simp only[hl11_6]);(with_reducible repeat(first|apply Kd.S_alloc|apply Kd.S_drewN|apply Kd.S_drew));exact HO_11.out⟩,⟨by(try simp only[hl11_2]);(try simp only[hl11_3]);(try simp only[hl11_6]);exact bm BK522.out⟩,⟨h1 HB.out GE522.out⟩⟩
 clear H'
 try clear c1
 try clear c2
 try clear p2
 try clear q2
 try clear hx2
 try clear qi2
 try clear c3
 try clear c5
 try clear p5
 try clear q5
 try clear hx5
 try clear qi5
 try clear p6
 try clear c7
 try clear c9
 try clear c10
 try clear c10b0
 try clear c13
 try clear c13b0
 try clear c14
 try clear c16
 try clear c19
 try clear c19b0
 try clear c19b1
 try clear c20
 try clear c20b0
 try clear c20b1
 try clear p21
 try clear q21
 try clear hx21
 try clear qi21
 try clear hf21
 try clear c23
 try clear q23
 try clear c25
 try clear c25b0
 try clear c26
 try clear c26b0
 try clear c27
 try clear c27b0
 try clear c28
 try clear c28b0
 try clear c30
 try clear c30b0
 try clear c31
 try clear c31b0
 try clear c32
 try clear c32b0
 try clear c34
 try clear c34b0
 try clear c34b1
 try clear c35
 try clear c35b0
 try clear c37
 try clear c38
 try clear c38b0
 try clear c39
 try clear c39b0
 try clear hx21_0
 try clear hx535_0
 try clear hx539_0
 try clear hx540_0
 try clear hx541_0
 try clear hx541_1
 try clear hx541_2
 try clear p2
 try clear p21
 try clear p5
 try clear p535
 try clear p539
 try clear p540
 try clear p541
 try clear p6
 try clear q2
 try clear q21
 try clear q23
 try clear q5
 try clear q535
 try clear q539
 try clear q540
 try clear q541
 obtain⟨x11_7,x21_7,rfl,HA,HK7,HO_11,BK522,HB⟩:=hrel
 have hl11_7:=(Kd.S_reads' HO_11.out).1
 rw[hl11_7]at HO_11
 (try simp only[hl11_7])
 (try simp only[hl11_7]at BK522)
 obtain _|k7:=gk;·cases HA.out
 obtain⟨H⟩:=HA
 simp only[spec_l7Best.l5]at H
 have HC43:=Aside0.mk H
 clear H
 go_upto_region 28 with(fail)
 go_cut [112] (fun v112 wc=>∃ (kq:Nat) (x112_42:Bool),v112= .bool x112_42∧Aside0 (spec_l7Best.j8 kq l1 a2 a3 a4 x11_7 x15_35 x16_2 x17_3 (rd (rd_L2 x11_3 x16_2) (ji29)) x19_6 t542 x21_7 x112_42 a0_0 a0_1=some r)∧Aside0 (kq≤k7)∧Aside0 (Kd.S (Kd.slice 3 (Kd.int .i64)) 40 wc w.heap.size (fun _=>True) (.slice (some ad535) x11_7.length co22) x11_7)∧Aside0 (wc.heap[gb522]? =some (.cells #[.int .i64 a0_0,.bool a0_1] 28 (0,0)))∧Aside0 (Below w.heap.size w wc))
 case first=>
  have H:=HC43.out
  clear HC43
  obtain⟨t543,A44,H⟩:=bd H;(try dsimp only at H)
  by_cases c45:x21_7≤t543
  rotate_left
  ·rw[if_neg c45]at H
   have c45b0:decide (x21_7≤t543)=false:=decide_eq_false c45
   clear c45
   (first|rw[c45b0]|(simp only[i64_w,i32_w];rw[c45b0])|skip)
   have H':=Aside0.mk H
   clear H
   go_wp2_with (first|(refine gs 104 Try.func108 #[.int .i64 a3,.int .i64 t542] ?_;(with_reducible refine(spec_l1Least.calls a3 t542 t543 _ A44.out).mono ?_);rintro e w' ⟨rfl,⟨nd,rfl⟩⟩;refine⟨_,rfl,?_⟩))
   go_meet
   case rel=>exact⟨_,(false),fd,H',⟨by first|exact Nat.le_refl _|(have:=HK1.out;have:=HK2.out;have:=HK3.out;have:=HJ32.out;have:=HJ35.out;have:=HK6.out;have:=HK7.out;omega)⟩,⟨by(try simp only[hl11_2]);(try simp only[hl11_3]);(try simp only[hl11_6]);(try simp only[hl11_7]);(with_reducible repeat(first|apply Kd.S_alloc|apply Kd.S_drewN|apply Kd.S_drew));exact HO_11.out⟩,⟨by(try simp only[hl11_2]);(try simp only[hl11_3]);(try simp only[hl11_6]);(try simp only[hl11_7]);exact bm BK522.out⟩,⟨h1 HB.out GE522.out⟩⟩
  rw[if_pos c45]at H
  have c45b0:decide (x21_7≤t543)=true:=decide_eq_true c45
  clear c45
  (first|rw[c45b0]|(simp only[i64_w,i32_w];rw[c45b0])|skip)
  obtain⟨c46,H⟩:=gi H
  have c46b0:=eq_true c46
  have c46b1:decide (0≤x19_6)=true:=decide_eq_true c46
  clear c46
  generalize hji47: (shr .i64 x16_2 x19_6)=ji47 at H
  (try rw[hji47]at A44)
  have hji47_: (x16_2/ 2^min x19_6.toNat 64)=ji47:=hji47
  have hji47z:x19_6≤64→(x16_2/ 2^x19_6.toNat)=ji47:=shr_small hji47
  have H':=Aside0.mk H
  clear H
  go_wp2_with (first|(refine gs 104 Try.func108 #[.int .i64 a3,.int .i64 t542] ?_;(with_reducible refine(spec_l1Least.calls a3 t542 t543 _ A44.out).mono ?_);rintro e w' ⟨rfl,⟨nd,rfl⟩⟩;refine⟨_,rfl,?_⟩))
  go_meet
  case rel=>exact⟨_,(((Go.bits .and .i64 (ji47) 1)==0)),(by first|rfl|(simp;done)|(simp only[←hji47]<;>(first|rfl|simp))|(simp[*];done)),H',⟨by first|exact Nat.le_refl _|(have:=HK1.out;have:=HK2.out;have:=HK3.out;have:=HJ32.out;have:=HJ35.out;have:=HK6.out;have:=HK7.out;omega)⟩,⟨by(try simp only[hl11_2]);(try simp only[hl11_3]);(try simp only[hl11_6]);(try simp only[hl11_7]);(with_reducible repeat(first|apply Kd.S_alloc|apply Kd.S_drewN|apply Kd.S_drew));exact HO_11.out⟩,⟨by(try simp only[hl11_2]);(try simp only[hl11_3]);(try simp only[hl11_6]);(try simp only[hl11_7]);exact bm BK522.out⟩,⟨h1 HB.out GE522.out⟩⟩
 clear HC43
 try clear c1
 try clear c2
 try clear p2
 try clear q2
 try clear hx2
 try clear qi2
 try clear c3
 try clear c4
 try clear c5
 try clear p5
 try clear q5
 try clear hx5
 try clear qi5
 try clear p6
 try clear c7
 try clear c9
 try clear c10
 try clear c10b0
 try clear c13
 try clear c13b0
 try clear c14
 try clear c16
 try clear c19
 try clear c19b0
 try clear c19b1
 try clear c20
 try clear c20b0
 try clear c20b1
 try clear p21
 try clear q21
 try clear hx21
 try clear qi21
 try clear hf21
 try clear c23
 try clear q23
 try clear c25
 try clear c25b0
 try clear c26
 try clear c26b0
 try clear c27
 try clear c27b0
 try clear c28
 try clear c28b0
 try clear c30
 try clear c30b0
 try clear c31
 try clear c31b0
 try clear c32
 try clear c32b0
 try clear c34
 try clear c34b0
 try clear c34b1
 try clear c35
 try clear c35b0
 try clear c37
 try clear c38
 try clear c38b0
 try clear c39
 try clear c39b0
 try clear c45
 try clear c45b0
 try clear c46
 try clear c46b0
 try clear c46b1
 try clear hx21_0
 try clear hx535_0
 try clear hx539_0
 try clear hx540_0
 try clear hx541_0
 try clear hx541_1
 try clear hx541_2
 try clear p2
 try clear p21
 try clear p5
 try clear p535
 try clear p539
 try clear p540
 try clear p541
 try clear p6
 try clear q2
 try clear q21
 try clear q23
 try clear q5
 try clear q535
 try clear q539
 try clear q540
 try clear q541
 obtain⟨kq,x112_42,rfl,HA,HJ42,HO_11,BK522,HB⟩:=hcut
 obtain _|kj42:=kq;·cases HA.out
 obtain⟨H⟩:=HA
 simp only[spec_l7Best.j8]at H
 by_cases c48:x112_42=true
 rotate_left
 ·replace c48:=Bool.eq_false_iff.mpr c48
  subst c48
  rw[if_neg (show ¬(false=true)by decide)]at H
  have H':=Aside0.mk H
  clear H
  go_wp2
  (try simp only[←hl11_6,←hl11_7])
  go_roundg kj42
  case measure=>have:=HK1.out;have:=HK2.out;have:=HK3.out;have:=HJ32.out;have:=HJ35.out;have:=HK6.out;have:=HK7.out;have:=HJ42.out;omega
  case rel=>exact⟨(x11_7),(wrap64 (x19_6+1)),fd,H',⟨by have:=HK1.out;have:=HK2.out;have:=HK3.out;have:=HJ32.out;have:=HJ35.out;have:=HK6.out;have:=HK7.out;have:=HJ42.out;omega⟩,⟨by(try simp only[hl11_2]);(try simp only[hl11_3]);(try simp only[hl11_6]);(try simp only[hl11_7]);(with_reducible repeat(first|apply Kd.S_alloc|apply Kd.S_drewN|apply Kd.S_drew));exact HO_11.out⟩,⟨by(try simp only[hl11_2]);(try simp only[hl11_3]);(try simp only[hl11_6]);(try simp only[hl11_7]);exact bm BK522.out⟩,⟨h1 HB.out GE522.out⟩⟩
 subst c48
 rw[if_pos rfl]at H
 obtain⟨c49,H⟩:=gi H
 have c49b0:decide (0≤x19_6)=true:=decide_eq_true c49
 clear c49
 obtain⟨c50,H⟩:=gi H
 have c50b0:decide (x19_6<(l1.length:Int))=true:=decide_eq_true c50
 (try simp only[hl11_2,hl11_3,hl11_6,hl11_7]at c50b0)
 clear c50
 obtain⟨t546,A51,H⟩:=bd H;(try dsimp only at H)
 by_cases c52:a4=true
 rotate_left
 ·replace c52:=Bool.eq_false_iff.mpr c52
  subst c52
  rw[if_neg (show ¬(false=true)by decide)]at H
  have c86b0:=eq_true (od:0≤x19_6)
  generalize hji87: (shl .i64 1 x19_6)=ji87 at H
  (try rw[hji87]at A51)
  have hji87_: (IntKind.i64.wrap (1*2^min x19_6.toNat 64))=ji87:=hji87
  have hji87z:x19_6≤64→(IntKind.i64.wrap (1*2^x19_6.toNat))=ji87:=shl_small hji87
  have hji87u: (IntKind.i64.wrap (2^min x19_6.toNat 64))=ji87:=by have h_:=hji87_;rw[Int.one_mul]at h_;exact h_
  have hji87v:x19_6≤64→(IntKind.i64.wrap (2^x19_6.toNat))=ji87:=fun hle_=>by have h_:=hji87z hle_;rw[Int.one_mul]at h_;exact h_
  have hji87y: (wrap64 (1*2^min x19_6.toNat 64))=ji87:=(i64_w _).symm.trans hji87_
  have hji87x:x19_6≤64→(wrap64 (1*2^x19_6.toNat))=ji87:=fun h_=>(i64_w _).symm.trans (hji87z h_)
  generalize hji88: (wrap64 (x16_2+(ji87)))=ji88 at H
  (try rw[hji88]at A51)
  have hji88w: (IntKind.i64.wrap (x16_2+(ji87)))=ji88:=(i64_w _).trans hji88
  obtain⟨c89,H⟩:=gi H
  have c89b0:decide (0≤(ji88))=true:=decide_eq_true c89
  clear c89
  obtain⟨c90,H⟩:=gi H
  have c90b0:decide ((ji88)<(x11_7.length:Int))=true:=decide_eq_true c90
  (try simp only[hl11_2,hl11_3,hl11_6,hl11_7]at c90b0)
  clear c90
  generalize hji91: (wrap64 (x21_7-a2))=ji91 at H
  (try rw[hji91]at A51)
  have hji91w: (IntKind.i64.wrap (x21_7-a2))=ji91:=(i64_w _).trans hji91
  obtain⟨c92,H⟩:=gi H
  have c92b0:decide (0≤(ji91))=true:=decide_eq_true c92
  clear c92
  obtain⟨c93,H⟩:=gi H
  have c93b0:decide ((ji91)<((rd_L2 x11_7 (ji88)).length:Int))=true:=decide_eq_true c93
  (try simp only[hl11_2,hl11_3,hl11_6,hl11_7]at c93b0)
  clear c93
  by_cases c94: (rd (rd_L2 x11_7 (ji88)) (ji91))<0
  ·rw[if_pos c94]at H
   have c94b0:decide ((rd (rd_L2 x11_7 (ji88)) (ji91))<0)=true:=decide_eq_true c94
   clear c94
   have c95b0:=eq_true (od:0≤x19_6)
   generalize hy562: (rd_L2 x11_7 (ji88)).set ((ji91):Int).toNat (wrap64 ((rd (rd_L2 x11_3 x16_2) (ji29))+(wrap64 (((rd_T63 l1 x19_6).f2)*t546))))=y562 at H
   have Ny562:=ak hy562.symm
   clear hy562
   generalize hy564: (x11_7.set ((ji88):Int).toNat y562:List (List Int))=y564 at H
   have Ny564:=ak hy564.symm
   clear hy564
   have H':=Aside0.mk H
   clear H
   try go_wp2
   replace HO_11:=ak (Kd.S_drew HO_11.out)
   replace BK522:=ak (blk_drew BK522.out)
   replace HB:=ak (below_drew1 HB.out)
   have p544:0≤(x19_6:Int):=od
   have q544:x19_6<(l1.length:Int):=od
   obtain⟨ad544,e544,hx544_0,hx544_1,hx544_2⟩:=at_T63 HR1.out x19_6 p544 q544
   have hw544_2:=hx544_2
   have hw544_1:=hx544_1
   have hw544_0:=hx544_0
   obtain rfl:ad541=ad544:=(by injection e544)
   replace hx544_0:=hc HB hx544_0
   replace hx544_1:=hc HB hx544_1
   replace hx544_2:=hc HB hx544_2
   replace p544:=eq_true p544
   replace q544:=eq_true q544
   have p545:0≤(x19_6:Int):=od
   have q545:x19_6<(l1.length:Int):=od
   obtain⟨ad545,e545,hx545_0,hx545_1,hx545_2⟩:=at_T63 HR1.out x19_6 p545 q545
   have hw545_2:=hx545_2
   have hw545_1:=hx545_1
   have hw545_0:=hx545_0
   obtain rfl:ad541=ad545:=(by injection e545)
   replace hx545_0:=hc HB hx545_0
   replace hx545_1:=hc HB hx545_1
   replace hx545_2:=hc HB hx545_2
   replace p545:=eq_true p545
   replace q545:=eq_true q545
   refine start_ (n:=17) (S:=fun w'=>w'.cell? ⟨gb522,0,none⟩=some (.int .i64 a0_0)∧w'.cell? ⟨gb522,1,none⟩=some (.bool a0_1)∧w'.cell? (ad541.add ((x19_6).toNat*3))=some (.int .i64 ((rd_T63 l1 x19_6).f0))∧w'.cell? ⟨(ad541.add ((x19_6).toNat*3)).block,(ad541.add ((x19_6).toNat*3)).off+1,none⟩=some (.int .i64 ((rd_T63 l1 x19_6).f1))∧w'.cell? ⟨(ad541.add ((x19_6).toNat*3)).block,(ad541.add ((x19_6).toNat*3)).off+2,none⟩=some (.int .i64 ((rd_T63 l1 x19_6).f2))∧w'.cell? (ad541.add ((x19_6).toNat*3))=some (.int .i64 ((rd_T63 l1 x19_6).f0))∧w'.cell? ⟨(ad541.add ((x19_6).toNat*3)).block,(ad541.add ((x19_6).toNat*3)).off+1,none⟩=some (.int .i64 ((rd_T63 l1 x19_6).f1))∧w'.cell? ⟨(ad541.add ((x19_6).toNat*3)).block,(ad541.add ((x19_6).toNat*3)).off+2,none⟩=some (.int .i64 ((rd_T63 l1 x19_6).f2))) (ds:=[]) (lb 17 0) (by kernel_rfl) rfl rfl ⟨bc BK522 0 rfl,bc BK522 1 rfl,((HB.out.cell (World.block_lt_of_cell? w _ hw544_0)).trans hw544_0),((HB.out.cell (World.block_lt_of_cell? w _ hw544_1)).trans hw544_1),((HB.out.cell (World.block_lt_of_cell? w _ hw544_2)).trans hw544_2),((HB.out.cell (World.block_lt_of_cell? w _ hw545_0)).trans hw545_0),((HB.out.cell (World.block_lt_of_cell? w _ hw545_1)).trans hw545_1),((HB.out.cell (World.block_lt_of_cell? w _ hw545_2)).trans hw545_2)⟩ (fun hHeld=>?_);refine with_tabW spec_l7Best.tab30 spec_l7Best.bits30 (fun HT_ HW_=>?_)
   generalize wc.drew=w98 at HO_11 BK522 HB hx544_0 hx544_1 hx544_2 hx545_0 hx545_1 hx545_2 hHeld⊢
   refine pq 0 (N:=some 115) (lb 17 1) HT_ ?_
   refine pq 1 (N:=some 116) (lb 17 3) HT_ ?_
   refine pq 2 (N:=some 117) (lb 17 7) HT_ ?_
   refine pq 3 (N:=some 118) (lb 17 15) HT_ ?_
   refine pq 4 (N:=some 119) (lb 17 31) HT_ ?_
   refine pq 7 (N:=some 122) (lb 17 159) HT_ ?_
   refine pq 8 (N:=some 123) (lb 17 415) HT_ ?_
   refine pq 9 (N:=some 124) (lb 17 927) HT_ ?_
   refine pq 11 (N:=some 126) (lb 17 2975) HT_ ?_
   refine pq 12 (N:=some 127) (lb 17 7071) HT_ ?_
   refine take_ (i:=5) (N:=some 120) (v:=?_) (a':=?_) (lb 17 7103) rfl rfl (take_ofW HT_.out HW_.out (by kernel_rfl)) (fun _ _ _ h=>h) (Or.inl ⟨by rfl,?_⟩) hHeld ?_ ?_
   rotate_left
   ·rintro w' ⟨s0,s1,s2,s3,s4,s5,s6,s7⟩
    go_simp
    with_reducible rfl
   rotate_left
   ·simp only[ap]
    rfl
   refine take_ (i:=6) (N:=some 121) (v:=?_) (a':=?_) (lb 17 7167) rfl rfl (take_ofW HT_.out HW_.out (by kernel_rfl)) (fun _ _ _ h=>h) (Or.inl ⟨by rfl,?_⟩) hHeld ?_ ?_
   rotate_left
   ·rintro w' ⟨s0,s1,s2,s3,s4,s5,s6,s7⟩
    go_simp
    with_reducible rfl
   rotate_left
   ·simp only[ap]
    rfl
   refine take_ (i:=10) (N:=some 125) (v:=?_) (a':=?_) (lb 17 8191) rfl rfl (take_ofW HT_.out HW_.out (by kernel_rfl)) (fun _ _ _ h=>h) (Or.inl ⟨by rfl,?_⟩) hHeld ?_ ?_
   rotate_left
   ·rintro w' ⟨s0,s1,s2,s3,s4,s5,s6,s7⟩
    go_simp
    with_reducible rfl
   rotate_left
   ·simp only[ap]
    rfl
   refine one_ (i:=13) (N:=some 128) (lb 17 16383) rfl rfl (one_of HT_.out (by kernel_rfl)) (by decide) (fun K hK=>?_)
   refine goes_ Try.func61 (by kernel_rfl) rfl #[.agg #[.int .i64 a0_0,.bool a0_1],.agg #[.int .i64 ((rd_T63 l1 x19_6).f0),.int .i64 ((rd_T63 l1 x19_6).f1),.int .i64 ((rd_T63 l1 x19_6).f2)],.int .i64 x17_3,.int .i64 x21_7] (by rfl) rfl rfl gl ?_
   with_reducible refine(spec_l7Steps.calls a0_0 a0_1 ((rd_T63 l1 x19_6).f0) ((rd_T63 l1 x19_6).f1) ((rd_T63 l1 x19_6).f2) x17_3 x21_7 t546 _ A51.out).mono ?_
   rintro e w99 ⟨rfl,hb⟩
   refine⟨_,rfl,?_⟩
   replace HO_11:=ak (Kd.S_below (sm HO_11.out) hb)
   replace BK522:=kb BK522 hb
   replace HB:=ak (below_step (h1 HB.out GE522.out) hb)
   (try clear hb)
   (try clear hb2)
   (try clear hk)
   (try clear hi)
   refine hK.out _ _ ⟨bc BK522 0 rfl,bc BK522 1 rfl,((HB.out.cell (World.block_lt_of_cell? w _ hw544_0)).trans hw544_0),((HB.out.cell (World.block_lt_of_cell? w _ hw544_1)).trans hw544_1),((HB.out.cell (World.block_lt_of_cell? w _ hw544_2)).trans hw544_2),((HB.out.cell (World.block_lt_of_cell? w _ hw545_0)).trans hw545_0),((HB.out.cell (World.block_lt_of_cell? w _ hw545_1)).trans hw545_1),((HB.out.cell (World.block_lt_of_cell? w _ hw545_2)).trans hw545_2)⟩ (fun hHeld=>?_)
   clear hK K
   refine norm_ (a':=?_) ?_ ?_
   rotate_left
   ·show Act.put _ (some 128) _=_
    simp only[ap]
    rfl
   refine pq 14 (N:=some 129) (lb 17 32767) HT_ ?_
   refine pq 15 (N:=some 130) (lb 17 65535) HT_ ?_
   refine pq 16 (N:=some 22) (lb 17 131071) HT_ ?_
   refine done_ (done_of HT_.out (by kernel_rfl)) ?_
   have p559:0≤((ji88):Int):=od
   have q559: (ji88)<(x11_7.length:Int):=od
   obtain⟨ad559,A559_0,c559_0,e559,hx559_0,hl559_0,hi559_0⟩:=at_L2 (Kd.S_reads' HO_11.out).2.2 (ji88) p559 q559
   obtain rfl:ad535=ad559:=(by injection e559)
   obtain⟨ce559,hce559,hMe559,hcc559⟩:=Kd.S_get HO_11.out [] (ji88) p559 (by first|exact q559|exact od|(have e_:=(Kd.S_reads' HO_11.out).1;omega))
   obtain⟨ve559_0,rfl,ge559_0⟩:=hMe559
   have hv559_0:=hcc559 0 _ rfl
   rw[Nat.add_zero,show((Kd.slice 3 (Kd.int .i64))).sz=1 from rfl,Nat.mul_one]at hv559_0
   replace hv559_0:=Option.some.inj (hv559_0.symm.trans hx559_0)
   rw[hv559_0]at ge559_0
   have HL559_0:=Aside0.mk (show Kd.R (Kd.int .i64) 3 _ _ _ _ (rd_L2 x11_7 (ji88))from ge559_0)
   clear hv559_0 ge559_0
   have HX559_0:=Aside0.mk hx559_0
   clear hcc559 hce559
   have HR559_0:=Aside0.mk hi559_0
   have HC559_0:=Aside0.mk hl559_0
   clear hi559_0 hl559_0
   replace p559:=eq_true p559
   replace q559:=eq_true q559
   have p560:0≤((ji91):Int):=od
   have q560: (ji91)<((rd_L2 x11_7 (ji88)).length:Int):=od
   obtain⟨ad560,e560,hx560_0⟩:=Kd.at_int (by repeat(first|(with_reducible exact HR559_0.out)|(with_reducible refine C_alloc ?_ _)|(with_reducible refine C_drewN ?_ _)|(with_reducible refine C_drew ?_)|exact HR559_0.out)) (ji91) p560 q560
   cases e560
   replace p560:=eq_true p560
   replace q560:=eq_true q560
   have p561:0≤((ji88):Int):=od
   have q561: (ji88)<(x11_7.length:Int):=od
   obtain⟨ad561,A561_0,c561_0,e561,hx561_0,hl561_0,hi561_0⟩:=at_L2 (Kd.S_reads' HO_11.out).2.2 (ji88) p561 q561
   obtain rfl:ad535=ad561:=(by injection e561)
   obtain⟨ce561,hce561,hMe561,hcc561⟩:=Kd.S_get HO_11.out [] (ji88) p561 (by first|exact q561|exact od|(have e_:=(Kd.S_reads' HO_11.out).1;omega))
   obtain⟨ve561_0,rfl,ge561_0⟩:=hMe561
   have hv561_0:=hcc561 0 _ rfl
   rw[Nat.add_zero,show((Kd.slice 3 (Kd.int .i64))).sz=1 from rfl,Nat.mul_one]at hv561_0
   replace hv561_0:=Option.some.inj (hv561_0.symm.trans hx561_0)
   rw[hv561_0]at ge561_0
   have HL561_0:=Aside0.mk (show Kd.R (Kd.int .i64) 3 _ _ _ _ (rd_L2 x11_7 (ji88))from ge561_0)
   clear hv561_0 ge561_0
   have HX561_0:=Aside0.mk hx561_0
   clear hcc561 hce561
   have HR561_0:=Aside0.mk hi561_0
   have HC561_0:=Aside0.mk hl561_0
   clear hi561_0 hl561_0
   replace p561:=eq_true p561
   replace q561:=eq_true q561
   have ea_:=Option.some.inj (hx559_0.symm.trans hx561_0)
   injection ea_ with ea_ en_ ec_
   subst ea_
   subst ec_
   clear en_
   have p97:0≤((ji91):Int):=od
   have q97: ((ji91):Int)<(((rd_L2 x11_7 (ji88)).length:Int):Int):=od
   obtain⟨go97,co97,eo97,gb97,gl97,cl97,HG97⟩:=R_form HL561_0.out (by omega)
   (first|cases eo97|(injection eo97 with ea_ en_ ec_;(first|subst ea_|(injection ea_ with ea_;subst ea_));subst ec_;clear en_))
   have GB97:=Aside0.mk gb97
   have GG97:=Aside0.mk HG97
   clear gb97 gl97 HG97
   (first|simp only[add_plain]at hx560_0|skip)
   obtain⟨hx97_0,hf97_0⟩:=R_celln 0 HL561_0.out ((ji91):Int) p97 q97
   replace p97:=eq_true p97
   replace q97:=eq_true q97
   have hq100: ((ji88):Int)<(x11_7.length:Int):=(by have h_: ((ji88):Int)<((x11_7.length:Int):Int):=od;first|exact h_|(have e_:=(Kd.S_reads' HO_11.out).1;omega)|simpa only[List.length_set,List.length_set]using h_)
   obtain⟨oki100,ce100,hcl100,hM100,hcc100,hok100,hbk100⟩:=Kd.S_borrow HO_11.out [] ((ji88):Int) (od) hq100
   obtain⟨ve100_0,rfl,ge100_0⟩:=hM100
   have hv100:=hcc100 0 _ rfl
   rw[Nat.add_zero,show((Kd.slice 3 (Kd.int .i64))).sz=1 from rfl,Nat.mul_one]at hv100
   replace hv100:=Option.some.inj (hv100.symm.trans HX561_0.out)
   subst hv100
   clear hcc100 hcl100
   replace ge100_0:=(show Kd.R (Kd.int .i64) 3 _ _ _ _ (rd_L2 x11_7 (ji88))from ge100_0)
   have HP100:=R_putg ge100_0 ((ji91):Int) (wrap64 ((rd (rd_L2 x11_3 x16_2) (ji29))+(wrap64 (((rd_T63 l1 x19_6).f2)*t546))))
   try go_wp2_with (first|((with_reducible refine gate_store (t:=3) (p:=171) rfl ?_);refine store_event (t:=3) (p:=171) (v:=?vo_w101) (w1:=(w99.setCell ⟨go97,((ji91):Int).toNat,none⟩ (.int .i64 (wrap64 ((rd (rd_L2 x11_3 x16_2) (ji29))+(wrap64 (((rd_T63 l1 x19_6).f2)*t546))))))) ?hg ?ho ?hn ?hr ?_;(case ho=>rfl);(case hg=>rfl);(case hn=>rfl);(case hr=>first|(go_simp;done)|(go_simp;rfl));intro w101 hw;have hg:w99.grownBy w101 (some go97):=(by rw[hw];exact HP100.2);have hz_:Kd.R (Kd.int .i64) 3 w101 w.heap.size oki100 (.slice (some ⟨go97,0,none⟩) (rd_L2 x11_7 (ji88)).length c559_0) y562:=(by rw[hw,Ny562.out];exact HP100.1);have hp_:Kd.S (Kd.slice 3 (Kd.int .i64)) 40 w101 w.heap.size (fun _=>True) (.slice (some ad535) x11_7.length co22) y564:=(by rw[Ny564.out];exact hbk100 hg (fun k_ e_=>by injection e_ with e_;subst e_;exact ge100_0.1 _ rfl) (Kd.M_row hz_));have hm_:=R_mono hz_ hok100;clear HP100 hbk100;replace HO_11:=ak hp_;replace BK522:=ak (blk_grown (g:=gb522) (o:=.cells #[.int .i64 a0_0,.bool a0_1] 28 (0,0)) (bm BK522.out) hg (R_ne HL561_0.out BK522.out (by decide)));replace HB:=ak ((by rw[hw];exact below_set (HB.out) GB97.out:Below w.heap.size w w101));have HL572:=ak hm_;have HC563:=ak ((R_reads' hm_).2.1);clear HL559_0 HL561_0;clear hg hw hp_ hz_ hm_ hok100))
   (try simp only[←hl11_7])
   go_roundg kj42
   case measure=>have:=HK1.out;have:=HK2.out;have:=HK3.out;have:=HJ32.out;have:=HJ35.out;have:=HK6.out;have:=HK7.out;have:=HJ42.out;omega
   case rel=>exact⟨(y564),(wrap64 (x21_7+1)),fd,H',⟨by have:=HK1.out;have:=HK2.out;have:=HK3.out;have:=HJ32.out;have:=HJ35.out;have:=HK6.out;have:=HK7.out;have:=HJ42.out;omega⟩,⟨by(try simp only[hl11_2]);(try simp only[hl11_3]);(try simp only[hl11_6]);(try simp only[hl11_7]);(with_reducible repeat(first|apply Kd.S_alloc|apply Kd.S_drewN|apply Kd.S_drew));exact HO_11.out⟩,⟨by(try simp only[hl11_2]);(try simp only[hl11_3]);(try simp only[hl11_6]);(try simp only[hl11_7]);exact bm BK522.out⟩,⟨h1 HB.out GE522.out⟩⟩
  rw[if_neg c94]at H
  have c94b0:decide ((rd (rd_L2 x11_7 (ji88)) (ji91))<0)=false:=decide_eq_false c94
  clear c94
  by_cases c102: (wrap64 ((rd (rd_L2 x11_3 x16_2) (ji29))+(wrap64 (((rd_T63 l1 x19_6).f2)*t546))))<(rd (rd_L2 x11_7 (ji88)) (ji91))
  rotate_left
  ·rw[if_neg c102]at H
   have c102b0:decide ((wrap64 ((rd (rd_L2 x11_3 x16_2) (ji29))+(wrap64 (((rd_T63 l1 x19_6).f2)*t546))))<(rd (rd_L2 x11_7 (ji88)) (ji91)))=false:=decide_eq_false c102
   clear c102
   have H':=Aside0.mk H
   clear H
   try go_wp2
   replace HO_11:=ak (Kd.S_drew HO_11.out)
   replace BK522:=ak (blk_drew BK522.out)
   replace HB:=ak (below_drew1 HB.out)
   have p544:0≤(x19_6:Int):=od
   have q544:x19_6<(l1.length:Int):=od
   obtain⟨ad544,e544,hx544_0,hx544_1,hx544_2⟩:=at_T63 HR1.out x19_6 p544 q544
   have hw544_2:=hx544_2
   have hw544_1:=hx544_1
   have hw544_0:=hx544_0
   obtain rfl:ad541=ad544:=(by injection e544)
   replace hx544_0:=hc HB hx544_0
   replace hx544_1:=hc HB hx544_1
   replace hx544_2:=hc HB hx544_2
   replace p544:=eq_true p544
   replace q544:=eq_true q544
   have p545:0≤(x19_6:Int):=od
   have q545:x19_6<(l1.length:Int):=od
   obtain⟨ad545,e545,hx545_0,hx545_1,hx545_2⟩:=at_T63 HR1.out x19_6 p545 q545
   have hw545_2:=hx545_2
   have hw545_1:=hx545_1
   have hw545_0:=hx545_0
   obtain rfl:ad541=ad545:=(by injection e545)
   replace hx545_0:=hc HB hx545_0
   replace hx545_1:=hc HB hx545_1
   replace hx545_2:=hc HB hx545_2
   replace p545:=eq_true p545
   replace q545:=eq_true q545
   refine start_ (n:=17) (S:=fun w'=>w'.cell? ⟨gb522,0,none⟩=some (.int .i64 a0_0)∧w'.cell? ⟨gb522,1,none⟩=some (.bool a0_1)∧w'.cell? (ad541.add ((x19_6).toNat*3))=some (.int .i64 ((rd_T63 l1 x19_6).f0))∧w'.cell? ⟨(ad541.add ((x19_6).toNat*3)).block,(ad541.add ((x19_6).toNat*3)).off+1,none⟩=some (.int .i64 ((rd_T63 l1 x19_6).f1))∧w'.cell? ⟨(ad541.add ((x19_6).toNat*3)).block,(ad541.add ((x19_6).toNat*3)).off+2,none⟩=some (.int .i64 ((rd_T63 l1 x19_6).f2))∧w'.cell? (ad541.add ((x19_6).toNat*3))=some (.int .i64 ((rd_T63 l1 x19_6).f0))∧w'.cell? ⟨(ad541.add ((x19_6).toNat*3)).block,(ad541.add ((x19_6).toNat*3)).off+1,none⟩=some (.int .i64 ((rd_T63 l1 x19_6).f1))∧w'.cell? ⟨(ad541.add ((x19_6).toNat*3)).block,(ad541.add ((x19_6).toNat*3)).off+2,none⟩=some (.int .i64 ((rd_T63 l1 x19_6).f2))) (ds:=[]) (lb 17 0) (by kernel_rfl) rfl rfl ⟨bc BK522 0 rfl,bc BK522 1 rfl,((HB.out.cell (World.block_lt_of_cell? w _ hw544_0)).trans hw544_0),((HB.out.cell (World.block_lt_of_cell? w _ hw544_1)).trans hw544_1),((HB.out.cell (World.block_lt_of_cell? w _ hw544_2)).trans hw544_2),((HB.out.cell (World.block_lt_of_cell? w _ hw545_0)).trans hw545_0),((HB.out.cell (World.block_lt_of_cell? w _ hw545_1)).trans hw545_1),((HB.out.cell (World.block_lt_of_cell? w _ hw545_2)).trans hw545_2)⟩ (fun hHeld=>?_);refine with_tabW spec_l7Best.tab30 spec_l7Best.bits30 (fun HT_ HW_=>?_)
   generalize wc.drew=w110 at HO_11 BK522 HB hx544_0 hx544_1 hx544_2 hx545_0 hx545_1 hx545_2 hHeld⊢
   refine pq 0 (N:=some 115) (lb 17 1) HT_ ?_
   refine pq 1 (N:=some 116) (lb 17 3) HT_ ?_
   refine pq 2 (N:=some 117) (lb 17 7) HT_ ?_
   refine pq 3 (N:=some 118) (lb 17 15) HT_ ?_
   refine pq 4 (N:=some 119) (lb 17 31) HT_ ?_
   refine pq 7 (N:=some 122) (lb 17 159) HT_ ?_
   refine pq 8 (N:=some 123) (lb 17 415) HT_ ?_
   refine pq 9 (N:=some 124) (lb 17 927) HT_ ?_
   refine pq 11 (N:=some 126) (lb 17 2975) HT_ ?_
   refine pq 12 (N:=some 127) (lb 17 7071) HT_ ?_
   refine take_ (i:=5) (N:=some 120) (v:=?_) (a':=?_) (lb 17 7103) rfl rfl (take_ofW HT_.out HW_.out (by kernel_rfl)) (fun _ _ _ h=>h) (Or.inl ⟨by rfl,?_⟩) hHeld ?_ ?_
   rotate_left
   ·rintro w' ⟨s0,s1,s2,s3,s4,s5,s6,s7⟩
    go_simp
    with_reducible rfl
   rotate_left
   ·simp only[ap]
    rfl
   refine take_ (i:=6) (N:=some 121) (v:=?_) (a':=?_) (lb 17 7167) rfl rfl (take_ofW HT_.out HW_.out (by kernel_rfl)) (fun _ _ _ h=>h) (Or.inl ⟨by rfl,?_⟩) hHeld ?_ ?_
   rotate_left
   ·rintro w' ⟨s0,s1,s2,s3,s4,s5,s6,s7⟩
    go_simp
    with_reducible rfl
   rotate_left
   ·simp only[ap]
    rfl
   refine take_ (i:=10) (N:=some 125) (v:=?_) (a':=?_) (lb 17 8191) rfl rfl (take_ofW HT_.out HW_.out (by kernel_rfl)) (fun _ _ _ h=>h) (Or.inl ⟨by rfl,?_⟩) hHeld ?_ ?_
   rotate_left
   ·rintro w' ⟨s0,s1,s2,s3,s4,s5,s6,s7⟩
    go_simp
    with_reducible rfl
   rotate_left
   ·simp only[ap]
    rfl
   refine one_ (i:=13) (N:=some 128) (lb 17 16383) rfl rfl (one_of HT_.out (by kernel_rfl)) (by decide) (fun K hK=>?_)
   refine goes_ Try.func61 (by kernel_rfl) rfl #[.agg #[.int .i64 a0_0,.bool a0_1],.agg #[.int .i64 ((rd_T63 l1 x19_6).f0),.int .i64 ((rd_T63 l1 x19_6).f1),.int .i64 ((rd_T63 l1 x19_6).f2)],.int .i64 x17_3,.int .i64 x21_7] (by rfl) rfl rfl gl ?_
   with_reducible refine(spec_l7Steps.calls a0_0 a0_1 ((rd_T63 l1 x19_6).f0) ((rd_T63 l1 x19_6).f1) ((rd_T63 l1 x19_6).f2) x17_3 x21_7 t546 _ A51.out).mono ?_
   rintro e w111 ⟨rfl,hb⟩
   refine⟨_,rfl,?_⟩
   replace HO_11:=ak (Kd.S_below (sm HO_11.out) hb)
   replace BK522:=kb BK522 hb
   replace HB:=ak (below_step (h1 HB.out GE522.out) hb)
   (try clear hb)
   (try clear hb2)
   (try clear hk)
   (try clear hi)
   refine hK.out _ _ ⟨bc BK522 0 rfl,bc BK522 1 rfl,((HB.out.cell (World.block_lt_of_cell? w _ hw544_0)).trans hw544_0),((HB.out.cell (World.block_lt_of_cell? w _ hw544_1)).trans hw544_1),((HB.out.cell (World.block_lt_of_cell? w _ hw544_2)).trans hw544_2),((HB.out.cell (World.block_lt_of_cell? w _ hw545_0)).trans hw545_0),((HB.out.cell (World.block_lt_of_cell? w _ hw545_1)).trans hw545_1),((HB.out.cell (World.block_lt_of_cell? w _ hw545_2)).trans hw545_2)⟩ (fun hHeld=>?_)
   clear hK K
   refine norm_ (a':=?_) ?_ ?_
   rotate_left
   ·show Act.put _ (some 128) _=_
    simp only[ap]
    rfl
   refine pq 14 (N:=some 129) (lb 17 32767) HT_ ?_
   refine pq 15 (N:=some 130) (lb 17 65535) HT_ ?_
   refine pq 16 (N:=some 22) (lb 17 131071) HT_ ?_
   refine done_ (done_of HT_.out (by kernel_rfl)) ?_
   have p559:0≤((ji88):Int):=od
   have q559: (ji88)<(x11_7.length:Int):=od
   obtain⟨ad559,A559_0,c559_0,e559,hx559_0,hl559_0,hi559_0⟩:=at_L2 (Kd.S_reads' HO_11.out).2.2 (ji88) p559 q559
   obtain rfl:ad535=ad559:=(by injection e559)
   obtain⟨ce559,hce559,hMe559,hcc559⟩:=Kd.S_get HO_11.out [] (ji88) p559 (by first|exact q559|exact od|(have e_:=(Kd.S_reads' HO_11.out).1;omega))
   obtain⟨ve559_0,rfl,ge559_0⟩:=hMe559
   have hv559_0:=hcc559 0 _ rfl
   rw[Nat.add_zero,show((Kd.slice 3 (Kd.int .i64))).sz=1 from rfl,Nat.mul_one]at hv559_0
   replace hv559_0:=Option.some.inj (hv559_0.symm.trans hx559_0)
   rw[hv559_0]at ge559_0
   have HL559_0:=Aside0.mk (show Kd.R (Kd.int .i64) 3 _ _ _ _ (rd_L2 x11_7 (ji88))from ge559_0)
   clear hv559_0 ge559_0
   have HX559_0:=Aside0.mk hx559_0
   clear hcc559 hce559
   have HR559_0:=Aside0.mk hi559_0
   have HC559_0:=Aside0.mk hl559_0
   clear hi559_0 hl559_0
   replace p559:=eq_true p559
   replace q559:=eq_true q559
   have p560:0≤((ji91):Int):=od
   have q560: (ji91)<((rd_L2 x11_7 (ji88)).length:Int):=od
   obtain⟨ad560,e560,hx560_0⟩:=Kd.at_int (by repeat(first|(with_reducible exact HR559_0.out)|(with_reducible refine C_alloc ?_ _)|(with_reducible refine C_drewN ?_ _)|(with_reducible refine C_drew ?_)|exact HR559_0.out)) (ji91) p560 q560
   cases e560
   replace p560:=eq_true p560
   replace q560:=eq_true q560
   try go_wp2
   (try simp only[←hl11_7])
   go_roundg kj42
   case measure=>have:=HK1.out;have:=HK2.out;have:=HK3.out;have:=HJ32.out;have:=HJ35.out;have:=HK6.out;have:=HK7.out;have:=HJ42.out;omega
   case rel=>exact⟨(x11_7),(wrap64 (x21_7+1)),fd,H',⟨by have:=HK1.out;have:=HK2.out;have:=HK3.out;have:=HJ32.out;have:=HJ35.out;have:=HK6.out;have:=HK7.out;have:=HJ42.out;omega⟩,⟨by(try simp only[hl11_2]);(try simp only[hl11_3]);(try simp only[hl11_6]);(try simp only[hl11_7]);(with_reducible repeat(first|apply Kd.S_alloc|apply Kd.S_drewN|apply Kd.S_drew));exact HO_11.out⟩,⟨by(try simp only[hl11_2]);(try simp only[hl11_3]);(try simp only[hl11_6]);(try simp only[hl11_7]);exact bm BK522.out⟩,⟨h1 HB.out GE522.out⟩⟩
  rw[if_pos c102]at H
  have c102b0:decide ((wrap64 ((rd (rd_L2 x11_3 x16_2) (ji29))+(wrap64 (((rd_T63 l1 x19_6).f2)*t546))))<(rd (rd_L2 x11_7 (ji88)) (ji91)))=true:=decide_eq_true c102
  clear c102
  have c103b0:=eq_true (od:0≤x19_6)
  generalize hy566: (rd_L2 x11_7 (ji88)).set ((ji91):Int).toNat (wrap64 ((rd (rd_L2 x11_3 x16_2) (ji29))+(wrap64 (((rd_T63 l1 x19_6).f2)*t546))))=y566 at H
  have Ny566:=ak hy566.symm
  clear hy566
  generalize hy568: (x11_7.set ((ji88):Int).toNat y566:List (List Int))=y568 at H
  have Ny568:=ak hy568.symm
  clear hy568
  have H':=Aside0.mk H
  clear H
  try go_wp2
  replace HO_11:=ak (Kd.S_drew HO_11.out)
  replace BK522:=ak (blk_drew BK522.out)
  replace HB:=ak (below_drew1 HB.out)
  have p544:0≤(x19_6:Int):=od
  have q544:x19_6<(l1.length:Int):=od
  obtain⟨ad544,e544,hx544_0,hx544_1,hx544_2⟩:=at_T63 HR1.out x19_6 p544 q544
  have hw544_2:=hx544_2
  have hw544_1:=hx544_1
  have hw544_0:=hx544_0
  obtain rfl:ad541=ad544:=(by injection e544)
  replace hx544_0:=hc HB hx544_0
  replace hx544_1:=hc HB hx544_1
  replace hx544_2:=hc HB hx544_2
  replace p544:=eq_true p544
  replace q544:=eq_true q544
  have p545:0≤(x19_6:Int):=od
  have q545:x19_6<(l1.length:Int):=od
  obtain⟨ad545,e545,hx545_0,hx545_1,hx545_2⟩:=at_T63 HR1.out x19_6 p545 q545
  have hw545_2:=hx545_2
  have hw545_1:=hx545_1
  have hw545_0:=hx545_0
  obtain rfl:ad541=ad545:=(by injection e545)
  replace hx545_0:=hc HB hx545_0
  replace hx545_1:=hc HB hx545_1
  replace hx545_2:=hc HB hx545_2
  replace p545:=eq_true p545
  replace q545:=eq_true q545
  refine start_ (n:=17) (S:=fun w'=>w'.cell? ⟨gb522,0,none⟩=some (.int .i64 a0_0)∧w'.cell? ⟨gb522,1,none⟩=some (.bool a0_1)∧w'.cell? (ad541.add ((x19_6).toNat*3))=some (.int .i64 ((rd_T63 l1 x19_6).f0))∧w'.cell? ⟨(ad541.add ((x19_6).toNat*3)).block,(ad541.add ((x19_6).toNat*3)).off+1,none⟩=some (.int .i64 ((rd_T63 l1 x19_6).f1))∧w'.cell? ⟨(ad541.add ((x19_6).toNat*3)).block,(ad541.add ((x19_6).toNat*3)).off+2,none⟩=some (.int .i64 ((rd_T63 l1 x19_6).f2))∧w'.cell? (ad541.add ((x19_6).toNat*3))=some (.int .i64 ((rd_T63 l1 x19_6).f0))∧w'.cell? ⟨(ad541.add ((x19_6).toNat*3)).block,(ad541.add ((x19_6).toNat*3)).off+1,none⟩=some (.int .i64 ((rd_T63 l1 x19_6).f1))∧w'.cell? ⟨(ad541.add ((x19_6).toNat*3)).block,(ad541.add ((x19_6).toNat*3)).off+2,none⟩=some (.int .i64 ((rd_T63 l1 x19_6).f2))) (ds:=[]) (lb 17 0) (by kernel_rfl) rfl rfl ⟨bc BK522 0 rfl,bc BK522 1 rfl,((HB.out.cell (World.block_lt_of_cell? w _ hw544_0)).trans hw544_0),((HB.out.cell (World.block_lt_of_cell? w _ hw544_1)).trans hw544_1),((HB.out.cell (World.block_lt_of_cell? w _ hw544_2)).trans hw544_2),((HB.out.cell (World.block_lt_of_cell? w _ hw545_0)).trans hw545_0),((HB.out.cell (World.block_lt_of_cell? w _ hw545_1)).trans hw545_1),((HB.out.cell (World.block_lt_of_cell? w _ hw545_2)).trans hw545_2)⟩ (fun hHeld=>?_);refine with_tabW spec_l7Best.tab30 spec_l7Best.bits30 (fun HT_ HW_=>?_)
  generalize wc.drew=w106 at HO_11 BK522 HB hx544_0 hx544_1 hx544_2 hx545_0 hx545_1 hx545_2 hHeld⊢
  refine pq 0 (N:=some 115) (lb 17 1) HT_ ?_
  refine pq 1 (N:=some 116) (lb 17 3) HT_ ?_
  refine pq 2 (N:=some 117) (lb 17 7) HT_ ?_
  refine pq 3 (N:=some 118) (lb 17 15) HT_ ?_
  refine pq 4 (N:=some 119) (lb 17 31) HT_ ?_
  refine pq 7 (N:=some 122) (lb 17 159) HT_ ?_
  refine pq 8 (N:=some 123) (lb 17 415) HT_ ?_
  refine pq 9 (N:=some 124) (lb 17 927) HT_ ?_
  refine pq 11 (N:=some 126) (lb 17 2975) HT_ ?_
  refine pq 12 (N:=some 127) (lb 17 7071) HT_ ?_
  refine take_ (i:=5) (N:=some 120) (v:=?_) (a':=?_) (lb 17 7103) rfl rfl (take_ofW HT_.out HW_.out (by kernel_rfl)) (fun _ _ _ h=>h) (Or.inl ⟨by rfl,?_⟩) hHeld ?_ ?_
  rotate_left
  ·rintro w' ⟨s0,s1,s2,s3,s4,s5,s6,s7⟩
   go_simp
   with_reducible rfl
  rotate_left
  ·simp only[ap]
   rfl
  refine take_ (i:=6) (N:=some 121) (v:=?_) (a':=?_) (lb 17 7167) rfl rfl (take_ofW HT_.out HW_.out (by kernel_rfl)) (fun _ _ _ h=>h) (Or.inl ⟨by rfl,?_⟩) hHeld ?_ ?_
  rotate_left
  ·rintro w' ⟨s0,s1,s2,s3,s4,s5,s6,s7⟩
   go_simp
   with_reducible rfl
  rotate_left
  ·simp only[ap]
   rfl
  refine take_ (i:=10) (N:=some 125) (v:=?_) (a':=?_) (lb 17 8191) rfl rfl (take_ofW HT_.out HW_.out (by kernel_rfl)) (fun _ _ _ h=>h) (Or.inl ⟨by rfl,?_⟩) hHeld ?_ ?_
  rotate_left
  ·rintro w' ⟨s0,s1,s2,s3,s4,s5,s6,s7⟩
   go_simp
   with_reducible rfl
  rotate_left
  ·simp only[ap]
   rfl
  refine one_ (i:=13) (N:=some 128) (lb 17 16383) rfl rfl (one_of HT_.out (by kernel_rfl)) (by decide) (fun K hK=>?_)
  refine goes_ Try.func61 (by kernel_rfl) rfl #[.agg #[.int .i64 a0_0,.bool a0_1],.agg #[.int .i64 ((rd_T63 l1 x19_6).f0),.int .i64 ((rd_T63 l1 x19_6).f1),.int .i64 ((rd_T63 l1 x19_6).f2)],.int .i64 x17_3,.int .i64 x21_7] (by rfl) rfl rfl gl ?_
  with_reducible refine(spec_l7Steps.calls a0_0 a0_1 ((rd_T63 l1 x19_6).f0) ((rd_T63 l1 x19_6).f1) ((rd_T63 l1 x19_6).f2) x17_3 x21_7 t546 _ A51.out).mono ?_
  rintro e w107 ⟨rfl,hb⟩
  refine⟨_,rfl,?_⟩
  replace HO_11:=ak (Kd.S_below (sm HO_11.out) hb)
  replace BK522:=kb BK522 hb
  replace HB:=ak (below_step (h1 HB.out GE522.out) hb)
  (try clear hb)
  (try clear hb2)
  (try clear hk)
  (try clear hi)
  refine hK.out _ _ ⟨bc BK522 0 rfl,bc BK522 1 rfl,((HB.out.cell (World.block_lt_of_cell? w _ hw544_0)).trans hw544_0),((HB.out.cell (World.block_lt_of_cell? w _ hw544_1)).trans hw544_1),((HB.out.cell (World.block_lt_of_cell? w _ hw544_2)).trans hw544_2),((HB.out.cell (World.block_lt_of_cell? w _ hw545_0)).trans hw545_0),((HB.out.cell (World.block_lt_of_cell? w _ hw545_1)).trans hw545_1),((HB.out.cell (World.block_lt_of_cell? w _ hw545_2)).trans hw545_2)⟩ (fun hHeld=>?_)
  clear hK K
  refine norm_ (a':=?_) ?_ ?_
  rotate_left
  ·show Act.put _ (some 128) _=_
   simp only[ap]
   rfl
  refine pq 14 (N:=some 129) (lb 17 32767) HT_ ?_
  refine pq 15 (N:=some 130) (lb 17 65535) HT_ ?_
  refine pq 16 (N:=some 22) (lb 17 131071) HT_ ?_
  refine done_ (done_of HT_.out (by kernel_rfl)) ?_
  have p559:0≤((ji88):Int):=od
  have q559: (ji88)<(x11_7.length:Int):=od
  obtain⟨ad559,A559_0,c559_0,e559,hx559_0,hl559_0,hi559_0⟩:=at_L2 (Kd.S_reads' HO_11.out).2.2 (ji88) p559 q559
  obtain rfl:ad535=ad559:=(by injection e559)
  obtain⟨ce559,hce559,hMe559,hcc559⟩:=Kd.S_get HO_11.out [] (ji88) p559 (by first|exact q559|exact od|(have e_:=(Kd.S_reads' HO_11.out).1;omega))
  obtain⟨ve559_0,rfl,ge559_0⟩:=hMe559
  have hv559_0:=hcc559 0 _ rfl
  rw[Nat.add_zero,show((Kd.slice 3 (Kd.int .i64))).sz=1 from rfl,Nat.mul_one]at hv559_0
  replace hv559_0:=Option.some.inj (hv559_0.symm.trans hx559_0)
  rw[hv559_0]at ge559_0
  have HL559_0:=Aside0.mk (show Kd.R (Kd.int .i64) 3 _ _ _ _ (rd_L2 x11_7 (ji88))from ge559_0)
  clear hv559_0 ge559_0
  have HX559_0:=Aside0.mk hx559_0
  clear hcc559 hce559
  have HR559_0:=Aside0.mk hi559_0
  have HC559_0:=Aside0.mk hl559_0
  clear hi559_0 hl559_0
  replace p559:=eq_true p559
  replace q559:=eq_true q559
  have p560:0≤((ji91):Int):=od
  have q560: (ji91)<((rd_L2 x11_7 (ji88)).length:Int):=od
  obtain⟨ad560,e560,hx560_0⟩:=Kd.at_int (by repeat(first|(with_reducible exact HR559_0.out)|(with_reducible refine C_alloc ?_ _)|(with_reducible refine C_drewN ?_ _)|(with_reducible refine C_drew ?_)|exact HR559_0.out)) (ji91) p560 q560
  cases e560
  replace p560:=eq_true p560
  replace q560:=eq_true q560
  have p565:0≤((ji88):Int):=od
  have q565: (ji88)<(x11_7.length:Int):=od
  obtain⟨ad565,A565_0,c565_0,e565,hx565_0,hl565_0,hi565_0⟩:=at_L2 (Kd.S_reads' HO_11.out).2.2 (ji88) p565 q565
  obtain rfl:ad535=ad565:=(by injection e565)
  obtain⟨ce565,hce565,hMe565,hcc565⟩:=Kd.S_get HO_11.out [] (ji88) p565 (by first|exact q565|exact od|(have e_:=(Kd.S_reads' HO_11.out).1;omega))
  obtain⟨ve565_0,rfl,ge565_0⟩:=hMe565
  have hv565_0:=hcc565 0 _ rfl
  rw[Nat.add_zero,show((Kd.slice 3 (Kd.int .i64))).sz=1 from rfl,Nat.mul_one]at hv565_0
  replace hv565_0:=Option.some.inj (hv565_0.symm.trans hx565_0)
  rw[hv565_0]at ge565_0
  have HL565_0:=Aside0.mk (show Kd.R (Kd.int .i64) 3 _ _ _ _ (rd_L2 x11_7 (ji88))from ge565_0)
  clear hv565_0 ge565_0
  have HX565_0:=Aside0.mk hx565_0
  clear hcc565 hce565
  have HR565_0:=Aside0.mk hi565_0
  have HC565_0:=Aside0.mk hl565_0
  clear hi565_0 hl565_0
  replace p565:=eq_true p565
  replace q565:=eq_true q565
  have ea_:=Option.some.inj (hx559_0.symm.trans hx565_0)
  injection ea_ with ea_ en_ ec_
  subst ea_
  subst ec_
  clear en_
  have p105:0≤((ji91):Int):=od
  have q105: ((ji91):Int)<(((rd_L2 x11_7 (ji88)).length:Int):Int):=od
  obtain⟨go105,co105,eo105,gb105,gl105,cl105,HG105⟩:=R_form HL565_0.out (by omega)
  (first|cases eo105|(injection eo105 with ea_ en_ ec_;(first|subst ea_|(injection ea_ with ea_;subst ea_));subst ec_;clear en_))
  have GB105:=Aside0.mk gb105
  have GG105:=Aside0.mk HG105
  clear gb105 gl105 HG105
  (first|simp only[add_plain]at hx560_0|skip)
  obtain⟨hx105_0,hf105_0⟩:=R_celln 0 HL565_0.out ((ji91):Int) p105 q105
  replace p105:=eq_true p105
  replace q105:=eq_true q105
  have hq108: ((ji88):Int)<(x11_7.length:Int):=(by have h_: ((ji88):Int)<((x11_7.length:Int):Int):=od;first|exact h_|(have e_:=(Kd.S_reads' HO_11.out).1;omega)|simpa only[List.length_set,List.length_set]using h_)
  obtain⟨oki108,ce108,hcl108,hM108,hcc108,hok108,hbk108⟩:=Kd.S_borrow HO_11.out [] ((ji88):Int) (od) hq108
  obtain⟨ve108_0,rfl,ge108_0⟩:=hM108
  have hv108:=hcc108 0 _ rfl
  rw[Nat.add_zero,show((Kd.slice 3 (Kd.int .i64))).sz=1 from rfl,Nat.mul_one]at hv108
  replace hv108:=Option.some.inj (hv108.symm.trans HX565_0.out)
  subst hv108
  clear hcc108 hcl108
  replace ge108_0:=(show Kd.R (Kd.int .i64) 3 _ _ _ _ (rd_L2 x11_7 (ji88))from ge108_0)
  have HP108:=R_putg ge108_0 ((ji91):Int) (wrap64 ((rd (rd_L2 x11_3 x16_2) (ji29))+(wrap64 (((rd_T63 l1 x19_6).f2)*t546))))
  try go_wp2_with (first|((with_reducible refine gate_store (t:=3) (p:=171) rfl ?_);refine store_event (t:=3) (p:=171) (v:=?vo_w109) (w1:=(w107.setCell ⟨go105,((ji91):Int).toNat,none⟩ (.int .i64 (wrap64 ((rd (rd_L2 x11_3 x16_2) (ji29))+(wrap64 (((rd_T63 l1 x19_6).f2)*t546))))))) ?hg ?ho ?hn ?hr ?_;(case ho=>rfl);(case hg=>rfl);(case hn=>rfl);(case hr=>first|(go_simp;done)|(go_simp;rfl));intro w109 hw;have hg:w107.grownBy w109 (some go105):=(by rw[hw];exact HP108.2);have hz_:Kd.R (Kd.int .i64) 3 w109 w.heap.size oki108 (.slice (some ⟨go105,0,none⟩) (rd_L2 x11_7 (ji88)).length c559_0) y566:=(by rw[hw,Ny566.out];exact HP108.1);have hp_:Kd.S (Kd.slice 3 (Kd.int .i64)) 40 w109 w.heap.size (fun _=>True) (.slice (some ad535) x11_7.length co22) y568:=(by rw[Ny568.out];exact hbk108 hg (fun k_ e_=>by injection e_ with e_;subst e_;exact ge108_0.1 _ rfl) (Kd.M_row hz_));have hm_:=R_mono hz_ hok108;clear HP108 hbk108;replace HO_11:=ak hp_;replace BK522:=ak (blk_grown (g:=gb522) (o:=.cells #[.int .i64 a0_0,.bool a0_1] 28 (0,0)) (bm BK522.out) hg (R_ne HL565_0.out BK522.out (by decide)));replace HB:=ak ((by rw[hw];exact below_set (HB.out) GB105.out:Below w.heap.size w w109));have HL573:=ak hm_;have HC567:=ak ((R_reads' hm_).2.1);clear HL559_0 HL565_0;clear hg hw hp_ hz_ hm_ hok108))
  (try simp only[←hl11_7])
  go_roundg kj42
  case measure=>have:=HK1.out;have:=HK2.out;have:=HK3.out;have:=HJ32.out;have:=HJ35.out;have:=HK6.out;have:=HK7.out;have:=HJ42.out;omega
  case rel=>exact⟨(y568),(wrap64 (x21_7+1)),fd,H',⟨by have:=HK1.out;have:=HK2.out;have:=HK3.out;have:=HJ32.out;have:=HJ35.out;have:=HK6.out;have:=HK7.out;have:=HJ42.out;omega⟩,⟨by(try simp only[hl11_2]);(try simp only[hl11_3]);(try simp only[hl11_6]);(try simp only[hl11_7]);(with_reducible repeat(first|apply Kd.S_alloc|apply Kd.S_drewN|apply Kd.S_drew));exact HO_11.out⟩,⟨by(try simp only[hl11_2]);(try simp only[hl11_3]);(try simp only[hl11_6]);(try simp only[hl11_7]);exact bm BK522.out⟩,⟨h1 HB.out GE522.out⟩⟩
 subst c52
 rw[if_pos rfl]at H
 obtain⟨t548,A53,H⟩:=bd H;(try dsimp only at H)
 have c54b0:=eq_true (od:0≤x19_6)
 generalize hji55: (shl .i64 1 x19_6)=ji55 at H
 (try rw[hji55]at A51)
 (try rw[hji55]at A53)
 have hji55_: (IntKind.i64.wrap (1*2^min x19_6.toNat 64))=ji55:=hji55
 have hji55z:x19_6≤64→(IntKind.i64.wrap (1*2^x19_6.toNat))=ji55:=shl_small hji55
 have hji55u: (IntKind.i64.wrap (2^min x19_6.toNat 64))=ji55:=by have h_:=hji55_;rw[Int.one_mul]at h_;exact h_
 have hji55v:x19_6≤64→(IntKind.i64.wrap (2^x19_6.toNat))=ji55:=fun hle_=>by have h_:=hji55z hle_;rw[Int.one_mul]at h_;exact h_
 have hji55y: (wrap64 (1*2^min x19_6.toNat 64))=ji55:=(i64_w _).symm.trans hji55_
 have hji55x:x19_6≤64→(wrap64 (1*2^x19_6.toNat))=ji55:=fun h_=>(i64_w _).symm.trans (hji55z h_)
 generalize hji56: (wrap64 (x16_2+(ji55)))=ji56 at H
 (try rw[hji56]at A51)
 (try rw[hji56]at A53)
 have hji56w: (IntKind.i64.wrap (x16_2+(ji55)))=ji56:=(i64_w _).trans hji56
 obtain⟨c57,H⟩:=gi H
 have c57b0:decide (0≤(ji56))=true:=decide_eq_true c57
 clear c57
 obtain⟨c58,H⟩:=gi H
 have c58b0:decide ((ji56)<(x11_7.length:Int))=true:=decide_eq_true c58
 (try simp only[hl11_2,hl11_3,hl11_6,hl11_7]at c58b0)
 clear c58
 generalize hji59: (wrap64 (x21_7-a2))=ji59 at H
 (try rw[hji59]at A51)
 (try rw[hji59]at A53)
 have hji59w: (IntKind.i64.wrap (x21_7-a2))=ji59:=(i64_w _).trans hji59
 obtain⟨c60,H⟩:=gi H
 have c60b0:decide (0≤(ji59))=true:=decide_eq_true c60
 clear c60
 obtain⟨c61,H⟩:=gi H
 have c61b0:decide ((ji59)<((rd_L2 x11_7 (ji56)).length:Int))=true:=decide_eq_true c61
 (try simp only[hl11_2,hl11_3,hl11_6,hl11_7]at c61b0)
 clear c61
 by_cases c62: (rd (rd_L2 x11_7 (ji56)) (ji59))<0
 ·rw[if_pos c62]at H
  have c62b0:decide ((rd (rd_L2 x11_7 (ji56)) (ji59))<0)=true:=decide_eq_true c62
  clear c62
  have c63b0:=eq_true (od:0≤x19_6)
  generalize hy552: (rd_L2 x11_7 (ji56)).set ((ji59):Int).toNat t548=y552 at H
  have Ny552:=ak hy552.symm
  clear hy552
  generalize hy554: (x11_7.set ((ji56):Int).toNat y552:List (List Int))=y554 at H
  have Ny554:=ak hy554.symm
  clear hy554
  have H':=Aside0.mk H
  clear H
  try go_wp2
  replace HO_11:=ak (Kd.S_drew HO_11.out)
  replace BK522:=ak (blk_drew BK522.out)
  replace HB:=ak (below_drew1 HB.out)
  have p544:0≤(x19_6:Int):=od
  have q544:x19_6<(l1.length:Int):=od
  obtain⟨ad544,e544,hx544_0,hx544_1,hx544_2⟩:=at_T63 HR1.out x19_6 p544 q544
  have hw544_2:=hx544_2
  have hw544_1:=hx544_1
  have hw544_0:=hx544_0
  obtain rfl:ad541=ad544:=(by injection e544)
  replace hx544_0:=hc HB hx544_0
  replace hx544_1:=hc HB hx544_1
  replace hx544_2:=hc HB hx544_2
  replace p544:=eq_true p544
  replace q544:=eq_true q544
  have p545:0≤(x19_6:Int):=od
  have q545:x19_6<(l1.length:Int):=od
  obtain⟨ad545,e545,hx545_0,hx545_1,hx545_2⟩:=at_T63 HR1.out x19_6 p545 q545
  have hw545_2:=hx545_2
  have hw545_1:=hx545_1
  have hw545_0:=hx545_0
  obtain rfl:ad541=ad545:=(by injection e545)
  replace hx545_0:=hc HB hx545_0
  replace hx545_1:=hc HB hx545_1
  replace hx545_2:=hc HB hx545_2
  replace p545:=eq_true p545
  replace q545:=eq_true q545
  refine start_ (n:=17) (S:=fun w'=>w'.cell? ⟨gb522,0,none⟩=some (.int .i64 a0_0)∧w'.cell? ⟨gb522,1,none⟩=some (.bool a0_1)∧w'.cell? (ad541.add ((x19_6).toNat*3))=some (.int .i64 ((rd_T63 l1 x19_6).f0))∧w'.cell? ⟨(ad541.add ((x19_6).toNat*3)).block,(ad541.add ((x19_6).toNat*3)).off+1,none⟩=some (.int .i64 ((rd_T63 l1 x19_6).f1))∧w'.cell? ⟨(ad541.add ((x19_6).toNat*3)).block,(ad541.add ((x19_6).toNat*3)).off+2,none⟩=some (.int .i64 ((rd_T63 l1 x19_6).f2))∧w'.cell? (ad541.add ((x19_6).toNat*3))=some (.int .i64 ((rd_T63 l1 x19_6).f0))∧w'.cell? ⟨(ad541.add ((x19_6).toNat*3)).block,(ad541.add ((x19_6).toNat*3)).off+1,none⟩=some (.int .i64 ((rd_T63 l1 x19_6).f1))∧w'.cell? ⟨(ad541.add ((x19_6).toNat*3)).block,(ad541.add ((x19_6).toNat*3)).off+2,none⟩=some (.int .i64 ((rd_T63 l1 x19_6).f2))) (ds:=[]) (lb 17 0) (by kernel_rfl) rfl rfl ⟨bc BK522 0 rfl,bc BK522 1 rfl,((HB.out.cell (World.block_lt_of_cell? w _ hw544_0)).trans hw544_0),((HB.out.cell (World.block_lt_of_cell? w _ hw544_1)).trans hw544_1),((HB.out.cell (World.block_lt_of_cell? w _ hw544_2)).trans hw544_2),((HB.out.cell (World.block_lt_of_cell? w _ hw545_0)).trans hw545_0),((HB.out.cell (World.block_lt_of_cell? w _ hw545_1)).trans hw545_1),((HB.out.cell (World.block_lt_of_cell? w _ hw545_2)).trans hw545_2)⟩ (fun hHeld=>?_);refine with_tabW spec_l7Best.tab30 spec_l7Best.bits30 (fun HT_ HW_=>?_)
  generalize wc.drew=w66 at HO_11 BK522 HB hx544_0 hx544_1 hx544_2 hx545_0 hx545_1 hx545_2 hHeld⊢
  refine pq 0 (N:=some 115) (lb 17 1) HT_ ?_
  refine pq 1 (N:=some 116) (lb 17 3) HT_ ?_
  refine pq 2 (N:=some 117) (lb 17 7) HT_ ?_
  refine pq 3 (N:=some 118) (lb 17 15) HT_ ?_
  refine pq 4 (N:=some 119) (lb 17 31) HT_ ?_
  refine pq 7 (N:=some 122) (lb 17 159) HT_ ?_
  refine pq 8 (N:=some 123) (lb 17 415) HT_ ?_
  refine pq 9 (N:=some 124) (lb 17 927) HT_ ?_
  refine pq 11 (N:=some 126) (lb 17 2975) HT_ ?_
  refine pq 12 (N:=some 127) (lb 17 7071) HT_ ?_
  refine take_ (i:=5) (N:=some 120) (v:=?_) (a':=?_) (lb 17 7103) rfl rfl (take_ofW HT_.out HW_.out (by kernel_rfl)) (fun _ _ _ h=>h) (Or.inl ⟨by rfl,?_⟩) hHeld ?_ ?_
  rotate_left
  ·rintro w' ⟨s0,s1,s2,s3,s4,s5,s6,s7⟩
   go_simp
   with_reducible rfl
  rotate_left
  ·simp only[ap]
   rfl
  refine take_ (i:=6) (N:=some 121) (v:=?_) (a':=?_) (lb 17 7167) rfl rfl (take_ofW HT_.out HW_.out (by kernel_rfl)) (fun _ _ _ h=>h) (Or.inl ⟨by rfl,?_⟩) hHeld ?_ ?_
  rotate_left
  ·rintro w' ⟨s0,s1,s2,s3,s4,s5,s6,s7⟩
   go_simp
   with_reducible rfl
  rotate_left
  ·simp only[ap]
   rfl
  refine take_ (i:=10) (N:=some 125) (v:=?_) (a':=?_) (lb 17 8191) rfl rfl (take_ofW HT_.out HW_.out (by kernel_rfl)) (fun _ _ _ h=>h) (Or.inl ⟨by rfl,?_⟩) hHeld ?_ ?_
  rotate_left
  ·rintro w' ⟨s0,s1,s2,s3,s4,s5,s6,s7⟩
   go_simp
   with_reducible rfl
  rotate_left
  ·simp only[ap]
   rfl
  refine one_ (i:=13) (N:=some 128) (lb 17 16383) rfl rfl (one_of HT_.out (by kernel_rfl)) (by decide) (fun K hK=>?_)
  refine goes_ Try.func61 (by kernel_rfl) rfl #[.agg #[.int .i64 a0_0,.bool a0_1],.agg #[.int .i64 ((rd_T63 l1 x19_6).f0),.int .i64 ((rd_T63 l1 x19_6).f1),.int .i64 ((rd_T63 l1 x19_6).f2)],.int .i64 x17_3,.int .i64 x21_7] (by rfl) rfl rfl gl ?_
  with_reducible refine(spec_l7Steps.calls a0_0 a0_1 ((rd_T63 l1 x19_6).f0) ((rd_T63 l1 x19_6).f1) ((rd_T63 l1 x19_6).f2) x17_3 x21_7 t546 _ A51.out).mono ?_
  rintro e w67 ⟨rfl,hb⟩
  refine⟨_,rfl,?_⟩
  replace HO_11:=ak (Kd.S_below (sm HO_11.out) hb)
  replace BK522:=kb BK522 hb
  replace HB:=ak (below_step (h1 HB.out GE522.out) hb)
  (try clear hb)
  (try clear hb2)
  (try clear hk)
  (try clear hi)
  refine hK.out _ _ ⟨bc BK522 0 rfl,bc BK522 1 rfl,((HB.out.cell (World.block_lt_of_cell? w _ hw544_0)).trans hw544_0),((HB.out.cell (World.block_lt_of_cell? w _ hw544_1)).trans hw544_1),((HB.out.cell (World.block_lt_of_cell? w _ hw544_2)).trans hw544_2),((HB.out.cell (World.block_lt_of_cell? w _ hw545_0)).trans hw545_0),((HB.out.cell (World.block_lt_of_cell? w _ hw545_1)).trans hw545_1),((HB.out.cell (World.block_lt_of_cell? w _ hw545_2)).trans hw545_2)⟩ (fun hHeld=>?_)
  clear hK K
  refine norm_ (a':=?_) ?_ ?_
  rotate_left
  ·show Act.put _ (some 128) _=_
   simp only[ap]
   rfl
  refine pq 14 (N:=some 129) (lb 17 32767) HT_ ?_
  refine pq 15 (N:=some 130) (lb 17 65535) HT_ ?_
  refine pq 16 (N:=some 22) (lb 17 131071) HT_ ?_
  refine done_ (done_of HT_.out (by kernel_rfl)) ?_
  try go_wp2
  replace HO_11:=ak (Kd.S_drew HO_11.out)
  replace BK522:=ak (blk_drew BK522.out)
  replace HB:=ak (below_drew1 HB.out)
  have p547:0≤(x19_6:Int):=od
  have q547:x19_6<(l1.length:Int):=od
  obtain⟨ad547,e547,hx547_0,hx547_1,hx547_2⟩:=at_T63 HR1.out x19_6 p547 q547
  have hw547_2:=hx547_2
  have hw547_1:=hx547_1
  have hw547_0:=hx547_0
  obtain rfl:ad541=ad547:=(by injection e547)
  replace hx547_0:=hc HB hx547_0
  replace hx547_1:=hc HB hx547_1
  replace hx547_2:=hc HB hx547_2
  replace p547:=eq_true p547
  replace q547:=eq_true q547
  refine start_ (n:=10) (S:=fun w'=>w'.cell? ⟨gb522,0,none⟩=some (.int .i64 a0_0)∧w'.cell? ⟨gb522,1,none⟩=some (.bool a0_1)∧w'.cell? (ad541.add ((x19_6).toNat*3))=some (.int .i64 ((rd_T63 l1 x19_6).f0))∧w'.cell? ⟨(ad541.add ((x19_6).toNat*3)).block,(ad541.add ((x19_6).toNat*3)).off+1,none⟩=some (.int .i64 ((rd_T63 l1 x19_6).f1))∧w'.cell? ⟨(ad541.add ((x19_6).toNat*3)).block,(ad541.add ((x19_6).toNat*3)).off+2,none⟩=some (.int .i64 ((rd_T63 l1 x19_6).f2))) (ds:=[]) (lb 10 0) (by kernel_rfl) rfl rfl ⟨bc BK522 0 rfl,bc BK522 1 rfl,((HB.out.cell (World.block_lt_of_cell? w _ hw547_0)).trans hw547_0),((HB.out.cell (World.block_lt_of_cell? w _ hw547_1)).trans hw547_1),((HB.out.cell (World.block_lt_of_cell? w _ hw547_2)).trans hw547_2)⟩ (fun hHeld=>?_);refine with_tabW spec_l7Best.tab32 spec_l7Best.bits32 (fun HT_ HW_=>?_)
  generalize w67.drew=w68 at HO_11 BK522 HB hx547_0 hx547_1 hx547_2 hHeld⊢
  refine pq 1 (N:=some 133) (lb 10 2) HT_ ?_
  refine pq 2 (N:=some 134) (lb 10 6) HT_ ?_
  refine pq 3 (N:=some 135) (lb 10 14) HT_ ?_
  refine pq 5 (N:=some 137) (lb 10 46) HT_ ?_
  refine pq 6 (N:=some 138) (lb 10 110) HT_ ?_
  refine pq 7 (N:=some 139) (lb 10 238) HT_ ?_
  refine tq 0 (N:=some 132) (lb 10 239) HT_ HW_ hHeld ?_
  refine tq 4 (N:=some 136) (lb 10 255) HT_ HW_ hHeld ?_
  refine one_ (i:=8) (N:=some 140) (lb 10 511) rfl rfl (one_of HT_.out (by kernel_rfl)) (by decide) (fun K hK=>?_)
  refine goes_ Try.func69 (by kernel_rfl) rfl #[.agg #[.int .i64 a0_0,.bool a0_1],.agg #[.int .i64 ((rd_T63 l1 x19_6).f0),.int .i64 ((rd_T63 l1 x19_6).f1),.int .i64 ((rd_T63 l1 x19_6).f2)],.int .i64 (rd (rd_L2 x11_3 x16_2) (ji29)),.int .i64 x17_3,.int .i64 x21_7] (by rfl) rfl rfl (by(try simp only[List.map_toArray,List.map_cons,List.map_nil]);first|done|(simp only[hji29];rfl)|rfl|(simp only[List.length_drop,List.length_take];rfl)) ?_
  with_reducible refine(spec_l7Arrive.calls a0_0 a0_1 ((rd_T63 l1 x19_6).f0) ((rd_T63 l1 x19_6).f1) ((rd_T63 l1 x19_6).f2) (rd (rd_L2 x11_3 x16_2) (ji29)) x17_3 x21_7 t548 _ A53.out).mono ?_
  rintro e w69 ⟨rfl,hb⟩
  refine⟨_,rfl,?_⟩
  replace HO_11:=ak (Kd.S_below (sm HO_11.out) hb)
  replace BK522:=kb BK522 hb
  replace HB:=ak (below_step (h1 HB.out GE522.out) hb)
  (try clear hb)
  (try clear hb2)
  (try clear hk)
  (try clear hi)
  refine hK.out _ _ ⟨bc BK522 0 rfl,bc BK522 1 rfl,((HB.out.cell (World.block_lt_of_cell? w _ hw547_0)).trans hw547_0),((HB.out.cell (World.block_lt_of_cell? w _ hw547_1)).trans hw547_1),((HB.out.cell (World.block_lt_of_cell? w _ hw547_2)).trans hw547_2)⟩ (fun hHeld=>?_)
  clear hK K
  refine norm_ (a':=?_) ?_ ?_
  rotate_left
  ·show Act.put _ (some 140) _=_
   simp only[ap]
   rfl
  refine pq 9 (N:=some 22) (lb 10 1023) HT_ ?_
  refine done_ (done_of HT_.out (by kernel_rfl)) ?_
  have p549:0≤((ji56):Int):=od
  have q549: (ji56)<(x11_7.length:Int):=od
  obtain⟨ad549,A549_0,c549_0,e549,hx549_0,hl549_0,hi549_0⟩:=at_L2 (Kd.S_reads' HO_11.out).2.2 (ji56) p549 q549
  obtain rfl:ad535=ad549:=(by injection e549)
  obtain⟨ce549,hce549,hMe549,hcc549⟩:=Kd.S_get HO_11.out [] (ji56) p549 (by first|exact q549|exact od|(have e_:=(Kd.S_reads' HO_11.out).1;omega))
  obtain⟨ve549_0,rfl,ge549_0⟩:=hMe549
  have hv549_0:=hcc549 0 _ rfl
  rw[Nat.add_zero,show((Kd.slice 3 (Kd.int .i64))).sz=1 from rfl,Nat.mul_one]at hv549_0
  replace hv549_0:=Option.some.inj (hv549_0.symm.trans hx549_0)
  rw[hv549_0]at ge549_0
  have HL549_0:=Aside0.mk (show Kd.R (Kd.int .i64) 3 _ _ _ _ (rd_L2 x11_7 (ji56))from ge549_0)
  clear hv549_0 ge549_0
  have HX549_0:=Aside0.mk hx549_0
  clear hcc549 hce549
  have HR549_0:=Aside0.mk hi549_0
  have HC549_0:=Aside0.mk hl549_0
  clear hi549_0 hl549_0
  replace p549:=eq_true p549
  replace q549:=eq_true q549
  have p550:0≤((ji59):Int):=od
  have q550: (ji59)<((rd_L2 x11_7 (ji56)).length:Int):=od
  obtain⟨ad550,e550,hx550_0⟩:=Kd.at_int (by repeat(first|(with_reducible exact HR549_0.out)|(with_reducible refine C_alloc ?_ _)|(with_reducible refine C_drewN ?_ _)|(with_reducible refine C_drew ?_)|exact HR549_0.out)) (ji59) p550 q550
  cases e550
  replace p550:=eq_true p550
  replace q550:=eq_true q550
  have p551:0≤((ji56):Int):=od
  have q551: (ji56)<(x11_7.length:Int):=od
  obtain⟨ad551,A551_0,c551_0,e551,hx551_0,hl551_0,hi551_0⟩:=at_L2 (Kd.S_reads' HO_11.out).2.2 (ji56) p551 q551
  obtain rfl:ad535=ad551:=(by injection e551)
  obtain⟨ce551,hce551,hMe551,hcc551⟩:=Kd.S_get HO_11.out [] (ji56) p551 (by first|exact q551|exact od|(have e_:=(Kd.S_reads' HO_11.out).1;omega))
  obtain⟨ve551_0,rfl,ge551_0⟩:=hMe551
  have hv551_0:=hcc551 0 _ rfl
  rw[Nat.add_zero,show((Kd.slice 3 (Kd.int .i64))).sz=1 from rfl,Nat.mul_one]at hv551_0
  replace hv551_0:=Option.some.inj (hv551_0.symm.trans hx551_0)
  rw[hv551_0]at ge551_0
  have HL551_0:=Aside0.mk (show Kd.R (Kd.int .i64) 3 _ _ _ _ (rd_L2 x11_7 (ji56))from ge551_0)
  clear hv551_0 ge551_0
  have HX551_0:=Aside0.mk hx551_0
  clear hcc551 hce551
  have HR551_0:=Aside0.mk hi551_0
  have HC551_0:=Aside0.mk hl551_0
  clear hi551_0 hl551_0
  replace p551:=eq_true p551
  replace q551:=eq_true q551
  have ea_:=Option.some.inj (hx549_0.symm.trans hx551_0)
  injection ea_ with ea_ en_ ec_
  subst ea_
  subst ec_
  clear en_
  have p65:0≤((ji59):Int):=od
  have q65: ((ji59):Int)<(((rd_L2 x11_7 (ji56)).length:Int):Int):=od
  obtain⟨go65,co65,eo65,gb65,gl65,cl65,HG65⟩:=R_form HL551_0.out (by omega)
  (first|cases eo65|(injection eo65 with ea_ en_ ec_;(first|subst ea_|(injection ea_ with ea_;subst ea_));subst ec_;clear en_))
  have GB65:=Aside0.mk gb65
  have GG65:=Aside0.mk HG65
  clear gb65 gl65 HG65
  (first|simp only[add_plain]at hx550_0|skip)
  obtain⟨hx65_0,hf65_0⟩:=R_celln 0 HL551_0.out ((ji59):Int) p65 q65
  replace p65:=eq_true p65
  replace q65:=eq_true q65
  have hq70: ((ji56):Int)<(x11_7.length:Int):=(by have h_: ((ji56):Int)<((x11_7.length:Int):Int):=od;first|exact h_|(have e_:=(Kd.S_reads' HO_11.out).1;omega)|simpa only[List.length_set,List.length_set]using h_)
  obtain⟨oki70,ce70,hcl70,hM70,hcc70,hok70,hbk70⟩:=Kd.S_borrow HO_11.out [] ((ji56):Int) (od) hq70
  obtain⟨ve70_0,rfl,ge70_0⟩:=hM70
  have hv70:=hcc70 0 _ rfl
  rw[Nat.add_zero,show((Kd.slice 3 (Kd.int .i64))).sz=1 from rfl,Nat.mul_one]at hv70
  replace hv70:=Option.some.inj (hv70.symm.trans HX551_0.out)
  subst hv70
  clear hcc70 hcl70
  replace ge70_0:=(show Kd.R (Kd.int .i64) 3 _ _ _ _ (rd_L2 x11_7 (ji56))from ge70_0)
  have HP70:=R_putg ge70_0 ((ji59):Int) t548
  try go_wp2_with (first|((with_reducible refine gate_store (t:=3) (p:=171) rfl ?_);refine store_event (t:=3) (p:=171) (v:=?vo_w71) (w1:=(w69.setCell ⟨go65,((ji59):Int).toNat,none⟩ (.int .i64 t548))) ?hg ?ho ?hn ?hr ?_;(case ho=>rfl);(case hg=>rfl);(case hn=>rfl);(case hr=>first|(go_simp;done)|(go_simp;rfl));intro w71 hw;have hg:w69.grownBy w71 (some go65):=(by rw[hw];exact HP70.2);have hz_:Kd.R (Kd.int .i64) 3 w71 w.heap.size oki70 (.slice (some ⟨go65,0,none⟩) (rd_L2 x11_7 (ji56)).length c549_0) y552:=(by rw[hw,Ny552.out];exact HP70.1);have hp_:Kd.S (Kd.slice 3 (Kd.int .i64)) 40 w71 w.heap.size (fun _=>True) (.slice (some ad535) x11_7.length co22) y554:=(by rw[Ny554.out];exact hbk70 hg (fun k_ e_=>by injection e_ with e_;subst e_;exact ge70_0.1 _ rfl) (Kd.M_row hz_));have hm_:=R_mono hz_ hok70;clear HP70 hbk70;replace HO_11:=ak hp_;replace BK522:=ak (blk_grown (g:=gb522) (o:=.cells #[.int .i64 a0_0,.bool a0_1] 28 (0,0)) (bm BK522.out) hg (R_ne HL551_0.out BK522.out (by decide)));replace HB:=ak ((by rw[hw];exact below_set (HB.out) GB65.out:Below w.heap.size w w71));have HL570:=ak hm_;have HC553:=ak ((R_reads' hm_).2.1);clear HL549_0 HL551_0;clear hg hw hp_ hz_ hm_ hok70))
  (try simp only[←hl11_7])
  go_roundg kj42
  case measure=>have:=HK1.out;have:=HK2.out;have:=HK3.out;have:=HJ32.out;have:=HJ35.out;have:=HK6.out;have:=HK7.out;have:=HJ42.out;omega
  case rel=>exact⟨(y554),(wrap64 (x21_7+1)),fd,H',⟨by have:=HK1.out;have:=HK2.out;have:=HK3.out;have:=HJ32.out;have:=HJ35.out;have:=HK6.out;have:=HK7.out;have:=HJ42.out;omega⟩,⟨by(try simp only[hl11_2]);(try simp only[hl11_3]);(try simp only[hl11_6]);(try simp only[hl11_7]);(with_reducible repeat(first|apply Kd.S_alloc|apply Kd.S_drewN|apply Kd.S_drew));exact HO_11.out⟩,⟨by(try simp only[hl11_2]);(try simp only[hl11_3]);(try simp only[hl11_6]);(try simp only[hl11_7]);exact bm BK522.out⟩,⟨h1 HB.out GE522.out⟩⟩
 rw[if_neg c62]at H
 have c62b0:decide ((rd (rd_L2 x11_7 (ji56)) (ji59))<0)=false:=decide_eq_false c62
 clear c62
 by_cases c72:t548<(rd (rd_L2 x11_7 (ji56)) (ji59))
 rotate_left
 ·rw[if_neg c72]at H
  have c72b0:decide (t548<(rd (rd_L2 x11_7 (ji56)) (ji59)))=false:=decide_eq_false c72
  clear c72
  have H':=Aside0.mk H
  clear H
  try go_wp2
  replace HO_11:=ak (Kd.S_drew HO_11.out)
  replace BK522:=ak (blk_drew BK522.out)
  replace HB:=ak (below_drew1 HB.out)
  have p544:0≤(x19_6:Int):=od
  have q544:x19_6<(l1.length:Int):=od
  obtain⟨ad544,e544,hx544_0,hx544_1,hx544_2⟩:=at_T63 HR1.out x19_6 p544 q544
  have hw544_2:=hx544_2
  have hw544_1:=hx544_1
  have hw544_0:=hx544_0
  obtain rfl:ad541=ad544:=(by injection e544)
  replace hx544_0:=hc HB hx544_0
  replace hx544_1:=hc HB hx544_1
  replace hx544_2:=hc HB hx544_2
  replace p544:=eq_true p544
  replace q544:=eq_true q544
  have p545:0≤(x19_6:Int):=od
  have q545:x19_6<(l1.length:Int):=od
  obtain⟨ad545,e545,hx545_0,hx545_1,hx545_2⟩:=at_T63 HR1.out x19_6 p545 q545
  have hw545_2:=hx545_2
  have hw545_1:=hx545_1
  have hw545_0:=hx545_0
  obtain rfl:ad541=ad545:=(by injection e545)
  replace hx545_0:=hc HB hx545_0
  replace hx545_1:=hc HB hx545_1
  replace hx545_2:=hc HB hx545_2
  replace p545:=eq_true p545
  replace q545:=eq_true q545
  refine start_ (n:=17) (S:=fun w'=>w'.cell? ⟨gb522,0,none⟩=some (.int .i64 a0_0)∧w'.cell? ⟨gb522,1,none⟩=some (.bool a0_1)∧w'.cell? (ad541.add ((x19_6).toNat*3))=some (.int .i64 ((rd_T63 l1 x19_6).f0))∧w'.cell? ⟨(ad541.add ((x19_6).toNat*3)).block,(ad541.add ((x19_6).toNat*3)).off+1,none⟩=some (.int .i64 ((rd_T63 l1 x19_6).f1))∧w'.cell? ⟨(ad541.add ((x19_6).toNat*3)).block,(ad541.add ((x19_6).toNat*3)).off+2,none⟩=some (.int .i64 ((rd_T63 l1 x19_6).f2))∧w'.cell? (ad541.add ((x19_6).toNat*3))=some (.int .i64 ((rd_T63 l1 x19_6).f0))∧w'.cell? ⟨(ad541.add ((x19_6).toNat*3)).block,(ad541.add ((x19_6).toNat*3)).off+1,none⟩=some (.int .i64 ((rd_T63 l1 x19_6).f1))∧w'.cell? ⟨(ad541.add ((x19_6).toNat*3)).block,(ad541.add ((x19_6).toNat*3)).off+2,none⟩=some (.int .i64 ((rd_T63 l1 x19_6).f2))) (ds:=[]) (lb 17 0) (by kernel_rfl) rfl rfl ⟨bc BK522 0 rfl,bc BK522 1 rfl,((HB.out.cell (World.block_lt_of_cell? w _ hw544_0)).trans hw544_0),((HB.out.cell (World.block_lt_of_cell? w _ hw544_1)).trans hw544_1),((HB.out.cell (World.block_lt_of_cell? w _ hw544_2)).trans hw544_2),((HB.out.cell (World.block_lt_of_cell? w _ hw545_0)).trans hw545_0),((HB.out.cell (World.block_lt_of_cell? w _ hw545_1)).trans hw545_1),((HB.out.cell (World.block_lt_of_cell? w _ hw545_2)).trans hw545_2)⟩ (fun hHeld=>?_);refine with_tabW spec_l7Best.tab30 spec_l7Best.bits30 (fun HT_ HW_=>?_)
  generalize wc.drew=w82 at HO_11 BK522 HB hx544_0 hx544_1 hx544_2 hx545_0 hx545_1 hx545_2 hHeld⊢
  refine pq 0 (N:=some 115) (lb 17 1) HT_ ?_
  refine pq 1 (N:=some 116) (lb 17 3) HT_ ?_
  refine pq 2 (N:=some 117) (lb 17 7) HT_ ?_
  refine pq 3 (N:=some 118) (lb 17 15) HT_ ?_
  refine pq 4 (N:=some 119) (lb 17 31) HT_ ?_
  refine pq 7 (N:=some 122) (lb 17 159) HT_ ?_
  refine pq 8 (N:=some 123) (lb 17 415) HT_ ?_
  refine pq 9 (N:=some 124) (lb 17 927) HT_ ?_
  refine pq 11 (N:=some 126) (lb 17 2975) HT_ ?_
  refine pq 12 (N:=some 127) (lb 17 7071) HT_ ?_
  refine take_ (i:=5) (N:=some 120) (v:=?_) (a':=?_) (lb 17 7103) rfl rfl (take_ofW HT_.out HW_.out (by kernel_rfl)) (fun _ _ _ h=>h) (Or.inl ⟨by rfl,?_⟩) hHeld ?_ ?_
  rotate_left
  ·rintro w' ⟨s0,s1,s2,s3,s4,s5,s6,s7⟩
   go_simp
   with_reducible rfl
  rotate_left
  ·simp only[ap]
   rfl
  refine take_ (i:=6) (N:=some 121) (v:=?_) (a':=?_) (lb 17 7167) rfl rfl (take_ofW HT_.out HW_.out (by kernel_rfl)) (fun _ _ _ h=>h) (Or.inl ⟨by rfl,?_⟩) hHeld ?_ ?_
  rotate_left
  ·rintro w' ⟨s0,s1,s2,s3,s4,s5,s6,s7⟩
   go_simp
   with_reducible rfl
  rotate_left
  ·simp only[ap]
   rfl
  refine take_ (i:=10) (N:=some 125) (v:=?_) (a':=?_) (lb 17 8191) rfl rfl (take_ofW HT_.out HW_.out (by kernel_rfl)) (fun _ _ _ h=>h) (Or.inl ⟨by rfl,?_⟩) hHeld ?_ ?_
  rotate_left
  ·rintro w' ⟨s0,s1,s2,s3,s4,s5,s6,s7⟩
   go_simp
   with_reducible rfl
  rotate_left
  ·simp only[ap]
   rfl
  refine one_ (i:=13) (N:=some 128) (lb 17 16383) rfl rfl (one_of HT_.out (by kernel_rfl)) (by decide) (fun K hK=>?_)
  refine goes_ Try.func61 (by kernel_rfl) rfl #[.agg #[.int .i64 a0_0,.bool a0_1],.agg #[.int .i64 ((rd_T63 l1 x19_6).f0),.int .i64 ((rd_T63 l1 x19_6).f1),.int .i64 ((rd_T63 l1 x19_6).f2)],.int .i64 x17_3,.int .i64 x21_7] (by rfl) rfl rfl gl ?_
  with_reducible refine(spec_l7Steps.calls a0_0 a0_1 ((rd_T63 l1 x19_6).f0) ((rd_T63 l1 x19_6).f1) ((rd_T63 l1 x19_6).f2) x17_3 x21_7 t546 _ A51.out).mono ?_
  rintro e w83 ⟨rfl,hb⟩
  refine⟨_,rfl,?_⟩
  replace HO_11:=ak (Kd.S_below (sm HO_11.out) hb)
  replace BK522:=kb BK522 hb
  replace HB:=ak (below_step (h1 HB.out GE522.out) hb)
  (try clear hb)
  (try clear hb2)
  (try clear hk)
  (try clear hi)
  refine hK.out _ _ ⟨bc BK522 0 rfl,bc BK522 1 rfl,((HB.out.cell (World.block_lt_of_cell? w _ hw544_0)).trans hw544_0),((HB.out.cell (World.block_lt_of_cell? w _ hw544_1)).trans hw544_1),((HB.out.cell (World.block_lt_of_cell? w _ hw544_2)).trans hw544_2),((HB.out.cell (World.block_lt_of_cell? w _ hw545_0)).trans hw545_0),((HB.out.cell (World.block_lt_of_cell? w _ hw545_1)).trans hw545_1),((HB.out.cell (World.block_lt_of_cell? w _ hw545_2)).trans hw545_2)⟩ (fun hHeld=>?_)
  clear hK K
  refine norm_ (a':=?_) ?_ ?_
  rotate_left
  ·show Act.put _ (some 128) _=_
   simp only[ap]
   rfl
  refine pq 14 (N:=some 129) (lb 17 32767) HT_ ?_
  refine pq 15 (N:=some 130) (lb 17 65535) HT_ ?_
  refine pq 16 (N:=some 22) (lb 17 131071) HT_ ?_
  refine done_ (done_of HT_.out (by kernel_rfl)) ?_
  try go_wp2
  replace HO_11:=ak (Kd.S_drew HO_11.out)
  replace BK522:=ak (blk_drew BK522.out)
  replace HB:=ak (below_drew1 HB.out)
  have p547:0≤(x19_6:Int):=od
  have q547:x19_6<(l1.length:Int):=od
  obtain⟨ad547,e547,hx547_0,hx547_1,hx547_2⟩:=at_T63 HR1.out x19_6 p547 q547
  have hw547_2:=hx547_2
  have hw547_1:=hx547_1
  have hw547_0:=hx547_0
  obtain rfl:ad541=ad547:=(by injection e547)
  replace hx547_0:=hc HB hx547_0
  replace hx547_1:=hc HB hx547_1
  replace hx547_2:=hc HB hx547_2
  replace p547:=eq_true p547
  replace q547:=eq_true q547
  refine start_ (n:=10) (S:=fun w'=>w'.cell? ⟨gb522,0,none⟩=some (.int .i64 a0_0)∧w'.cell? ⟨gb522,1,none⟩=some (.bool a0_1)∧w'.cell? (ad541.add ((x19_6).toNat*3))=some (.int .i64 ((rd_T63 l1 x19_6).f0))∧w'.cell? ⟨(ad541.add ((x19_6).toNat*3)).block,(ad541.add ((x19_6).toNat*3)).off+1,none⟩=some (.int .i64 ((rd_T63 l1 x19_6).f1))∧w'.cell? ⟨(ad541.add ((x19_6).toNat*3)).block,(ad541.add ((x19_6).toNat*3)).off+2,none⟩=some (.int .i64 ((rd_T63 l1 x19_6).f2))) (ds:=[]) (lb 10 0) (by kernel_rfl) rfl rfl ⟨bc BK522 0 rfl,bc BK522 1 rfl,((HB.out.cell (World.block_lt_of_cell? w _ hw547_0)).trans hw547_0),((HB.out.cell (World.block_lt_of_cell? w _ hw547_1)).trans hw547_1),((HB.out.cell (World.block_lt_of_cell? w _ hw547_2)).trans hw547_2)⟩ (fun hHeld=>?_);refine with_tabW spec_l7Best.tab32 spec_l7Best.bits32 (fun HT_ HW_=>?_)
  generalize w83.drew=w84 at HO_11 BK522 HB hx547_0 hx547_1 hx547_2 hHeld⊢
  refine pq 1 (N:=some 133) (lb 10 2) HT_ ?_
  refine pq 2 (N:=some 134) (lb 10 6) HT_ ?_
  refine pq 3 (N:=some 135) (lb 10 14) HT_ ?_
  refine pq 5 (N:=some 137) (lb 10 46) HT_ ?_
  refine pq 6 (N:=some 138) (lb 10 110) HT_ ?_
  refine pq 7 (N:=some 139) (lb 10 238) HT_ ?_
  refine tq 0 (N:=some 132) (lb 10 239) HT_ HW_ hHeld ?_
  refine tq 4 (N:=some 136) (lb 10 255) HT_ HW_ hHeld ?_
  refine one_ (i:=8) (N:=some 140) (lb 10 511) rfl rfl (one_of HT_.out (by kernel_rfl)) (by decide) (fun K hK=>?_)
  refine goes_ Try.func69 (by kernel_rfl) rfl #[.agg #[.int .i64 a0_0,.bool a0_1],.agg #[.int .i64 ((rd_T63 l1 x19_6).f0),.int .i64 ((rd_T63 l1 x19_6).f1),.int .i64 ((rd_T63 l1 x19_6).f2)],.int .i64 (rd (rd_L2 x11_3 x16_2) (ji29)),.int .i64 x17_3,.int .i64 x21_7] (by rfl) rfl rfl (by(try simp only[List.map_toArray,List.map_cons,List.map_nil]);first|done|(simp only[hji29];rfl)|rfl|(simp only[List.length_drop,List.length_take];rfl)) ?_
  with_reducible refine(spec_l7Arrive.calls a0_0 a0_1 ((rd_T63 l1 x19_6).f0) ((rd_T63 l1 x19_6).f1) ((rd_T63 l1 x19_6).f2) (rd (rd_L2 x11_3 x16_2) (ji29)) x17_3 x21_7 t548 _ A53.out).mono ?_
  rintro e w85 ⟨rfl,hb⟩
  refine⟨_,rfl,?_⟩
  replace HO_11:=ak (Kd.S_below (sm HO_11.out) hb)
  replace BK522:=kb BK522 hb
  replace HB:=ak (below_step (h1 HB.out GE522.out) hb)
  (try clear hb)
  (try clear hb2)
  (try clear hk)
  (try clear hi)
  refine hK.out _ _ ⟨bc BK522 0 rfl,bc BK522 1 rfl,((HB.out.cell (World.block_lt_of_cell? w _ hw547_0)).trans hw547_0),((HB.out.cell (World.block_lt_of_cell? w _ hw547_1)).trans hw547_1),((HB.out.cell (World.block_lt_of_cell? w _ hw547_2)).trans hw547_2)⟩ (fun hHeld=>?_)
  clear hK K
  refine norm_ (a':=?_) ?_ ?_
  rotate_left
  ·show Act.put _ (some 140) _=_
   simp only[ap]
   rfl
  refine pq 9 (N:=some 22) (lb 10 1023) HT_ ?_
  refine done_ (done_of HT_.out (by kernel_rfl)) ?_
  have p549:0≤((ji56):Int):=od
  have q549: (ji56)<(x11_7.length:Int):=od
  obtain⟨ad549,A549_0,c549_0,e549,hx549_0,hl549_0,hi549_0⟩:=at_L2 (Kd.S_reads' HO_11.out).2.2 (ji56) p549 q549
  obtain rfl:ad535=ad549:=(by injection e549)
  obtain⟨ce549,hce549,hMe549,hcc549⟩:=Kd.S_get HO_11.out [] (ji56) p549 (by first|exact q549|exact od|(have e_:=(Kd.S_reads' HO_11.out).1;omega))
  obtain⟨ve549_0,rfl,ge549_0⟩:=hMe549
  have hv549_0:=hcc549 0 _ rfl
  rw[Nat.add_zero,show((Kd.slice 3 (Kd.int .i64))).sz=1 from rfl,Nat.mul_one]at hv549_0
  replace hv549_0:=Option.some.inj (hv549_0.symm.trans hx549_0)
  rw[hv549_0]at ge549_0
  have HL549_0:=Aside0.mk (show Kd.R (Kd.int .i64) 3 _ _ _ _ (rd_L2 x11_7 (ji56))from ge549_0)
  clear hv549_0 ge549_0
  have HX549_0:=Aside0.mk hx549_0
  clear hcc549 hce549
  have HR549_0:=Aside0.mk hi549_0
  have HC549_0:=Aside0.mk hl549_0
  clear hi549_0 hl549_0
  replace p549:=eq_true p549
  replace q549:=eq_true q549
  have p550:0≤((ji59):Int):=od
  have q550: (ji59)<((rd_L2 x11_7 (ji56)).length:Int):=od
  obtain⟨ad550,e550,hx550_0⟩:=Kd.at_int (by repeat(first|(with_reducible exact HR549_0.out)|(with_reducible refine C_alloc ?_ _)|(with_reducible refine C_drewN ?_ _)|(with_reducible refine C_drew ?_)|exact HR549_0.out)) (ji59) p550 q550
  cases e550
  replace p550:=eq_true p550
  replace q550:=eq_true q550
  try go_wp2
  (try simp only[←hl11_7])
  go_roundg kj42
  case measure=>have:=HK1.out;have:=HK2.out;have:=HK3.out;have:=HJ32.out;have:=HJ35.out;have:=HK6.out;have:=HK7.out;have:=HJ42.out;omega
  case rel=>exact⟨(x11_7),(wrap64 (x21_7+1)),fd,H',⟨by have:=HK1.out;have:=HK2.out;have:=HK3.out;have:=HJ32.out;have:=HJ35.out;have:=HK6.out;have:=HK7.out;have:=HJ42.out;omega⟩,⟨by(try simp only[hl11_2]);(try simp only[hl11_3]);(try simp only[hl11_6]);(try simp only[hl11_7]);(with_reducible repeat(first|apply Kd.S_alloc|apply Kd.S_drewN|apply Kd.S_drew));exact HO_11.out⟩,⟨by(try simp only[hl11_2]);(try simp only[hl11_3]);(try simp only[hl11_6]);(try simp only[hl11_7]);exact bm BK522.out⟩,⟨h1 HB.out GE522.out⟩⟩
 rw[if_pos c72]at H
 have c72b0:decide (t548<(rd (rd_L2 x11_7 (ji56)) (ji59)))=true:=decide_eq_true c72
 clear c72
 have c73b0:=eq_true (od:0≤x19_6)
 generalize hy556: (rd_L2 x11_7 (ji56)).set ((ji59):Int).toNat t548=y556 at H
 have Ny556:=ak hy556.symm
 clear hy556
 generalize hy558: (x11_7.set ((ji56):Int).toNat y556:List (List Int))=y558 at H
 have Ny558:=ak hy558.symm
 clear hy558
 have H':=Aside0.mk H
 clear H
 try go_wp2
 replace HO_11:=ak (Kd.S_drew HO_11.out)
 replace BK522:=ak (blk_drew BK522.out)
 replace HB:=ak (below_drew1 HB.out)
 have p544:0≤(x19_6:Int):=od
 have q544:x19_6<(l1.length:Int):=od
 obtain⟨ad544,e544,hx544_0,hx544_1,hx544_2⟩:=at_T63 HR1.out x19_6 p544 q544
 have hw544_2:=hx544_2
 have hw544_1:=hx544_1
 have hw544_0:=hx544_0
 obtain rfl:ad541=ad544:=(by injection e544)
 replace hx544_0:=hc HB hx544_0
 replace hx544_1:=hc HB hx544_1
 replace hx544_2:=hc HB hx544_2
 replace p544:=eq_true p544
 replace q544:=eq_true q544
 have p545:0≤(x19_6:Int):=od
 have q545:x19_6<(l1.length:Int):=od
 obtain⟨ad545,e545,hx545_0,hx545_1,hx545_2⟩:=at_T63 HR1.out x19_6 p545 q545
 have hw545_2:=hx545_2
 have hw545_1:=hx545_1
 have hw545_0:=hx545_0
 obtain rfl:ad541=ad545:=(by injection e545)
 replace hx545_0:=hc HB hx545_0
 replace hx545_1:=hc HB hx545_1
 replace hx545_2:=hc HB hx545_2
 replace p545:=eq_true p545
 replace q545:=eq_true q545
 refine start_ (n:=17) (S:=fun w'=>w'.cell? ⟨gb522,0,none⟩=some (.int .i64 a0_0)∧w'.cell? ⟨gb522,1,none⟩=some (.bool a0_1)∧w'.cell? (ad541.add ((x19_6).toNat*3))=some (.int .i64 ((rd_T63 l1 x19_6).f0))∧w'.cell? ⟨(ad541.add ((x19_6).toNat*3)).block,(ad541.add ((x19_6).toNat*3)).off+1,none⟩=some (.int .i64 ((rd_T63 l1 x19_6).f1))∧w'.cell? ⟨(ad541.add ((x19_6).toNat*3)).block,(ad541.add ((x19_6).toNat*3)).off+2,none⟩=some (.int .i64 ((rd_T63 l1 x19_6).f2))∧w'.cell? (ad541.add ((x19_6).toNat*3))=some (.int .i64 ((rd_T63 l1 x19_6).f0))∧w'.cell? ⟨(ad541.add ((x19_6).toNat*3)).block,(ad541.add ((x19_6).toNat*3)).off+1,none⟩=some (.int .i64 ((rd_T63 l1 x19_6).f1))∧w'.cell? ⟨(ad541.add ((x19_6).toNat*3)).block,(ad541.add ((x19_6).toNat*3)).off+2,none⟩=some (.int .i64 ((rd_T63 l1 x19_6).f2))) (ds:=[]) (lb 17 0) (by kernel_rfl) rfl rfl ⟨bc BK522 0 rfl,bc BK522 1 rfl,((HB.out.cell (World.block_lt_of_cell? w _ hw544_0)).trans hw544_0),((HB.out.cell (World.block_lt_of_cell? w _ hw544_1)).trans hw544_1),((HB.out.cell (World.block_lt_of_cell? w _ hw544_2)).trans hw544_2),((HB.out.cell (World.block_lt_of_cell? w _ hw545_0)).trans hw545_0),((HB.out.cell (World.block_lt_of_cell? w _ hw545_1)).trans hw545_1),((HB.out.cell (World.block_lt_of_cell? w _ hw545_2)).trans hw545_2)⟩ (fun hHeld=>?_);refine with_tabW spec_l7Best.tab30 spec_l7Best.bits30 (fun HT_ HW_=>?_)
 generalize wc.drew=w76 at HO_11 BK522 HB hx544_0 hx544_1 hx544_2 hx545_0 hx545_1 hx545_2 hHeld⊢
 refine pq 0 (N:=some 115) (lb 17 1) HT_ ?_
 refine pq 1 (N:=some 116) (lb 17 3) HT_ ?_
 refine pq 2 (N:=some 117) (lb 17 7) HT_ ?_
 refine pq 3 (N:=some 118) (lb 17 15) HT_ ?_
 refine pq 4 (N:=some 119) (lb 17 31) HT_ ?_
 refine pq 7 (N:=some 122) (lb 17 159) HT_ ?_
 refine pq 8 (N:=some 123) (lb 17 415) HT_ ?_
 refine pq 9 (N:=some 124) (lb 17 927) HT_ ?_
 refine pq 11 (N:=some 126) (lb 17 2975) HT_ ?_
 refine pq 12 (N:=some 127) (lb 17 7071) HT_ ?_
 refine take_ (i:=5) (N:=some 120) (v:=?_) (a':=?_) (lb 17 7103) rfl rfl (take_ofW HT_.out HW_.out (by kernel_rfl)) (fun _ _ _ h=>h) (Or.inl ⟨by rfl,?_⟩) hHeld ?_ ?_
 rotate_left
 ·rintro w' ⟨s0,s1,s2,s3,s4,s5,s6,s7⟩
  go_simp
  with_reducible rfl
 rotate_left
 ·simp only[ap]
  rfl
 refine take_ (i:=6) (N:=some 121) (v:=?_) (a':=?_) (lb 17 7167) rfl rfl (take_ofW HT_.out HW_.out (by kernel_rfl)) (fun _ _ _ h=>h) (Or.inl ⟨by rfl,?_⟩) hHeld ?_ ?_
 rotate_left
 ·rintro w' ⟨s0,s1,s2,s3,s4,s5,s6,s7⟩
  go_simp
  with_reducible rfl
 rotate_left
 ·simp only[ap]
  rfl
 refine take_ (i:=10) (N:=some 125) (v:=?_) (a':=?_) (lb 17 8191) rfl rfl (take_ofW HT_.out HW_.out (by kernel_rfl)) (fun _ _ _ h=>h) (Or.inl ⟨by rfl,?_⟩) hHeld ?_ ?_
 rotate_left
 ·rintro w' ⟨s0,s1,s2,s3,s4,s5,s6,s7⟩
  go_simp
  with_reducible rfl
 rotate_left
 ·simp only[ap]
  rfl
 refine one_ (i:=13) (N:=some 128) (lb 17 16383) rfl rfl (one_of HT_.out (by kernel_rfl)) (by decide) (fun K hK=>?_)
 refine goes_ Try.func61 (by kernel_rfl) rfl #[.agg #[.int .i64 a0_0,.bool a0_1],.agg #[.int .i64 ((rd_T63 l1 x19_6).f0),.int .i64 ((rd_T63 l1 x19_6).f1),.int .i64 ((rd_T63 l1 x19_6).f2)],.int .i64 x17_3,.int .i64 x21_7] (by rfl) rfl rfl gl ?_
 with_reducible refine(spec_l7Steps.calls a0_0 a0_1 ((rd_T63 l1 x19_6).f0) ((rd_T63 l1 x19_6).f1) ((rd_T63 l1 x19_6).f2) x17_3 x21_7 t546 _ A51.out).mono ?_
 rintro e w77 ⟨rfl,hb⟩
 refine⟨_,rfl,?_⟩
 replace HO_11:=ak (Kd.S_below (sm HO_11.out) hb)
 replace BK522:=kb BK522 hb
 replace HB:=ak (below_step (h1 HB.out GE522.out) hb)
 (try clear hb)
 (try clear hb2)
 (try clear hk)
 (try clear hi)
 refine hK.out _ _ ⟨bc BK522 0 rfl,bc BK522 1 rfl,((HB.out.cell (World.block_lt_of_cell? w _ hw544_0)).trans hw544_0),((HB.out.cell (World.block_lt_of_cell? w _ hw544_1)).trans hw544_1),((HB.out.cell (World.block_lt_of_cell? w _ hw544_2)).trans hw544_2),((HB.out.cell (World.block_lt_of_cell? w _ hw545_0)).trans hw545_0),((HB.out.cell (World.block_lt_of_cell? w _ hw545_1)).trans hw545_1),((HB.out.cell (World.block_lt_of_cell? w _ hw545_2)).trans hw545_2)⟩ (fun hHeld=>?_)
 clear hK K
 refine norm_ (a':=?_) ?_ ?_
 rotate_left
 ·show Act.put _ (some 128) _=_
  simp only[ap]
  rfl
 refine pq 14 (N:=some 129) (lb 17 32767) HT_ ?_
 refine pq 15 (N:=some 130) (lb 17 65535) HT_ ?_
 refine pq 16 (N:=some 22) (lb 17 131071) HT_ ?_
 refine done_ (done_of HT_.out (by kernel_rfl)) ?_
 try go_wp2
 replace HO_11:=ak (Kd.S_drew HO_11.out)
 replace BK522:=ak (blk_drew BK522.out)
 replace HB:=ak (below_drew1 HB.out)
 have p547:0≤(x19_6:Int):=od
 have q547:x19_6<(l1.length:Int):=od
 obtain⟨ad547,e547,hx547_0,hx547_1,hx547_2⟩:=at_T63 HR1.out x19_6 p547 q547
 have hw547_2:=hx547_2
 have hw547_1:=hx547_1
 have hw547_0:=hx547_0
 obtain rfl:ad541=ad547:=(by injection e547)
 replace hx547_0:=hc HB hx547_0
 replace hx547_1:=hc HB hx547_1
 replace hx547_2:=hc HB hx547_2
 replace p547:=eq_true p547
 replace q547:=eq_true q547
 refine start_ (n:=10) (S:=fun w'=>w'.cell? ⟨gb522,0,none⟩=some (.int .i64 a0_0)∧w'.cell? ⟨gb522,1,none⟩=some (.bool a0_1)∧w'.cell? (ad541.add ((x19_6).toNat*3))=some (.int .i64 ((rd_T63 l1 x19_6).f0))∧w'.cell? ⟨(ad541.add ((x19_6).toNat*3)).block,(ad541.add ((x19_6).toNat*3)).off+1,none⟩=some (.int .i64 ((rd_T63 l1 x19_6).f1))∧w'.cell? ⟨(ad541.add ((x19_6).toNat*3)).block,(ad541.add ((x19_6).toNat*3)).off+2,none⟩=some (.int .i64 ((rd_T63 l1 x19_6).f2))) (ds:=[]) (lb 10 0) (by kernel_rfl) rfl rfl ⟨bc BK522 0 rfl,bc BK522 1 rfl,((HB.out.cell (World.block_lt_of_cell? w _ hw547_0)).trans hw547_0),((HB.out.cell (World.block_lt_of_cell? w _ hw547_1)).trans hw547_1),((HB.out.cell (World.block_lt_of_cell? w _ hw547_2)).trans hw547_2)⟩ (fun hHeld=>?_);refine with_tabW spec_l7Best.tab32 spec_l7Best.bits32 (fun HT_ HW_=>?_)
 generalize w77.drew=w78 at HO_11 BK522 HB hx547_0 hx547_1 hx547_2 hHeld⊢
 refine pq 1 (N:=some 133) (lb 10 2) HT_ ?_
 refine pq 2 (N:=some 134) (lb 10 6) HT_ ?_
 refine pq 3 (N:=some 135) (lb 10 14) HT_ ?_
 refine pq 5 (N:=some 137) (lb 10 46) HT_ ?_
 refine pq 6 (N:=some 138) (lb 10 110) HT_ ?_
 refine pq 7 (N:=some 139) (lb 10 238) HT_ ?_
 refine tq 0 (N:=some 132) (lb 10 239) HT_ HW_ hHeld ?_
 refine tq 4 (N:=some 136) (lb 10 255) HT_ HW_ hHeld ?_
 refine one_ (i:=8) (N:=some 140) (lb 10 511) rfl rfl (one_of HT_.out (by kernel_rfl)) (by decide) (fun K hK=>?_)
 refine goes_ Try.func69 (by kernel_rfl) rfl #[.agg #[.int .i64 a0_0,.bool a0_1],.agg #[.int .i64 ((rd_T63 l1 x19_6).f0),.int .i64 ((rd_T63 l1 x19_6).f1),.int .i64 ((rd_T63 l1 x19_6).f2)],.int .i64 (rd (rd_L2 x11_3 x16_2) (ji29)),.int .i64 x17_3,.int .i64 x21_7] (by rfl) rfl rfl (by(try simp only[List.map_toArray,List.map_cons,List.map_nil]);first|done|(simp only[hji29];rfl)|rfl|(simp only[List.length_drop,List.length_take];rfl)) ?_
 with_reducible refine(spec_l7Arrive.calls a0_0 a0_1 ((rd_T63 l1 x19_6).f0) ((rd_T63 l1 x19_6).f1) ((rd_T63 l1 x19_6).f2) (rd (rd_L2 x11_3 x16_2) (ji29)) x17_3 x21_7 t548 _ A53.out).mono ?_
 rintro e w79 ⟨rfl,hb⟩
 refine⟨_,rfl,?_⟩
 replace HO_11:=ak (Kd.S_below (sm HO_11.out) hb)
 replace BK522:=kb BK522 hb
 replace HB:=ak (below_step (h1 HB.out GE522.out) hb)
 (try clear hb)
 (try clear hb2)
 (try clear hk)
 (try clear hi)
 refine hK.out _ _ ⟨bc BK522 0 rfl,bc BK522 1 rfl,((HB.out.cell (World.block_lt_of_cell? w _ hw547_0)).trans hw547_0),((HB.out.cell (World.block_lt_of_cell? w _ hw547_1)).trans hw547_1),((HB.out.cell (World.block_lt_of_cell? w _ hw547_2)).trans hw547_2)⟩ (fun hHeld=>?_)
 clear hK K
 refine norm_ (a':=?_) ?_ ?_
 rotate_left
 ·show Act.put _ (some 140) _=_
  simp only[ap]
  rfl
 refine pq 9 (N:=some 22) (lb 10 1023) HT_ ?_
 refine done_ (done_of HT_.out (by kernel_rfl)) ?_
 have p549:0≤((ji56):Int):=od
 have q549: (ji56)<(x11_7.length:Int):=od
 obtain⟨ad549,A549_0,c549_0,e549,hx549_0,hl549_0,hi549_0⟩:=at_L2 (Kd.S_reads' HO_11.out).2.2 (ji56) p549 q549
 obtain rfl:ad535=ad549:=(by injection e549)
 obtain⟨ce549,hce549,hMe549,hcc549⟩:=Kd.S_get HO_11.out [] (ji56) p549 (by first|exact q549|exact od|(have e_:=(Kd.S_reads' HO_11.out).1;omega))
 obtain⟨ve549_0,rfl,ge549_0⟩:=hMe549
 have hv549_0:=hcc549 0 _ rfl
 rw[Nat.add_zero,show((Kd.slice 3 (Kd.int .i64))).sz=1 from rfl,Nat.mul_one]at hv549_0
 replace hv549_0:=Option.some.inj (hv549_0.symm.trans hx549_0)
 rw[hv549_0]at ge549_0
 have HL549_0:=Aside0.mk (show Kd.R (Kd.int .i64) 3 _ _ _ _ (rd_L2 x11_7 (ji56))from ge549_0)
 clear hv549_0 ge549_0
 have HX549_0:=Aside0.mk hx549_0
 clear hcc549 hce549
 have HR549_0:=Aside0.mk hi549_0
 have HC549_0:=Aside0.mk hl549_0
 clear hi549_0 hl549_0
 replace p549:=eq_true p549
 replace q549:=eq_true q549
 have p550:0≤((ji59):Int):=od
 have q550: (ji59)<((rd_L2 x11_7 (ji56)).length:Int):=od
 obtain⟨ad550,e550,hx550_0⟩:=Kd.at_int (by repeat(first|(with_reducible exact HR549_0.out)|(with_reducible refine C_alloc ?_ _)|(with_reducible refine C_drewN ?_ _)|(with_reducible refine C_drew ?_)|exact HR549_0.out)) (ji59) p550 q550
 cases e550
 replace p550:=eq_true p550
 replace q550:=eq_true q550
 have p555:0≤((ji56):Int):=od
 have q555: (ji56)<(x11_7.length:Int):=od
 obtain⟨ad555,A555_0,c555_0,e555,hx555_0,hl555_0,hi555_0⟩:=at_L2 (Kd.S_reads' HO_11.out).2.2 (ji56) p555 q555
 obtain rfl:ad535=ad555:=(by injection e555)
 obtain⟨ce555,hce555,hMe555,hcc555⟩:=Kd.S_get HO_11.out [] (ji56) p555 (by first|exact q555|exact od|(have e_:=(Kd.S_reads' HO_11.out).1;omega))
 obtain⟨ve555_0,rfl,ge555_0⟩:=hMe555
 have hv555_0:=hcc555 0 _ rfl
 rw[Nat.add_zero,show((Kd.slice 3 (Kd.int .i64))).sz=1 from rfl,Nat.mul_one]at hv555_0
 replace hv555_0:=Option.some.inj (hv555_0.symm.trans hx555_0)
 rw[hv555_0]at ge555_0
 have HL555_0:=Aside0.mk (show Kd.R (Kd.int .i64) 3 _ _ _ _ (rd_L2 x11_7 (ji56))from ge555_0)
 clear hv555_0 ge555_0
 have HX555_0:=Aside0.mk hx555_0
 clear hcc555 hce555
 have HR555_0:=Aside0.mk hi555_0
 have HC555_0:=Aside0.mk hl555_0
 clear hi555_0 hl555_0
 replace p555:=eq_true p555
 replace q555:=eq_true q555
 have ea_:=Option.some.inj (hx549_0.symm.trans hx555_0)
 injection ea_ with ea_ en_ ec_
 subst ea_
 subst ec_
 clear en_
 have p75:0≤((ji59):Int):=od
 have q75: ((ji59):Int)<(((rd_L2 x11_7 (ji56)).length:Int):Int):=od
 obtain⟨go75,co75,eo75,gb75,gl75,cl75,HG75⟩:=R_form HL555_0.out (by omega)
 (first|cases eo75|(injection eo75 with ea_ en_ ec_;(first|subst ea_|(injection ea_ with ea_;subst ea_));subst ec_;clear en_))
 have GB75:=Aside0.mk gb75
 have GG75:=Aside0.mk HG75
 clear gb75 gl75 HG75
 (first|simp only[add_plain]at hx550_0|skip)
 obtain⟨hx75_0,hf75_0⟩:=R_celln 0 HL555_0.out ((ji59):Int) p75 q75
 replace p75:=eq_true p75
 replace q75:=eq_true q75
 have hq80: ((ji56):Int)<(x11_7.length:Int):=(by have h_: ((ji56):Int)<((x11_7.length:Int):Int):=od;first|exact h_|(have e_:=(Kd.S_reads' HO_11.out).1;omega)|simpa only[List.length_set,List.length_set]using h_)
 obtain⟨oki80,ce80,hcl80,hM80,hcc80,hok80,hbk80⟩:=Kd.S_borrow HO_11.out [] ((ji56):Int) (od) hq80
 obtain⟨ve80_0,rfl,ge80_0⟩:=hM80
 have hv80:=hcc80 0 _ rfl
 rw[Nat.add_zero,show((Kd.slice 3 (Kd.int .i64))).sz=1 from rfl,Nat.mul_one]at hv80
 replace hv80:=Option.some.inj (hv80.symm.trans HX555_0.out)
 subst hv80
 clear hcc80 hcl80
 replace ge80_0:=(show Kd.R (Kd.int .i64) 3 _ _ _ _ (rd_L2 x11_7 (ji56))from ge80_0)
 have HP80:=R_putg ge80_0 ((ji59):Int) t548
 try go_wp2_with (first|((with_reducible refine gate_store (t:=3) (p:=171) rfl ?_);refine store_event (t:=3) (p:=171) (v:=?vo_w81) (w1:=(w79.setCell ⟨go75,((ji59):Int).toNat,none⟩ (.int .i64 t548))) ?hg ?ho ?hn ?hr ?_;(case ho=>rfl);(case hg=>rfl);(case hn=>rfl);(case hr=>first|(go_simp;done)|(go_simp;rfl));intro w81 hw;have hg:w79.grownBy w81 (some go75):=(by rw[hw];exact HP80.2);have hz_:Kd.R (Kd.int .i64) 3 w81 w.heap.size oki80 (.slice (some ⟨go75,0,none⟩) (rd_L2 x11_7 (ji56)).length c549_0) y556:=(by rw[hw,Ny556.out];exact HP80.1);have hp_:Kd.S (Kd.slice 3 (Kd.int .i64)) 40 w81 w.heap.size (fun _=>True) (.slice (some ad535) x11_7.length co22) y558:=(by rw[Ny558.out];exact hbk80 hg (fun k_ e_=>by injection e_ with e_;subst e_;exact ge80_0.1 _ rfl) (Kd.M_row hz_));have hm_:=R_mono hz_ hok80;clear HP80 hbk80;replace HO_11:=ak hp_;replace BK522:=ak (blk_grown (g:=gb522) (o:=.cells #[.int .i64 a0_0,.bool a0_1] 28 (0,0)) (bm BK522.out) hg (R_ne HL555_0.out BK522.out (by decide)));replace HB:=ak ((by rw[hw];exact below_set (HB.out) GB75.out:Below w.heap.size w w81));have HL571:=ak hm_;have HC557:=ak ((R_reads' hm_).2.1);clear HL549_0 HL555_0;clear hg hw hp_ hz_ hm_ hok80))
 (try simp only[←hl11_7])
 go_roundg kj42
 case measure=>have:=HK1.out;have:=HK2.out;have:=HK3.out;have:=HJ32.out;have:=HJ35.out;have:=HK6.out;have:=HK7.out;have:=HJ42.out;omega
 case rel=>exact⟨(y558),(wrap64 (x21_7+1)),fd,H',⟨by have:=HK1.out;have:=HK2.out;have:=HK3.out;have:=HJ32.out;have:=HJ35.out;have:=HK6.out;have:=HK7.out;have:=HJ42.out;omega⟩,⟨by(try simp only[hl11_2]);(try simp only[hl11_3]);(try simp only[hl11_6]);(try simp only[hl11_7]);(with_reducible repeat(first|apply Kd.S_alloc|apply Kd.S_drewN|apply Kd.S_drew));exact HO_11.out⟩,⟨by(try simp only[hl11_2]);(try simp only[hl11_3]);(try simp only[hl11_6]);(try simp only[hl11_7]);exact bm BK522.out⟩,⟨h1 HB.out GE522.out⟩⟩
end
end Go.Proofs.Ythagkpoinjpmfaa.QFnReaches
