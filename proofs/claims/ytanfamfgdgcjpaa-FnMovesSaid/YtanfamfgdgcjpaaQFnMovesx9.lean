/- Functions that the law FnMoves comes to, and their walks: no condition but those named. -/
import Derived.Test.YtanfamfgdgcjpaaQFnMovesx0
import Derived.Test.YtanfamfgdgcjpaaQFnMovesx2
import Derived.Test.YtanfamfgdgcjpaaQFnMovesx6
namespace Go.Proofs.Ytanfamfgdgcjpaa.QFnMoves
open Go.RowKit Go.Proofs.YtanfamfgdgcjpaaW.PrintWords Go.Proofs.YtanfamfgdgcjpaaW.PrintLast Go.Proofs.YtanfamfgdgcjpaaW.PrintMore Go.Proofs.Ytanfamfgdgcjpaa.Short
attribute [local go_sem] max2_int min2_int max_two min_two max_three min_three max_four min_four
set_option linter.unusedVariables false
set_option linter.unusedSimpArgs false
section
open Kd
mutual
def spec_l9Sum.l0:Nat→List (S58)→List (List Int)→Int→Int→Bool→Option (Int)
 | 0,_,_,_,_,_=>none
 | k+1,x1,x5,x6,x241000,x241001=>if x6<(shl .i64 1 (x1.length:Int))then(if 0≤(wrap64 (x241000+1))then(if(wrap64 (x241000+1):Int).toNat≤35184372088832 then(spec_l9Sum.l1 k x1 x5 x6 (List.replicate (wrap64 (x241000+1):Int).toNat 0) 0 x241000 x241001)else(none))else(none))else(if 0<(x5.length:Int)then(if 0<((rd_L2 x5 0).length:Int)then(spec_l9Sum.l2 k x1 (x5.set (0:Int).toNat ((rd_L2 x5 0).set (0:Int).toNat 0)) (-1) 0 x241000 x241001)else(none))else(none))
def spec_l9Sum.l1:Nat→List (S58)→List (List Int)→Int→List Int→Int→Int→Bool→Option (Int)
 | 0,_,_,_,_,_,_,_=>none
 | k+1,x1,x5,x6,x7,x8,x241000,x241001=>if x8≤x241000 then(if 0≤x8 then(if x8<(x7.length:Int)then(spec_l9Sum.l1 k x1 x5 x6 (x7.set (x8:Int).toNat (-1)) (wrap64 (x8+1)) x241000 x241001)else(none))else(none))else(if x5.length<5864062014805 then(spec_l9Sum.l0 k x1 (x5++[x7]) (wrap64 (x6+1)) x241000 x241001)else(none))
def spec_l9Sum.l2:Nat→List (S58)→List (List Int)→Int→Int→Int→Bool→Option (Int)
 | 0,_,_,_,_,_,_=>none
 | k+1,x1,x5,x9,x10,x241000,x241001=>if x10<(x5.length:Int)then(spec_l9Sum.l3 k x1 x5 x9 x10 0 x241000 x241001)else(some x9)
def spec_l9Sum.l3:Nat→List (S58)→List (List Int)→Int→Int→Int→Int→Bool→Option (Int)
 | 0,_,_,_,_,_,_,_=>none
 | k+1,x1,x5,x9,x10,x11,x241000,x241001=>if x11≤x241000 then(if 0≤x10 then(if x10<(x5.length:Int)then(if 0≤x11 then(if x11<((rd_L2 x5 x10).length:Int)then(if(rd (rd_L2 x5 x10) x11)<0 then(spec_l9Sum.l3 k x1 x5 x9 x10 (wrap64 (x11+1)) x241000 x241001)else(if x11=x241000 then(if x9<0 then(spec_l9Sum.j4 k x1 x5 x9 x10 x11 (rd (rd_L2 x5 x10) x11) true x241000 x241001)else(spec_l9Sum.j4 k x1 x5 x9 x10 x11 (rd (rd_L2 x5 x10) x11) (decide ((rd (rd_L2 x5 x10) x11)<x9)) x241000 x241001))else(spec_l9Sum.j4 k x1 x5 x9 x10 x11 (rd (rd_L2 x5 x10) x11) false x241000 x241001)))else(none))else(none))else(none))else(none))else(spec_l9Sum.l2 k x1 x5 x9 (wrap64 (x10+1)) x241000 x241001)
def spec_l9Sum.j4:Nat→List (S58)→List (List Int)→Int→Int→Int→Int→Bool→Int→Bool→Option (Int)
 | 0,_,_,_,_,_,_,_,_,_=>none
 | k+1,x1,x5,x9,x10,x11,x12,x80,x241000,x241001=>if x80=true then(spec_l9Sum.j5 k x1 x5 x12 x10 x11 x12 x241000 x241001)else(spec_l9Sum.j5 k x1 x5 x9 x10 x11 x12 x241000 x241001)
def spec_l9Sum.j5:Nat→List (S58)→List (List Int)→Int→Int→Int→Int→Int→Bool→Option (Int)
 | 0,_,_,_,_,_,_,_,_=>none
 | k+1,x1,x5,x9,x10,x11,x12,x241000,x241001=>spec_l9Sum.l4 k x1 x5 x9 x10 x11 x12 0 x241000 x241001
def spec_l9Sum.l4:Nat→List (S58)→List (List Int)→Int→Int→Int→Int→Int→Int→Bool→Option (Int)
 | 0,_,_,_,_,_,_,_,_,_=>none
 | k+1,x1,x5,x9,x10,x11,x12,x13,x241000,x241001=>if x13<(x1.length:Int)then(spec_l9Sum.j7 k x1 x5 x9 x10 x11 x12 x13 (decide (x11<x241000)) x241000 x241001)else(spec_l9Sum.j7 k x1 x5 x9 x10 x11 x12 x13 false x241000 x241001)
def spec_l9Sum.j7:Nat→List (S58)→List (List Int)→Int→Int→Int→Int→Int→Bool→Int→Bool→Option (Int)
 | 0,_,_,_,_,_,_,_,_,_,_=>none
 | k+1,x1,x5,x9,x10,x11,x12,x13,x91,x241000,x241001=>if x91=true then(if 0≤x13 then(if(Go.bits .and .i64 (shr .i64 x10 x13) 1)=1 then(spec_l9Sum.l4 k x1 x5 x9 x10 x11 x12 (wrap64 (x13+1)) x241000 x241001)else(if x13<(x1.length:Int)then((spec_l1Most.f 0 (wrap64 (x11-((rd_T58 x1 x13).f1)))).bind fun t258=>(spec_l9Sum.l5 k x1 x5 x9 x10 x11 x12 x13 t258 x241000 x241001))else(none)))else(none))else(spec_l9Sum.l3 k x1 x5 x9 x10 (wrap64 (x11+1)) x241000 x241001)
def spec_l9Sum.l5:Nat→List (S58)→List (List Int)→Int→Int→Int→Int→Int→Int→Int→Bool→Option (Int)
 | 0,_,_,_,_,_,_,_,_,_,_=>none
 | k+1,x1,x5,x9,x10,x11,x12,x13,x14,x241000,x241001=>if 0≤x13 then(if x13<(x1.length:Int)then((spec_l1Least.f (wrap64 (x241000-1)) (wrap64 (x11+((rd_T58 x1 x13).f1)))).bind fun t260=>(if x14≤t260 then((spec_l1Least.f x241000 (wrap64 ((wrap64 (x14+((rd_T58 x1 x13).f1)))+1))).bind fun t262=>((spec_l2Gap.f x241000 x241001 ((rd_T58 x1 x13).f0) x14).bind fun t264=>(if 0≤(wrap64 (x10+(shl .i64 1 x13)))then(if(wrap64 (x10+(shl .i64 1 x13)))<(x5.length:Int)then(if 0≤t262 then(if t262<((rd_L2 x5 (wrap64 (x10+(shl .i64 1 x13)))).length:Int)then(if(rd (rd_L2 x5 (wrap64 (x10+(shl .i64 1 x13)))) t262)<0 then(spec_l9Sum.l5 k x1 (x5.set ((wrap64 (x10+(shl .i64 1 x13))):Int).toNat ((rd_L2 x5 (wrap64 (x10+(shl .i64 1 x13)))).set (t262:Int).toNat (wrap64 (x12+t264)))) x9 x10 x11 x12 x13 (wrap64 (x14+1)) x241000 x241001)else(if(wrap64 (x12+t264))<(rd (rd_L2 x5 (wrap64 (x10+(shl .i64 1 x13)))) t262)then(spec_l9Sum.l5 k x1 (x5.set ((wrap64 (x10+(shl .i64 1 x13))):Int).toNat ((rd_L2 x5 (wrap64 (x10+(shl .i64 1 x13)))).set (t262:Int).toNat (wrap64 (x12+t264)))) x9 x10 x11 x12 x13 (wrap64 (x14+1)) x241000 x241001)else(spec_l9Sum.l5 k x1 x5 x9 x10 x11 x12 x13 (wrap64 (x14+1)) x241000 x241001)))else(none))else(none))else(none))else(none))))else(spec_l9Sum.l4 k x1 x5 x9 x10 x11 x12 (wrap64 (x13+1)) x241000 x241001)))else(none))else(none)
end
def spec_l9Sum.f (k:Nat) (a0_0:Int) (a0_1:Bool) (l1:List (S58)):Option (Int):=spec_l9Sum.l0 k l1 (([]:List (List Int))) 0 a0_0 a0_1
theorem spec_l9Sum.mono_l:∀ k,(∀ y0 y1 y2 y3 y4,LeO (spec_l9Sum.l0 k y0 y1 y2 y3 y4) (spec_l9Sum.l0 (k+1) y0 y1 y2 y3 y4))∧(∀ y0 y1 y2 y3 y4 y5 y6,LeO (spec_l9Sum.l1 k y0 y1 y2 y3 y4 y5 y6) (spec_l9Sum.l1 (k+1) y0 y1 y2 y3 y4 y5 y6))∧(∀ y0 y1 y2 y3 y4 y5,LeO (spec_l9Sum.l2 k y0 y1 y2 y3 y4 y5) (spec_l9Sum.l2 (k+1) y0 y1 y2 y3 y4 y5))∧(∀ y0 y1 y2 y3 y4 y5 y6,LeO (spec_l9Sum.l3 k y0 y1 y2 y3 y4 y5 y6) (spec_l9Sum.l3 (k+1) y0 y1 y2 y3 y4 y5 y6))∧(∀ y0 y1 y2 y3 y4 y5 y6 y7 y8,LeO (spec_l9Sum.j4 k y0 y1 y2 y3 y4 y5 y6 y7 y8) (spec_l9Sum.j4 (k+1) y0 y1 y2 y3 y4 y5 y6 y7 y8))∧(∀ y0 y1 y2 y3 y4 y5 y6 y7,LeO (spec_l9Sum.j5 k y0 y1 y2 y3 y4 y5 y6 y7) (spec_l9Sum.j5 (k+1) y0 y1 y2 y3 y4 y5 y6 y7))∧(∀ y0 y1 y2 y3 y4 y5 y6 y7 y8,LeO (spec_l9Sum.l4 k y0 y1 y2 y3 y4 y5 y6 y7 y8) (spec_l9Sum.l4 (k+1) y0 y1 y2 y3 y4 y5 y6 y7 y8))∧(∀ y0 y1 y2 y3 y4 y5 y6 y7 y8 y9,LeO (spec_l9Sum.j7 k y0 y1 y2 y3 y4 y5 y6 y7 y8 y9) (spec_l9Sum.j7 (k+1) y0 y1 y2 y3 y4 y5 y6 y7 y8 y9))∧(∀ y0 y1 y2 y3 y4 y5 y6 y7 y8 y9,LeO (spec_l9Sum.l5 k y0 y1 y2 y3 y4 y5 y6 y7 y8 y9) (spec_l9Sum.l5 (k+1) y0 y1 y2 y3 y4 y5 y6 y7 y8 y9))
 | 0=>by
  refine⟨?_,?_,?_,?_,?_,?_,?_,?_,?_⟩<;>(intros;intro r h;simp[spec_l9Sum.l0,spec_l9Sum.l1,spec_l9Sum.l2,spec_l9Sum.l3,spec_l9Sum.j4,spec_l9Sum.j5,spec_l9Sum.l4,spec_l9Sum.j7,spec_l9Sum.l5]at h)
 | k+1=>by
  obtain⟨ih0,ih1,ih2,ih3,ih4,ih5,ih6,ih7,ih8⟩:=spec_l9Sum.mono_l k
  refine⟨?_,?_,?_,?_,?_,?_,?_,?_,?_⟩<;>intros<;>(first|unfold spec_l9Sum.l0|unfold spec_l9Sum.l1|unfold spec_l9Sum.l2|unfold spec_l9Sum.l3|unfold spec_l9Sum.j4|unfold spec_l9Sum.j5|unfold spec_l9Sum.l4|unfold spec_l9Sum.j7|unfold spec_l9Sum.l5)<;>(repeat' (with_reducible first|exact ih0 ..|exact ih1 ..|exact ih2 ..|exact ih3 ..|exact ih4 ..|exact ih5 ..|exact ih6 ..|exact ih7 ..|exact ih8 ..|exact LeO.refl _|exact LeO.none _|refine LeO.ite ?_ ?_|refine LeO.bind ?_ (fun _=>?_)))
theorem spec_l9Sum.mono:∀ a0 a1 a2 k,LeO (spec_l9Sum.f k a0 a1 a2) (spec_l9Sum.f (k+1) a0 a1 a2):=by
 intro a0 a1 a2 k
 obtain⟨ih0,ih1,ih2,ih3,ih4,ih5,ih6,ih7,ih8⟩:=spec_l9Sum.mono_l k
 unfold spec_l9Sum.f
 repeat' (with_reducible first|exact ih0 ..|exact ih1 ..|exact ih2 ..|exact ih3 ..|exact ih4 ..|exact ih5 ..|exact ih6 ..|exact ih7 ..|exact ih8 ..|exact LeO.refl _|exact LeO.none _|refine LeO.ite ?_ ?_|refine LeO.bind ?_ (fun _=>?_))
def spec_l9Sum.T28:Bool × List (List Nat × List Nat):=(true,[([],[]),([],[]),([1],[1]),([2],[2]),([],[]),([],[]),([],[]),([5,6],[5,6]),([7],[7]),([8],[8]),([4,9],[4,9]),([3,10],[3,10]),([0,11],[0,11])])
def spec_l9Sum.B28:List Nat:=[0,0,2,6,0,0,0,96,224,480,1008,2046,4095]
theorem spec_l9Sum.tab28:rtab .any (opsOf Try.f59 28)=spec_l9Sum.T28:=by kernel_rfl
theorem spec_l9Sum.bits28:waitsOk spec_l9Sum.T28.2 spec_l9Sum.B28=true:=by kernel_rfl
def spec_l9Sum.T30:Bool × List (List Nat × List Nat):=(true,[([],[]),([0],[0]),([],[]),([],[]),([],[]),([3,4],[3,4]),([5],[5]),([6],[6]),([2,7],[2,7]),([8],[8]),([1,9],[1,9]),([10,10,0,1,2,3,4,5,6,7,8,9,10],[10])])
def spec_l9Sum.B30:List Nat:=[0,1,0,0,0,24,56,120,252,508,1023,2047]
theorem spec_l9Sum.tab30:rtab .any (opsOf Try.f59 30)=spec_l9Sum.T30:=by kernel_rfl
theorem spec_l9Sum.bits30:waitsOk spec_l9Sum.T30.2 spec_l9Sum.B30=true:=by kernel_rfl
def spec_l9Sum.T31:Bool × List (List Nat × List Nat):=(true,[([],[]),([],[]),([],[]),([],[]),([2,3],[2,3]),([4],[4]),([5],[5]),([],[]),([1,6,7],[1,6,7]),([0,8],[0,8]),([9,8,0,1,2,3,4,5,6,7,8,9],[9])])
def spec_l9Sum.B31:List Nat:=[0,0,0,0,12,28,60,0,254,511,1023]
theorem spec_l9Sum.tab31:rtab .any (opsOf Try.f59 31)=spec_l9Sum.T31:=by kernel_rfl
theorem spec_l9Sum.bits31:waitsOk spec_l9Sum.T31.2 spec_l9Sum.B31=true:=by kernel_rfl
set_option maxHeartbeats 8000000 in
set_option maxRecDepth 100000 in
theorem spec_l9Sum.calls (k:Nat) (a0_0:Int) (a0_1:Bool) (A1:Option Addr) (c1:Nat) (l1:List (S58)) (r:Int) (w:World) (hr1:Kd.C k58 w A1 l1.length l1) (hc1:l1.length≤c1) (h:spec_l9Sum.f k a0_0 a0_1 l1=some r):
  Calls Try.prog 59 #[.agg #[.int .i64 a0_0,.bool a0_1],.slice A1 l1.length c1] w fun e w'=>e= .returned (.int .i64 r)∧Below w.heap.size w w':=by
 have HR1:=Aside0.mk hr1
 clear hr1 hc1
 have HB:=Aside0.mk (Below.refl w.heap.size w)
 unfold spec_l9Sum.f at h
 have H:=h
 clear h
 generalize hy241: ([]:List (List Int))=y241 at H
 have Ny241:=ak hy241.symm
 clear hy241
 have H':=Aside0.mk H
 clear H
 go_enter Try.func59,Try.ntmps59
 go_wp2_with (first|(refine bx 2 #[.int .i64 a0_0,.bool a0_1] 27 ?_;intro gb240 hg w3 hbox hb;have BK240:=ak hbox;have GE240:=gw HB hg;replace HB:=bs HB hb;clear hb hbox hg)|((with_reducible refine gate_dst (N:=18) rfl ?_);refine Kd.S_lit (Kd.slice 3 (Kd.int .i64)) _ 24 ?hg (N:=18) ?hd (xs:=([]:List (List Int))) (inner:=[]) (ok:=fun _=>True) (okp:=fun _=>True) ?hr ?hp (fun _ hk=>hk) trivial (Below.refl _ _) (Nat.le_refl _) (by simp) ?_;(case hd=>rfl);(case hg=>rfl);(case hr=>first|(go_simp;done)|(go_simp;rfl));(case hp=>exact(Reps.none _ _));intro v242 w4 ho5 hb hg_ hnew_;clear hg_ hnew_;(first|rw[←Ny241.out]at ho5|(simp only[Int.reduceToNat]at ho5;rw[←Ny241.out]at ho5));have HO243:=ak (Kd.S_lower ho5 (below_size (h1 HB.out GE240.out)));replace BK240:=kb BK240 hb;replace HB:=ak (below_step (h1 HB.out GE240.out) hb);clear hb ho5))
 go_loopg [5,6] k (fun kq v5 v6 w'=>∃ (x5_1:List (List Int)) (x6_1:Int),v6= .int .i64 x6_1∧Aside0 (spec_l9Sum.l0 kq l1 x5_1 x6_1 a0_0 a0_1=some r)∧Aside0 (kq≤k)∧Aside0 (Kd.S (Kd.slice 3 (Kd.int .i64)) 24 w' w.heap.size (fun _=>True) v5 x5_1)∧Aside0 (w'.heap[gb240]? =some (.cells #[.int .i64 a0_0,.bool a0_1] 27 (0,0)))∧Aside0 (Below w.heap.size w w'))
 case atStart=>exact⟨(y241),(0),fd,H',⟨Nat.le_refl _⟩,⟨sm HO243.out⟩,⟨bm BK240.out⟩,⟨h1 HB.out GE240.out⟩⟩
 clear H'
 obtain⟨x5_1,x6_1,rfl,HA,HK1,HO_5,BK240,HB⟩:=hrel
 obtain _|k1:=gk;·cases HA.out
 obtain⟨H⟩:=HA
 simp only[spec_l9Sum.l0]at H
 generalize hji6: (shl .i64 1 (l1.length:Int))=ji6 at H
 have hji6_: (IntKind.i64.wrap (1*2^min (l1.length:Int).toNat 64))=ji6:=hji6
 have hji6z: (l1.length:Int)≤64→(IntKind.i64.wrap (1*2^ (l1.length:Int).toNat))=ji6:=shl_small hji6
 have hji6p: (IntKind.i64.wrap (1*2^min l1.length 64))=ji6:=hji6_
 have hji6q: (l1.length:Int)≤64→(IntKind.i64.wrap (1*2^l1.length))=ji6:=hji6z
 have hji6r: (IntKind.i64.wrap (2^min l1.length 64))=ji6:=by have h_:=hji6p;rw[Int.one_mul]at h_;exact h_
 have hji6s: (l1.length:Int)≤64→(IntKind.i64.wrap (2^l1.length))=ji6:=fun hle_=>by have h_:=hji6q hle_;rw[Int.one_mul]at h_;exact h_
 have hji6u: (IntKind.i64.wrap (2^min (l1.length:Int).toNat 64))=ji6:=by have h_:=hji6_;rw[Int.one_mul]at h_;exact h_
 have hji6v: (l1.length:Int)≤64→(IntKind.i64.wrap (2^ (l1.length:Int).toNat))=ji6:=fun hle_=>by have h_:=hji6z hle_;rw[Int.one_mul]at h_;exact h_
 have hji6y: (wrap64 (1*2^min (l1.length:Int).toNat 64))=ji6:=(i64_w _).symm.trans hji6_
 have hji6x: (l1.length:Int)≤64→(wrap64 (1*2^ (l1.length:Int).toNat))=ji6:=fun h_=>(i64_w _).symm.trans (hji6z h_)
 by_cases c7:x6_1<(ji6)
 ·rw[if_pos c7]at H
  have c7b0:decide (x6_1<(ji6))=true:=decide_eq_true c7
  clear c7
  generalize hji8: (wrap64 (a0_0+1))=ji8 at H
  have hji8w: (IntKind.i64.wrap (a0_0+1))=ji8:=(i64_w _).trans hji8
  obtain⟨c9,H⟩:=gi H
  have c9b1:decide (0≤(ji8))=true:=decide_eq_true c9
  clear c9
  obtain⟨c10,H⟩:=gi H
  have c10b1:decide ((ji8:Int).toNat≤35184372088832)=true:=decide_eq_true c10
  clear c10
  generalize hy244: (List.replicate (ji8:Int).toNat 0:List Int)=y244 at H
  have Ny244:=ak hy244.symm
  clear hy244
  have H':=Aside0.mk H
  clear H
  have hcz11_0:=bc BK240 0 rfl
  go_wp2_with (first|((with_reducible refine gate_dst (N:=29) rfl ?_);refine R_make (Kd.int .i64) _ 3 rfl (N:=29) rfl 24 _ _ rfl ji8 rfl rfl Try.underlying24 (.int .i64 0) 8 info3 rfl (by decide) (by omega) 0 (ok:=fun _=>True) (okp:=fun _=>True) rfl (fun _ hk=>hk) trivial (od) (Nat.le_trans (Nat.mul_le_mul_right _ (od:ji8.toNat≤35184372088832)) (by omega)) (Below.refl _ _) (Nat.le_refl _) ?_;intro v245 w12 ho13 hb hg_ hnew_;clear hg_ hnew_;(first|rw[←Ny244.out]at ho13|(simp only[Int.reduceToNat]at ho13;rw[←Ny244.out]at ho13));replace HO_5:=ak (Kd.S_elder' (sm HO_5.out) (R_base ho13) hb);have HO246:=ak (R_lower ho13 (below_size (h1 HB.out GE240.out)));replace BK240:=kb BK240 hb;replace HB:=ak (below_step (h1 HB.out GE240.out) hb);clear hb ho13))
  go_loopg [8] k1 (fun kq v8 w'=>∃ (x7_2:List Int) (x8_2:Int),v8= .int .i64 x8_2∧Aside0 (spec_l9Sum.l1 kq l1 x5_1 x6_1 x7_2 x8_2 a0_0 a0_1=some r)∧Aside0 (kq≤k1)∧Aside0 (Kd.S (Kd.slice 3 (Kd.int .i64)) 24 w' w.heap.size (fun k_=>ob k_ v245) u5 x5_1)∧Aside0 (Kd.R (Kd.int .i64) 3 w' w.heap.size (fun _=>True) v245 x7_2)∧Aside0 (w'.heap[gb240]? =some (.cells #[.int .i64 a0_0,.bool a0_1] 27 (0,0)))∧Aside0 (Below w.heap.size w w'))
  case atStart=>exact⟨(y244),(0),fd,H',⟨Nat.le_refl _⟩,⟨sm (Kd.S_mono HO_5.out (fun _ hk=>hk.2))⟩,⟨rm HO246.out⟩,⟨bm BK240.out⟩,⟨h1 HB.out GE240.out⟩⟩
  clear H'
  obtain⟨x7_2,x8_2,rfl,HA,HK2,HO_5,HO_7,BK240,HB⟩:=hrel
  obtain _|k2:=gk;·cases HA.out
  obtain⟨H⟩:=HA
  simp only[spec_l9Sum.l1]at H
  by_cases c14:x8_2≤a0_0
  rotate_left
  ·rw[if_neg c14]at H
   have c14b0:decide (x8_2≤a0_0)=false:=decide_eq_false c14
   clear c14
   obtain⟨c21,H⟩:=gi H
   have LMc21:=Aside0.mk c21
   clear c21
   generalize hy248: (x5_1++[x7_2]:List (List Int))=y248 at H
   have Ny248:=ak hy248.symm
   clear hy248
   have H':=Aside0.mk H
   clear H
   have hcz22_0:=bc BK240 0 rfl
   obtain⟨Ao24,co24,eo24⟩:=R_slice HO_7.out
   subst eo24
   go_wp2_with (first|((with_reducible refine gate_builtin (b:=.append) (xs:=#[.tmp 39,.tmp 41]) rfl ?_);at_builtin;refine Kd.S_append (Kd.slice 3 (Kd.int .i64)) (w0:=w) w.heap.size rfl (.tmp 39) (.tmp 41) 97 24 (.slice none 0 0) 24 rfl Try.underlying97 info24 rfl (by decide) (by omega) u5 x5_1 x7_2 [.slice Ao24 x7_2.length co24] (fun _=>True) (fun k_=>some k_=(.slice Ao24 x7_2.length co24:Value).ownBlock) rfl rfl ?aP (fun k_ hk_=>((R_mono (ok':=fun k_=>((fun _=>True)) k_∧ob k_ u5) (R_apart' (HO_7.out) (Kd.S_typed HO_5.out) (by decide)) (fun k_ hk=>⟨trivial,hk.2⟩))).1 k_ hk_.symm) ?aF ?aO ?aB ?aS ?aL ?_;(case aP=>exact Kd.M_row (R_mono (R_tight rfl (R_mono (ok':=fun k_=>((fun _=>True)) k_∧ob k_ u5) (R_apart' (HO_7.out) (Kd.S_typed HO_5.out) (by decide)) (fun k_ hk=>⟨trivial,hk.2⟩))) (fun _ h_=>h_)));(case aB=>exact(h1 HB.out GE240.out));(case aF=>exact(fun _ _=>trivial));(case aO=>exact(sm (Kd.S_mono HO_5.out (fun k_ hk=>⟨trivial,fun e_=>hk e_⟩))));(case aS=>exact(below_size (h1 HB.out GE240.out)));(case aL=>have:=LMc21.out;omega);intro v249 w23 ho hb hg hat;rw[←Ny248.out]at ho;replace BK240:=ak (blk_grown (g:=gb240) (o:=.cells #[.int .i64 a0_0,.bool a0_1] 27 (0,0)) (bm BK240.out) hg (Kd.S_ne HO_5.out BK240.out (by decide)));replace HB:=ak hb;have HO250:=ak ho;clear HO_5 HO_7;clear ho hb hg hat))
   go_roundg k2
   case measure=>have:=HK1.out;have:=HK2.out;omega
   case rel=>exact⟨(y248),(wrap64 (x6_1+1)),fd,H',⟨by have:=HK1.out;have:=HK2.out;omega⟩,⟨sm HO250.out⟩,⟨bm BK240.out⟩,⟨h1 HB.out GE240.out⟩⟩
  rw[if_pos c14]at H
  have c14b0:decide (x8_2≤a0_0)=true:=decide_eq_true c14
  clear c14
  obtain⟨c15,H⟩:=gi H
  have c15b0:decide (0≤x8_2)=true:=decide_eq_true c15
  clear c15
  obtain⟨c16,H⟩:=gi H
  have c16b0:decide (x8_2<(x7_2.length:Int))=true:=decide_eq_true c16
  clear c16
  generalize hy247: (x7_2.set (x8_2:Int).toNat (-1):List Int)=y247 at H
  have Ny247:=ak hy247.symm
  clear hy247
  have H':=Aside0.mk H
  clear H
  have hcz18_0:=bc BK240 0 rfl
  have p17:0≤(x8_2:Int):=od
  have q17: (x8_2:Int)<((x7_2.length:Int):Int):=od
  obtain⟨go17,co17,eo17,gb17,gl17,cl17,HG17⟩:=R_form HO_7.out (by omega)
  (first|cases eo17|(injection eo17 with ea_ en_ ec_;(first|subst ea_|(injection ea_ with ea_;subst ea_));subst ec_;clear en_))
  have GB17:=Aside0.mk gb17
  clear gb17 gl17 HG17
  obtain⟨hx17_0,hf17_0⟩:=R_celln 0 HO_7.out (x8_2:Int) p17 q17
  replace p17:=eq_true p17
  replace q17:=eq_true q17
  have HP19:=R_putg HO_7.out (x8_2:Int) (-1)
  go_wp2_with (first|((with_reducible refine gate_store (t:=3) (p:=38) rfl ?_);refine store_event (t:=3) (p:=38) (v:=?vo_w20) (w1:=(wr.setCell ⟨go17,(x8_2:Int).toNat,none⟩ (.int .i64 (-1)))) ?hg ?ho ?hn ?hr ?_;(case ho=>rfl);(case hg=>rfl);(case hn=>rfl);(case hr=>first|(go_simp;done)|(go_simp;rfl));intro w20 hw;have hg:wr.grownBy w20 (some go17):=(by rw[hw];exact HP19.2);have hp_:Kd.R (Kd.int .i64) 3 w20 w.heap.size (fun _=>True) (.slice (some ⟨go17,0,none⟩) x7_2.length co17) y247:=(by rw[hw,Ny247.out];exact HP19.1);clear HP19;replace HO_5:=ak (Kd.S_after (v:=(.slice (some ⟨go17,0,none⟩) x7_2.length co17)) (v1:=(.slice (some ⟨go17,0,none⟩) x7_2.length co17)) (ok:=(fun _=>True)) (sm (Kd.S_mono HO_5.out (fun _ hk=>⟨trivial,hk⟩))) hg (.inl rfl));replace BK240:=ak (blk_grown (g:=gb240) (o:=.cells #[.int .i64 a0_0,.bool a0_1] 27 (0,0)) (bm BK240.out) hg (R_ne HO_7.out BK240.out (by decide)));replace HO_7:=ak hp_;replace HB:=ak ((by rw[hw];exact below_set (HB.out) GB17.out:Below w.heap.size w w20));clear hg hw hp_))
  go_roundg k2
  case measure=>have:=HK1.out;have:=HK2.out;omega
  case rel=>exact⟨(y247),(wrap64 (x8_2+1)),fd,H',⟨by have:=HK1.out;have:=HK2.out;omega⟩,⟨sm (Kd.S_mono HO_5.out (fun _ hk=>hk.2))⟩,⟨rm HO_7.out⟩,⟨bm BK240.out⟩,⟨h1 HB.out GE240.out⟩⟩
 rw[if_neg c7]at H
 have c7b0:decide (x6_1<(ji6))=false:=decide_eq_false c7
 clear c7
 obtain⟨c25,H⟩:=gi H
 have c25b0:decide (0<(x5_1.length:Int))=true:=decide_eq_true c25
 clear c25
 obtain⟨c26,H⟩:=gi H
 have c26b0:decide (0<((rd_L2 x5_1 0).length:Int))=true:=decide_eq_true c26
 clear c26
 generalize hy252: (rd_L2 x5_1 0).set (0:Int).toNat 0=y252 at H
 have Ny252:=ak hy252.symm
 clear hy252
 generalize hy254: (x5_1.set (0:Int).toNat y252:List (List Int))=y254 at H
 have Ny254:=ak hy254.symm
 clear hy254
 have H':=Aside0.mk H
 clear H
 obtain⟨Ao28,co28,eo28⟩:=Kd.S_slice HO_5.out
 subst eo28
 have p251:0≤(0:Int):=(by omega)
 have q251:0<(x5_1.length:Int):=od
 obtain⟨ad251,A251_0,c251_0,e251,hx251_0,hl251_0,hi251_0⟩:=at_L2 (Kd.S_reads' HO_5.out).2.2 0 p251 q251
 cases e251
 obtain⟨ce251,hce251,hMe251,hcc251⟩:=Kd.S_get HO_5.out [] 0 p251 (by first|exact q251|exact od|(have e_:=(Kd.S_reads' HO_5.out).1;omega))
 obtain⟨ve251_0,rfl,ge251_0⟩:=hMe251
 have hv251_0:=hcc251 0 _ rfl
 rw[Nat.add_zero,show((Kd.slice 3 (Kd.int .i64))).sz=1 from rfl,Nat.mul_one]at hv251_0
 replace hv251_0:=Option.some.inj (hv251_0.symm.trans hx251_0)
 rw[hv251_0]at ge251_0
 have HL251_0:=Aside0.mk (show Kd.R (Kd.int .i64) 3 _ _ _ _ (rd_L2 x5_1 0)from ge251_0)
 clear hv251_0 ge251_0
 have HX251_0:=Aside0.mk hx251_0
 clear hcc251 hce251
 have qi251: (0<x5_1.length)=True:=eq_true (by omega)
 (try rw[show((0:Int)).toNat=0 from rfl]at hx251_0)
 (try rw[Addr.add_zero']at hx251_0)
 have HR251_0:=Aside0.mk hi251_0
 clear hi251_0 hl251_0
 replace p251:=eq_true p251
 replace q251:=eq_true q251
 have p27:0≤(0:Int):=(by omega)
 have q27: (0:Int)<(((rd_L2 x5_1 0).length:Int):Int):=od
 have qi27: (0<(rd_L2 x5_1 0).length)=True:=eq_true (by omega)
 obtain⟨go27,co27,eo27,gb27,gl27,cl27,HG27⟩:=R_form HL251_0.out (by omega)
 (first|cases eo27|(injection eo27 with ea_ en_ ec_;(first|subst ea_|(injection ea_ with ea_;subst ea_));subst ec_;clear en_))
 have GB27:=Aside0.mk gb27
 clear gb27 gl27 HG27
 obtain⟨hx27_0,hf27_0⟩:=R_celln 0 HL251_0.out (0:Int) p27 q27
 (try rw[show((0:Int)).toNat=0 from rfl]at hx27_0)
 (try simp only[Nat.reduceMul,Nat.zero_mul,Nat.zero_add,Nat.reduceAdd]at hx27_0)
 (try rw[show((0:Int)).toNat=0 from rfl]at hf27_0)
 (try simp only[Nat.reduceMul,Nat.zero_mul,Nat.zero_add,Nat.reduceAdd]at hf27_0)
 replace p27:=eq_true p27
 replace q27:=eq_true q27
 have hq29: (0:Int)<(x5_1.length:Int):=(by have h_: (0:Int)<((x5_1.length:Int):Int):=od;first|exact h_|(have e_:=(Kd.S_reads' HO_5.out).1;omega)|simpa only[List.length_set,List.length_set]using h_)
 obtain⟨oki29,ce29,hcl29,hM29,hcc29,hok29,hbk29⟩:=Kd.S_borrow HO_5.out [] (0:Int) (by omega) hq29
 obtain⟨ve29_0,rfl,ge29_0⟩:=hM29
 have hv29:=hcc29 0 _ rfl
 rw[Nat.add_zero,show((Kd.slice 3 (Kd.int .i64))).sz=1 from rfl,Nat.mul_one]at hv29
 replace hv29:=Option.some.inj (hv29.symm.trans HX251_0.out)
 subst hv29
 clear hcc29 hcl29
 replace ge29_0:=(show Kd.R (Kd.int .i64) 3 _ _ _ _ (rd_L2 x5_1 0)from ge29_0)
 have HP29:=R_putg ge29_0 (0:Int) 0
 go_wp2_with (first|((with_reducible refine gate_store (t:=3) (p:=46) rfl ?_);refine store_event (t:=3) (p:=46) (v:=?vo_w30) (w1:=(wr.setCell ⟨go27,0,none⟩ (.int .i64 0))) ?hg ?ho ?hn ?hr ?_;(case ho=>rfl);(case hg=>rfl);(case hn=>rfl);(case hr=>first|(go_simp;done)|(go_simp;rfl));intro w30 hw;have hg:wr.grownBy w30 (some go27):=(by rw[hw];exact HP29.2);have hz_:Kd.R (Kd.int .i64) 3 w30 w.heap.size oki29 (.slice (some ⟨go27,0,none⟩) (rd_L2 x5_1 0).length c251_0) y252:=(by rw[hw,Ny252.out];exact HP29.1);have hp_:Kd.S (Kd.slice 3 (Kd.int .i64)) 24 w30 w.heap.size (fun _=>True) (.slice (some ad251) x5_1.length co28) y254:=(by rw[Ny254.out];exact hbk29 hg (fun k_ e_=>by injection e_ with e_;subst e_;exact ge29_0.1 _ rfl) (Kd.M_row hz_));have hm_:=R_mono hz_ hok29;clear HP29 hbk29;replace HO_5:=ak hp_;replace BK240:=ak (blk_grown (g:=gb240) (o:=.cells #[.int .i64 a0_0,.bool a0_1] 27 (0,0)) (bm BK240.out) hg (R_ne HL251_0.out BK240.out (by decide)));replace HB:=ak ((by rw[hw];exact below_set (HB.out) GB27.out:Below w.heap.size w w30));clear HL251_0;clear hg hw hp_ hz_ hm_ hok29))
 go_loopg [9,10] k1 (fun kq v9 v10 w'=>∃ (x5_2:List (List Int)) (x9_2:Int) (x10_2:Int),v9= .int .i64 x9_2∧v10= .int .i64 x10_2∧Aside0 (spec_l9Sum.l2 kq l1 x5_2 x9_2 x10_2 a0_0 a0_1=some r)∧Aside0 (kq≤k1)∧Aside0 (Kd.S (Kd.slice 3 (Kd.int .i64)) 24 w' w.heap.size (fun _=>True) (.slice (some ad251) x5_1.length co28) x5_2)∧Aside0 (w'.heap[gb240]? =some (.cells #[.int .i64 a0_0,.bool a0_1] 27 (0,0)))∧Aside0 (Below w.heap.size w w'))
 case atStart=>exact⟨(y254),((-1)),(0),fd,fd,H',⟨Nat.le_refl _⟩,⟨sm HO_5.out⟩,⟨bm BK240.out⟩,⟨h1 HB.out GE240.out⟩⟩
 clear H'
 obtain⟨x5_2,x9_2,x10_2,rfl,rfl,HA,HK2,HO_5,BK240,HB⟩:=hrel
 have hl5_2:=(Kd.S_reads' HO_5.out).1
 rw[hl5_2]at HO_5
 (try simp only[hl5_2])
 (try simp only[hl5_2]at BK240)
 obtain _|k2:=gk;·cases HA.out
 obtain⟨H⟩:=HA
 simp only[spec_l9Sum.l2]at H
 by_cases c31:x10_2<(x5_2.length:Int)
 rotate_left
 ·rw[if_neg c31]at H
  have c31b0:decide (x10_2<(x5_2.length:Int))=false:=decide_eq_false c31
  (try simp only[hl5_2]at c31b0)
  clear c31
  obtain rfl:=Option.some.inj H
  go_wp2
  go_ret
  exact⟨by first|rfl|(simp[errW_none,errW_some]<;>rfl)|(simp only[←hji6];first|rfl|(simp[errW_none,errW_some]<;>rfl))|(simp[*,errW_none,errW_some]<;>rfl),h1 HB.out GE240.out⟩
 rw[if_pos c31]at H
 have c31b0:decide (x10_2<(x5_2.length:Int))=true:=decide_eq_true c31
 (try simp only[hl5_2]at c31b0)
 clear c31
 have H':=Aside0.mk H
 clear H
 go_wp2
 go_loopg [9,11] k2 (fun kq v9 v11 w'=>∃ (x5_3:List (List Int)) (x9_3:Int) (x11_3:Int),v9= .int .i64 x9_3∧v11= .int .i64 x11_3∧Aside0 (spec_l9Sum.l3 kq l1 x5_3 x9_3 x10_2 x11_3 a0_0 a0_1=some r)∧Aside0 (kq≤k2)∧Aside0 (Kd.S (Kd.slice 3 (Kd.int .i64)) 24 w' w.heap.size (fun _=>True) (.slice (some ad251) x5_2.length co28) x5_3)∧Aside0 (w'.heap[gb240]? =some (.cells #[.int .i64 a0_0,.bool a0_1] 27 (0,0)))∧Aside0 (Below w.heap.size w w'))
 case atStart=>exact⟨(x5_2),(x9_2),(0),fd,fd,H',⟨Nat.le_refl _⟩,⟨by(try simp only[hl5_2]);(with_reducible repeat(first|apply Kd.S_alloc|apply Kd.S_drewN|apply Kd.S_drew));exact HO_5.out⟩,⟨by(try simp only[hl5_2]);exact bm BK240.out⟩,⟨h1 HB.out GE240.out⟩⟩
 clear H'
 obtain⟨x5_3,x9_3,x11_3,rfl,rfl,HA,HK3,HO_5,BK240,HB⟩:=hrel
 have hl5_3:=(Kd.S_reads' HO_5.out).1
 rw[hl5_3]at HO_5
 (try simp only[hl5_3])
 (try simp only[hl5_3]at BK240)
 obtain _|k3:=gk;·cases HA.out
 obtain⟨H⟩:=HA
 simp only[spec_l9Sum.l3]at H
 by_cases c32:x11_3≤a0_0
 rotate_left
 ·rw[if_neg c32]at H
  have c32b0:decide (x11_3≤a0_0)=false:=decide_eq_false c32
  clear c32
  have H':=Aside0.mk H
  clear H
  have hcz95_0:=bc BK240 0 rfl
  go_wp2
  (try simp only[←hl5_2,←hl5_3])
  go_roundg k3
  case measure=>have:=HK1.out;have:=HK2.out;have:=HK3.out;omega
  case rel=>exact⟨(x5_3),(x9_3),(wrap64 (x10_2+1)),fd,fd,H',⟨by have:=HK1.out;have:=HK2.out;have:=HK3.out;omega⟩,⟨by(try simp only[hl5_2]);(try simp only[hl5_3]);(with_reducible repeat(first|apply Kd.S_alloc|apply Kd.S_drewN|apply Kd.S_drew));exact HO_5.out⟩,⟨by(try simp only[hl5_2]);(try simp only[hl5_3]);exact bm BK240.out⟩,⟨h1 HB.out GE240.out⟩⟩
 rw[if_pos c32]at H
 have c32b0:decide (x11_3≤a0_0)=true:=decide_eq_true c32
 clear c32
 obtain⟨c33,H⟩:=gi H
 have c33b0:decide (0≤x10_2)=true:=decide_eq_true c33
 clear c33
 obtain⟨c34,H⟩:=gi H
 have c34b0:decide (x10_2<(x5_3.length:Int))=true:=decide_eq_true c34
 (try simp only[hl5_2,hl5_3]at c34b0)
 clear c34
 obtain⟨c35,H⟩:=gi H
 have c35b0:decide (0≤x11_3)=true:=decide_eq_true c35
 clear c35
 obtain⟨c36,H⟩:=gi H
 have c36b0:decide (x11_3<((rd_L2 x5_3 x10_2).length:Int))=true:=decide_eq_true c36
 (try simp only[hl5_2,hl5_3]at c36b0)
 clear c36
 by_cases c37: (rd (rd_L2 x5_3 x10_2) x11_3)<0
 ·rw[if_pos c37]at H
  have c37b0:decide ((rd (rd_L2 x5_3 x10_2) x11_3)<0)=true:=decide_eq_true c37
  clear c37
  have H':=Aside0.mk H
  clear H
  have hcz38_0:=bc BK240 0 rfl
  have p255:0≤(x10_2:Int):=od
  have q255:x10_2<(x5_3.length:Int):=od
  obtain⟨ad255,A255_0,c255_0,e255,hx255_0,hl255_0,hi255_0⟩:=at_L2 (Kd.S_reads' HO_5.out).2.2 x10_2 p255 q255
  obtain rfl:ad251=ad255:=(by injection e255)
  obtain⟨ce255,hce255,hMe255,hcc255⟩:=Kd.S_get HO_5.out [] x10_2 p255 (by first|exact q255|exact od|(have e_:=(Kd.S_reads' HO_5.out).1;omega))
  obtain⟨ve255_0,rfl,ge255_0⟩:=hMe255
  have hv255_0:=hcc255 0 _ rfl
  rw[Nat.add_zero,show((Kd.slice 3 (Kd.int .i64))).sz=1 from rfl,Nat.mul_one]at hv255_0
  replace hv255_0:=Option.some.inj (hv255_0.symm.trans hx255_0)
  rw[hv255_0]at ge255_0
  have HL255_0:=Aside0.mk (show Kd.R (Kd.int .i64) 3 _ _ _ _ (rd_L2 x5_3 x10_2)from ge255_0)
  clear hv255_0 ge255_0
  have HX255_0:=Aside0.mk hx255_0
  clear hcc255 hce255
  have HR255_0:=Aside0.mk hi255_0
  clear hi255_0 hl255_0
  replace p255:=eq_true p255
  replace q255:=eq_true q255
  have p256:0≤(x11_3:Int):=od
  have q256:x11_3<((rd_L2 x5_3 x10_2).length:Int):=od
  obtain⟨ad256,e256,hx256_0⟩:=Kd.at_int (by repeat(first|(with_reducible exact HR255_0.out)|(with_reducible refine C_alloc ?_ _)|(with_reducible refine C_drewN ?_ _)|(with_reducible refine C_drew ?_)|exact HR255_0.out)) x11_3 p256 q256
  cases e256
  replace p256:=eq_true p256
  replace q256:=eq_true q256
  go_wp2
  (try simp only[←hl5_3])
  go_roundg k3
  case measure=>have:=HK1.out;have:=HK2.out;have:=HK3.out;omega
  case rel=>exact⟨(x5_3),(x9_3),(wrap64 (x11_3+1)),fd,fd,H',⟨by have:=HK1.out;have:=HK2.out;have:=HK3.out;omega⟩,⟨by(try simp only[hl5_2]);(try simp only[hl5_3]);(with_reducible repeat(first|apply Kd.S_alloc|apply Kd.S_drewN|apply Kd.S_drew));exact HO_5.out⟩,⟨by(try simp only[hl5_2]);(try simp only[hl5_3]);exact bm BK240.out⟩,⟨h1 HB.out GE240.out⟩⟩
 rw[if_neg c37]at H
 have c37b0:decide ((rd (rd_L2 x5_3 x10_2) x11_3)<0)=false:=decide_eq_false c37
 clear c37
 have HC39:=Aside0.mk H
 clear H
 have hcz40_0:=bc BK240 0 rfl
 have p255:0≤(x10_2:Int):=od
 have q255:x10_2<(x5_3.length:Int):=od
 obtain⟨ad255,A255_0,c255_0,e255,hx255_0,hl255_0,hi255_0⟩:=at_L2 (Kd.S_reads' HO_5.out).2.2 x10_2 p255 q255
 obtain rfl:ad251=ad255:=(by injection e255)
 obtain⟨ce255,hce255,hMe255,hcc255⟩:=Kd.S_get HO_5.out [] x10_2 p255 (by first|exact q255|exact od|(have e_:=(Kd.S_reads' HO_5.out).1;omega))
 obtain⟨ve255_0,rfl,ge255_0⟩:=hMe255
 have hv255_0:=hcc255 0 _ rfl
 rw[Nat.add_zero,show((Kd.slice 3 (Kd.int .i64))).sz=1 from rfl,Nat.mul_one]at hv255_0
 replace hv255_0:=Option.some.inj (hv255_0.symm.trans hx255_0)
 rw[hv255_0]at ge255_0
 have HL255_0:=Aside0.mk (show Kd.R (Kd.int .i64) 3 _ _ _ _ (rd_L2 x5_3 x10_2)from ge255_0)
 clear hv255_0 ge255_0
 have HX255_0:=Aside0.mk hx255_0
 clear hcc255 hce255
 have HR255_0:=Aside0.mk hi255_0
 clear hi255_0 hl255_0
 replace p255:=eq_true p255
 replace q255:=eq_true q255
 have p256:0≤(x11_3:Int):=od
 have q256:x11_3<((rd_L2 x5_3 x10_2).length:Int):=od
 obtain⟨ad256,e256,hx256_0⟩:=Kd.at_int (by repeat(first|(with_reducible exact HR255_0.out)|(with_reducible refine C_alloc ?_ _)|(with_reducible refine C_drewN ?_ _)|(with_reducible refine C_drew ?_)|exact HR255_0.out)) x11_3 p256 q256
 cases e256
 replace p256:=eq_true p256
 replace q256:=eq_true q256
 go_upto_region 21 with(fail)
 go_cut [80] (fun v80 wc=>∃ (kq:Nat) (x80_38:Bool),v80= .bool x80_38∧Aside0 (spec_l9Sum.j4 kq l1 x5_3 x9_3 x10_2 x11_3 (rd (rd_L2 x5_3 x10_2) x11_3) x80_38 a0_0 a0_1=some r)∧Aside0 (kq≤k3)∧Aside0 (Kd.S (Kd.slice 3 (Kd.int .i64)) 24 wc w.heap.size (fun _=>True) (.slice (some ad251) x5_3.length co28) x5_3)∧Aside0 (wc.heap[gb240]? =some (.cells #[.int .i64 a0_0,.bool a0_1] 27 (0,0)))∧Aside0 (Kd.C (Kd.int .i64) wc (some ad256) (rd_L2 x5_3 x10_2).length (rd_L2 x5_3 x10_2))∧Aside0 (Below w.heap.size w wc))
 case first=>
  have H:=HC39.out
  clear HC39
  by_cases c41:x11_3=a0_0
  rotate_left
  ·rw[if_neg c41]at H
   have c41b0: (x11_3==a0_0)=false:=beq_eq_false_iff_ne.mpr c41
   (first|rw[c41b0]|(simp only[i64_w,i32_w];rw[c41b0])|skip)
   have H':=Aside0.mk H
   clear H
   go_wp2
   go_meet
   case rel=>exact⟨_,(false),fd,H',⟨by first|exact Nat.le_refl _|(have:=HK1.out;have:=HK2.out;have:=HK3.out;omega)⟩,⟨by(try simp only[hl5_2]);(try simp only[hl5_3]);(with_reducible repeat(first|apply Kd.S_alloc|apply Kd.S_drewN|apply Kd.S_drew));exact HO_5.out⟩,⟨by(try simp only[hl5_2]);(try simp only[hl5_3]);exact bm BK240.out⟩,⟨by repeat(first|(with_reducible exact HR255_0.out)|(with_reducible refine C_alloc ?_ _)|(with_reducible refine C_drewN ?_ _)|(with_reducible refine C_drew ?_)|exact HR255_0.out)⟩,⟨h1 HB.out GE240.out⟩⟩
  rw[if_pos c41]at H
  have c41b0: (x11_3==a0_0)=true:=beq_iff_eq.mpr c41
  have c41b1: (x11_3 !=a0_0)=false:=bne_eq_false_iff_eq.mpr c41
  clear c41
  (first|rw[c41b0]|(simp only[i64_w,i32_w];rw[c41b0])|skip)
  by_cases c42:x9_3<0
  ·rw[if_pos c42]at H
   have c42b0:decide (x9_3<0)=true:=decide_eq_true c42
   clear c42
   have H':=Aside0.mk H
   clear H
   go_wp2
   go_meet
   case rel=>exact⟨_,(true),fd,H',⟨by first|exact Nat.le_refl _|(have:=HK1.out;have:=HK2.out;have:=HK3.out;omega)⟩,⟨by(try simp only[hl5_2]);(try simp only[hl5_3]);(with_reducible repeat(first|apply Kd.S_alloc|apply Kd.S_drewN|apply Kd.S_drew));exact HO_5.out⟩,⟨by(try simp only[hl5_2]);(try simp only[hl5_3]);exact bm BK240.out⟩,⟨by repeat(first|(with_reducible exact HR255_0.out)|(with_reducible refine C_alloc ?_ _)|(with_reducible refine C_drewN ?_ _)|(with_reducible refine C_drew ?_)|exact HR255_0.out)⟩,⟨h1 HB.out GE240.out⟩⟩
  rw[if_neg c42]at H
  have c42b0:decide (x9_3<0)=false:=decide_eq_false c42
  clear c42
  have H':=Aside0.mk H
  clear H
  go_wp2
  go_meet
  case rel=>exact⟨_,(decide ((rd (rd_L2 x5_3 x10_2) x11_3)<x9_3)),fd,H',⟨by first|exact Nat.le_refl _|(have:=HK1.out;have:=HK2.out;have:=HK3.out;omega)⟩,⟨by(try simp only[hl5_2]);(try simp only[hl5_3]);(with_reducible repeat(first|apply Kd.S_alloc|apply Kd.S_drewN|apply Kd.S_drew));exact HO_5.out⟩,⟨by(try simp only[hl5_2]);(try simp only[hl5_3]);exact bm BK240.out⟩,⟨by repeat(first|(with_reducible exact HR255_0.out)|(with_reducible refine C_alloc ?_ _)|(with_reducible refine C_drewN ?_ _)|(with_reducible refine C_drew ?_)|exact HR255_0.out)⟩,⟨h1 HB.out GE240.out⟩⟩
 clear HC39
 obtain⟨kq,x80_38,rfl,HA,HJ38,HO_5,BK240,HR255_0,HB⟩:=hcut
 obtain _|kj38:=kq;·cases HA.out
 obtain⟨H⟩:=HA
 simp only[spec_l9Sum.j4]at H
 have HC46:=Aside0.mk H
 clear H
 go_upto_if 80 with(fail)
 go_cut [9] (fun v9 wc=>∃ (kq:Nat) (x9_45:Int),v9= .int .i64 x9_45∧Aside0 (spec_l9Sum.j5 kq l1 x5_3 x9_45 x10_2 x11_3 (rd (rd_L2 x5_3 x10_2) x11_3) a0_0 a0_1=some r)∧Aside0 (kq≤kj38)∧Aside0 (Kd.S (Kd.slice 3 (Kd.int .i64)) 24 wc w.heap.size (fun _=>True) (.slice (some ad251) x5_3.length co28) x5_3)∧Aside0 (wc.heap[gb240]? =some (.cells #[.int .i64 a0_0,.bool a0_1] 27 (0,0)))∧Aside0 (Kd.C (Kd.int .i64) wc (some ad256) (rd_L2 x5_3 x10_2).length (rd_L2 x5_3 x10_2))∧Aside0 (Below w.heap.size w wc))
 case first=>
  have H:=HC46.out
  clear HC46
  by_cases c47:x80_38=true
  ·subst c47
   rw[if_pos rfl]at H
   have H':=Aside0.mk H
   clear H
   go_wp2
   go_meet
   case rel=>exact⟨_,((rd (rd_L2 x5_3 x10_2) x11_3)),fd,H',⟨by first|exact Nat.le_refl _|(have:=HK1.out;have:=HK2.out;have:=HK3.out;have:=HJ38.out;omega)⟩,⟨by(try simp only[hl5_2]);(try simp only[hl5_3]);(with_reducible repeat(first|apply Kd.S_alloc|apply Kd.S_drewN|apply Kd.S_drew));exact HO_5.out⟩,⟨by(try simp only[hl5_2]);(try simp only[hl5_3]);exact bm BK240.out⟩,⟨by repeat(first|(with_reducible exact HR255_0.out)|(with_reducible refine C_alloc ?_ _)|(with_reducible refine C_drewN ?_ _)|(with_reducible refine C_drew ?_)|exact HR255_0.out)⟩,⟨h1 HB.out GE240.out⟩⟩
  replace c47:=Bool.eq_false_iff.mpr c47
  subst c47
  rw[if_neg (show ¬(false=true)by decide)]at H
  have H':=Aside0.mk H
  clear H
  go_wp2
  go_meet
  case rel=>exact⟨_,(x9_3),fd,H',⟨by first|exact Nat.le_refl _|(have:=HK1.out;have:=HK2.out;have:=HK3.out;have:=HJ38.out;omega)⟩,⟨by(try simp only[hl5_2]);(try simp only[hl5_3]);(with_reducible repeat(first|apply Kd.S_alloc|apply Kd.S_drewN|apply Kd.S_drew));exact HO_5.out⟩,⟨by(try simp only[hl5_2]);(try simp only[hl5_3]);exact bm BK240.out⟩,⟨by repeat(first|(with_reducible exact HR255_0.out)|(with_reducible refine C_alloc ?_ _)|(with_reducible refine C_drewN ?_ _)|(with_reducible refine C_drew ?_)|exact HR255_0.out)⟩,⟨h1 HB.out GE240.out⟩⟩
 clear HC46
 obtain⟨kq,x9_45,rfl,HA,HJ45,HO_5,BK240,HR255_0,HB⟩:=hcut
 obtain _|kj45:=kq;·cases HA.out
 obtain⟨H⟩:=HA
 simp only[spec_l9Sum.j5]at H
 have H':=Aside0.mk H
 clear H
 go_wp2
 go_loopg [13] kj45 (fun kq v13 w'=>∃ (x5_6:List (List Int)) (x13_6:Int),v13= .int .i64 x13_6∧Aside0 (spec_l9Sum.l4 kq l1 x5_6 x9_45 x10_2 x11_3 (rd (rd_L2 x5_3 x10_2) x11_3) x13_6 a0_0 a0_1=some r)∧Aside0 (kq≤kj45)∧Aside0 (Kd.S (Kd.slice 3 (Kd.int .i64)) 24 w' w.heap.size (fun _=>True) (.slice (some ad251) x5_3.length co28) x5_6)∧Aside0 (w'.heap[gb240]? =some (.cells #[.int .i64 a0_0,.bool a0_1] 27 (0,0)))∧Aside0 (Below w.heap.size w w'))
 case atStart=>exact⟨(x5_3),(0),fd,H',⟨Nat.le_refl _⟩,⟨by(try simp only[hl5_2]);(try simp only[hl5_3]);(with_reducible repeat(first|apply Kd.S_alloc|apply Kd.S_drewN|apply Kd.S_drew));exact HO_5.out⟩,⟨by(try simp only[hl5_2]);(try simp only[hl5_3]);exact bm BK240.out⟩,⟨h1 HB.out GE240.out⟩⟩
 clear H'
 obtain⟨x5_6,x13_6,rfl,HA,HK6,HO_5,BK240,HB⟩:=hrel
 have hl5_6:=(Kd.S_reads' HO_5.out).1
 rw[hl5_6]at HO_5
 (try simp only[hl5_6])
 (try simp only[hl5_6]at BK240)
 obtain _|k6:=gk;·cases HA.out
 obtain⟨H⟩:=HA
 simp only[spec_l9Sum.l4]at H
 have HC48:=Aside0.mk H
 clear H
 go_upto_region 24 with(fail)
 go_cut [91] (fun v91 wc=>∃ (kq:Nat) (x91_47:Bool),v91= .bool x91_47∧Aside0 (spec_l9Sum.j7 kq l1 x5_6 x9_45 x10_2 x11_3 (rd (rd_L2 x5_3 x10_2) x11_3) x13_6 x91_47 a0_0 a0_1=some r)∧Aside0 (kq≤k6)∧Aside0 (Kd.S (Kd.slice 3 (Kd.int .i64)) 24 wc w.heap.size (fun _=>True) (.slice (some ad251) x5_6.length co28) x5_6)∧Aside0 (wc.heap[gb240]? =some (.cells #[.int .i64 a0_0,.bool a0_1] 27 (0,0)))∧Aside0 (Below w.heap.size w wc))
 case first=>
  have H:=HC48.out
  clear HC48
  by_cases c49:x13_6<(l1.length:Int)
  rotate_left
  ·rw[if_neg c49]at H
   have c49b0:decide (x13_6<(l1.length:Int))=false:=decide_eq_false c49
   (try simp only[hl5_2,hl5_3,hl5_6]at c49b0)
   clear c49
   (first|rw[c49b0]|(simp only[i64_w,i32_w];rw[c49b0])|skip)
   have H':=Aside0.mk H
   clear H
   go_wp2
   go_meet
   case rel=>exact⟨_,(false),fd,H',⟨by first|exact Nat.le_refl _|(have:=HK1.out;have:=HK2.out;have:=HK3.out;have:=HJ38.out;have:=HJ45.out;have:=HK6.out;omega)⟩,⟨by(try simp only[hl5_2]);(try simp only[hl5_3]);(try simp only[hl5_6]);(with_reducible repeat(first|apply Kd.S_alloc|apply Kd.S_drewN|apply Kd.S_drew));exact HO_5.out⟩,⟨by(try simp only[hl5_2]);(try simp only[hl5_3]);(try simp only[hl5_6]);exact bm BK240.out⟩,⟨h1 HB.out GE240.out⟩⟩
  rw[if_pos c49]at H
  have c49b0:decide (x13_6<(l1.length:Int))=true:=decide_eq_true c49
  (try simp only[hl5_2,hl5_3,hl5_6]at c49b0)
  clear c49
  (first|rw[c49b0]|(simp only[i64_w,i32_w];rw[c49b0])|skip)
  have H':=Aside0.mk H
  clear H
  have hcz50_0:=bc BK240 0 rfl
  go_wp2
  go_meet
  case rel=>exact⟨_,(decide (x11_3<a0_0)),fd,H',⟨by first|exact Nat.le_refl _|(have:=HK1.out;have:=HK2.out;have:=HK3.out;have:=HJ38.out;have:=HJ45.out;have:=HK6.out;omega)⟩,⟨by(try simp only[hl5_2]);(try simp only[hl5_3]);(try simp only[hl5_6]);(with_reducible repeat(first|apply Kd.S_alloc|apply Kd.S_drewN|apply Kd.S_drew));exact HO_5.out⟩,⟨by(try simp only[hl5_2]);(try simp only[hl5_3]);(try simp only[hl5_6]);exact bm BK240.out⟩,⟨h1 HB.out GE240.out⟩⟩
 clear HC48
 obtain⟨kq,x91_47,rfl,HA,HJ47,HO_5,BK240,HB⟩:=hcut
 obtain _|kj47:=kq;·cases HA.out
 obtain⟨H⟩:=HA
 simp only[spec_l9Sum.j7]at H
 by_cases c51:x91_47=true
 rotate_left
 ·replace c51:=Bool.eq_false_iff.mpr c51
  subst c51
  rw[if_neg (show ¬(false=true)by decide)]at H
  have H':=Aside0.mk H
  clear H
  go_wp2
  (try simp only[←hl5_3,←hl5_6])
  go_roundg kj47
  case measure=>have:=HK1.out;have:=HK2.out;have:=HK3.out;have:=HJ38.out;have:=HJ45.out;have:=HK6.out;have:=HJ47.out;omega
  case rel=>exact⟨(x5_6),(x9_45),(wrap64 (x11_3+1)),fd,fd,H',⟨by have:=HK1.out;have:=HK2.out;have:=HK3.out;have:=HJ38.out;have:=HJ45.out;have:=HK6.out;have:=HJ47.out;omega⟩,⟨by(try simp only[hl5_2]);(try simp only[hl5_3]);(try simp only[hl5_6]);(with_reducible repeat(first|apply Kd.S_alloc|apply Kd.S_drewN|apply Kd.S_drew));exact HO_5.out⟩,⟨by(try simp only[hl5_2]);(try simp only[hl5_3]);(try simp only[hl5_6]);exact bm BK240.out⟩,⟨h1 HB.out GE240.out⟩⟩
 subst c51
 rw[if_pos rfl]at H
 obtain⟨c52,H⟩:=gi H
 have c52b0:=eq_true c52
 have c52b1:decide (0≤x13_6)=true:=decide_eq_true c52
 clear c52
 generalize hji53: (shr .i64 x10_2 x13_6)=ji53 at H
 have hji53_: (x10_2/ 2^min x13_6.toNat 64)=ji53:=hji53
 have hji53z:x13_6≤64→(x10_2/ 2^x13_6.toNat)=ji53:=shr_small hji53
 by_cases c54: (Go.bits .and .i64 (ji53) 1)=1
 ·rw[if_pos c54]at H
  have c54b0: ((Go.bits .and .i64 (ji53) 1)==1)=true:=beq_iff_eq.mpr c54
  clear c54
  have H':=Aside0.mk H
  clear H
  go_wp2
  (try simp only[←hl5_6])
  go_roundg kj47
  case measure=>have:=HK1.out;have:=HK2.out;have:=HK3.out;have:=HJ38.out;have:=HJ45.out;have:=HK6.out;have:=HJ47.out;omega
  case rel=>exact⟨(x5_6),(wrap64 (x13_6+1)),fd,H',⟨by have:=HK1.out;have:=HK2.out;have:=HK3.out;have:=HJ38.out;have:=HJ45.out;have:=HK6.out;have:=HJ47.out;omega⟩,⟨by(try simp only[hl5_2]);(try simp only[hl5_3]);(try simp only[hl5_6]);(with_reducible repeat(first|apply Kd.S_alloc|apply Kd.S_drewN|apply Kd.S_drew));exact HO_5.out⟩,⟨by(try simp only[hl5_2]);(try simp only[hl5_3]);(try simp only[hl5_6]);exact bm BK240.out⟩,⟨h1 HB.out GE240.out⟩⟩
 rw[if_neg c54]at H
 have c54b0: ((Go.bits .and .i64 (ji53) 1)==1)=false:=beq_eq_false_iff_ne.mpr c54
 obtain⟨c55,H⟩:=gi H
 have c55b0:decide (x13_6<(l1.length:Int))=true:=decide_eq_true c55
 (try simp only[hl5_2,hl5_3,hl5_6]at c55b0)
 clear c55
 obtain⟨t258,A56,H⟩:=bd H;(try dsimp only at H)
 have H':=Aside0.mk H
 clear H
 have p257:0≤(x13_6:Int):=od
 have q257:x13_6<(l1.length:Int):=od
 obtain⟨ad257,e257,hx257_0,hx257_1⟩:=at_T58 HR1.out x13_6 p257 q257
 cases e257
 replace hx257_0:=hc HB hx257_0
 replace hx257_1:=hc HB hx257_1
 replace p257:=eq_true p257
 replace q257:=eq_true q257
 go_wp2_with (first|(refine gs 106 Try.func43 #[.int .i64 0,.int .i64 (wrap64 (x11_3-((rd_T58 l1 x13_6).f1)))] ?_;(with_reducible refine(spec_l1Most.calls 0 (wrap64 (x11_3-((rd_T58 l1 x13_6).f1))) t258 _ A56.out).mono ?_);rintro e w' ⟨rfl,⟨nd,rfl⟩⟩;refine⟨_,rfl,?_⟩))
 go_loopg [14] kj47 (fun kq v14 w'=>∃ (x5_8:List (List Int)) (x14_8:Int),v14= .int .i64 x14_8∧Aside0 (spec_l9Sum.l5 kq l1 x5_8 x9_45 x10_2 x11_3 (rd (rd_L2 x5_3 x10_2) x11_3) x13_6 x14_8 a0_0 a0_1=some r)∧Aside0 (kq≤kj47)∧Aside0 (Kd.S (Kd.slice 3 (Kd.int .i64)) 24 w' w.heap.size (fun _=>True) (.slice (some ad251) x5_6.length co28) x5_8)∧Aside0 (w'.heap[gb240]? =some (.cells #[.int .i64 a0_0,.bool a0_1] 27 (0,0)))∧Aside0 (Below w.heap.size w w'))
 case atStart=>exact⟨(x5_6),(t258),fd,H',⟨Nat.le_refl _⟩,⟨by(try simp only[hl5_2]);(try simp only[hl5_3]);(try simp only[hl5_6]);(with_reducible repeat(first|apply Kd.S_alloc|apply Kd.S_drewN|apply Kd.S_drew));exact HO_5.out⟩,⟨by(try simp only[hl5_2]);(try simp only[hl5_3]);(try simp only[hl5_6]);exact bm BK240.out⟩,⟨h1 HB.out GE240.out⟩⟩
 clear H'
 obtain⟨x5_8,x14_8,rfl,HA,HK8,HO_5,BK240,HB⟩:=hrel
 have hl5_8:=(Kd.S_reads' HO_5.out).1
 rw[hl5_8]at HO_5
 (try simp only[hl5_8])
 (try simp only[hl5_8]at BK240)
 obtain _|k8:=gk;·cases HA.out
 obtain⟨H⟩:=HA
 simp only[spec_l9Sum.l5]at H
 obtain⟨c57,H⟩:=gi H
 have c57b0:decide (0≤x13_6)=true:=decide_eq_true c57
 clear c57
 obtain⟨c58,H⟩:=gi H
 have c58b0:decide (x13_6<(l1.length:Int))=true:=decide_eq_true c58
 (try simp only[hl5_2,hl5_3,hl5_6,hl5_8]at c58b0)
 clear c58
 obtain⟨t260,A59,H⟩:=bd H;(try dsimp only at H)
 by_cases c60:x14_8≤t260
 rotate_left
 ·rw[if_neg c60]at H
  have c60b0:decide (x14_8≤t260)=false:=decide_eq_false c60
  clear c60
  have H':=Aside0.mk H
  clear H
  try go_wp2
  replace HO_5:=ak (Kd.S_drew HO_5.out)
  replace BK240:=ak (blk_drew BK240.out)
  replace HB:=ak (below_drew1 HB.out)
  have p259:0≤(x13_6:Int):=od
  have q259:x13_6<(l1.length:Int):=od
  obtain⟨ad259,e259,hx259_0,hx259_1⟩:=at_T58 HR1.out x13_6 p259 q259
  have hw259_1:=hx259_1
  have hw259_0:=hx259_0
  obtain rfl:ad257=ad259:=(by injection e259)
  replace hx259_0:=hc HB hx259_0
  replace hx259_1:=hc HB hx259_1
  replace p259:=eq_true p259
  replace q259:=eq_true q259
  refine start_ (n:=13) (S:=fun w'=>w'.cell? ⟨gb240,0,none⟩=some (.int .i64 a0_0)∧w'.cell? ⟨gb240,1,none⟩=some (.bool a0_1)∧w'.cell? (ad257.add ((x13_6).toNat*2))=some (.int .i64 ((rd_T58 l1 x13_6).f0))∧w'.cell? ⟨(ad257.add ((x13_6).toNat*2)).block,(ad257.add ((x13_6).toNat*2)).off+1,none⟩=some (.int .i64 ((rd_T58 l1 x13_6).f1))) (ds:=[]) (lb 13 0) (by kernel_rfl) rfl rfl ⟨bc BK240 0 rfl,bc BK240 1 rfl,((HB.out.cell (World.block_lt_of_cell? w _ hw259_0)).trans hw259_0),((HB.out.cell (World.block_lt_of_cell? w _ hw259_1)).trans hw259_1)⟩ (fun hHeld=>?_);refine with_tabW spec_l9Sum.tab28 spec_l9Sum.bits28 (fun HT_ HW_=>?_)
  generalize wr.drew=w94 at HO_5 BK240 HB hx259_0 hx259_1 hHeld⊢
  refine pq 0 (N:=some 107) (lb 13 1) HT_ ?_
  refine pq 1 (N:=some 108) (lb 13 3) HT_ ?_
  refine pq 4 (N:=some 111) (lb 13 19) HT_ ?_
  refine pq 5 (N:=some 112) (lb 13 51) HT_ ?_
  refine pq 6 (N:=some 113) (lb 13 115) HT_ ?_
  refine pq 7 (N:=some 114) (lb 13 243) HT_ ?_
  refine pq 8 (N:=some 115) (lb 13 499) HT_ ?_
  refine tq 2 (N:=some 109) (lb 13 503) HT_ HW_ hHeld ?_
  refine pq 3 (N:=some 110) (lb 13 511) HT_ ?_
  refine tq 9 (N:=some 116) (lb 13 1023) HT_ HW_ hHeld ?_
  refine pq 10 (N:=some 117) (lb 13 2047) HT_ ?_
  refine one_ (i:=11) (N:=some 118) (lb 13 4095) rfl rfl (one_of HT_.out (by kernel_rfl)) (by decide) (fun K hK=>?_)
  refine goes_ Try.func44 (by kernel_rfl) rfl #[.int .i64 (wrap64 (a0_0-1)),.int .i64 (wrap64 (x11_3+((rd_T58 l1 x13_6).f1)))] (by rfl) rfl rfl gl ?_
  with_reducible refine(spec_l1Least.calls (wrap64 (a0_0-1)) (wrap64 (x11_3+((rd_T58 l1 x13_6).f1))) t260 _ A59.out).mono ?_
  rintro e w' ⟨rfl,⟨nd,rfl⟩⟩
  refine⟨_,rfl,?_⟩
  refine hK.out _ _ ⟨bc BK240 0 rfl,bc BK240 1 rfl,((HB.out.cell (World.block_lt_of_cell? w _ hw259_0)).trans hw259_0),((HB.out.cell (World.block_lt_of_cell? w _ hw259_1)).trans hw259_1)⟩ (fun hHeld=>?_)
  clear hK K
  refine norm_ (a':=?_) ?_ ?_
  rotate_left
  ·show Act.put _ (some 118) _=_
   simp only[ap]
   rfl
  refine pq 12 (N:=some 119) (lb 13 8191) HT_ ?_
  refine done_ (done_of HT_.out (by kernel_rfl)) ?_
  try go_wp2
  (try simp only[←hl5_6,←hl5_8])
  go_roundg k8
  case measure=>have:=HK1.out;have:=HK2.out;have:=HK3.out;have:=HJ38.out;have:=HJ45.out;have:=HK6.out;have:=HJ47.out;have:=HK8.out;omega
  case rel=>exact⟨(x5_8),(wrap64 (x13_6+1)),fd,H',⟨by have:=HK1.out;have:=HK2.out;have:=HK3.out;have:=HJ38.out;have:=HJ45.out;have:=HK6.out;have:=HJ47.out;have:=HK8.out;omega⟩,⟨by(try simp only[hl5_2]);(try simp only[hl5_3]);(try simp only[hl5_6]);(try simp only[hl5_8]);(with_reducible repeat(first|apply Kd.S_alloc|apply Kd.S_drewN|apply Kd.S_drew));exact HO_5.out⟩,⟨by(try simp only[hl5_2]);(try simp only[hl5_3]);(try simp only[hl5_6]);(try simp only[hl5_8]);exact bm BK240.out⟩,⟨h1 HB.out GE240.out⟩⟩
 rw[if_pos c60]at H
 have c60b0:decide (x14_8≤t260)=true:=decide_eq_true c60
 clear c60
 obtain⟨t262,A61,H⟩:=bd H;(try dsimp only at H)
 obtain⟨t264,A62,H⟩:=bd H;(try dsimp only at H)
 generalize hji64: (shl .i64 1 x13_6)=ji64 at H
 (try rw[hji64]at A59)
 (try rw[hji64]at A61)
 (try rw[hji64]at A62)
 have hji64_: (IntKind.i64.wrap (1*2^min x13_6.toNat 64))=ji64:=hji64
 have hji64z:x13_6≤64→(IntKind.i64.wrap (1*2^x13_6.toNat))=ji64:=shl_small hji64
 have hji64u: (IntKind.i64.wrap (2^min x13_6.toNat 64))=ji64:=by have h_:=hji64_;rw[Int.one_mul]at h_;exact h_
 generalize hji65: (wrap64 (x10_2+(ji64)))=ji65 at H
 (try rw[hji65]at A59)
 (try rw[hji65]at A61)
 (try rw[hji65]at A62)
 have hji65w: (IntKind.i64.wrap (x10_2+(ji64)))=ji65:=(i64_w _).trans hji65
 obtain⟨c66,H⟩:=gi H
 have c66b0:decide (0≤(ji65))=true:=decide_eq_true c66
 clear c66
 obtain⟨c67,H⟩:=gi H
 have c67b0:decide ((ji65)<(x5_8.length:Int))=true:=decide_eq_true c67
 (try simp only[hl5_2,hl5_3,hl5_6,hl5_8]at c67b0)
 clear c67
 obtain⟨c68,H⟩:=gi H
 have c68b0:decide (0≤t262)=true:=decide_eq_true c68
 clear c68
 obtain⟨c69,H⟩:=gi H
 have c69b0:decide (t262<((rd_L2 x5_8 (ji65)).length:Int))=true:=decide_eq_true c69
 (try simp only[hl5_2,hl5_3,hl5_6,hl5_8]at c69b0)
 clear c69
 by_cases c70: (rd (rd_L2 x5_8 (ji65)) t262)<0
 ·rw[if_pos c70]at H
  have c70b0:decide ((rd (rd_L2 x5_8 (ji65)) t262)<0)=true:=decide_eq_true c70
  clear c70
  generalize hy268: (rd_L2 x5_8 (ji65)).set (t262:Int).toNat (wrap64 ((rd (rd_L2 x5_3 x10_2) x11_3)+t264))=y268 at H
  have Ny268:=ak hy268.symm
  clear hy268
  generalize hy270: (x5_8.set ((ji65):Int).toNat y268:List (List Int))=y270 at H
  have Ny270:=ak hy270.symm
  clear hy270
  have H':=Aside0.mk H
  clear H
  try go_wp2
  replace HO_5:=ak (Kd.S_drew HO_5.out)
  replace BK240:=ak (blk_drew BK240.out)
  replace HB:=ak (below_drew1 HB.out)
  have p259:0≤(x13_6:Int):=od
  have q259:x13_6<(l1.length:Int):=od
  obtain⟨ad259,e259,hx259_0,hx259_1⟩:=at_T58 HR1.out x13_6 p259 q259
  have hw259_1:=hx259_1
  have hw259_0:=hx259_0
  obtain rfl:ad257=ad259:=(by injection e259)
  replace hx259_0:=hc HB hx259_0
  replace hx259_1:=hc HB hx259_1
  replace p259:=eq_true p259
  replace q259:=eq_true q259
  refine start_ (n:=13) (S:=fun w'=>w'.cell? ⟨gb240,0,none⟩=some (.int .i64 a0_0)∧w'.cell? ⟨gb240,1,none⟩=some (.bool a0_1)∧w'.cell? (ad257.add ((x13_6).toNat*2))=some (.int .i64 ((rd_T58 l1 x13_6).f0))∧w'.cell? ⟨(ad257.add ((x13_6).toNat*2)).block,(ad257.add ((x13_6).toNat*2)).off+1,none⟩=some (.int .i64 ((rd_T58 l1 x13_6).f1))) (ds:=[]) (lb 13 0) (by kernel_rfl) rfl rfl ⟨bc BK240 0 rfl,bc BK240 1 rfl,((HB.out.cell (World.block_lt_of_cell? w _ hw259_0)).trans hw259_0),((HB.out.cell (World.block_lt_of_cell? w _ hw259_1)).trans hw259_1)⟩ (fun hHeld=>?_);refine with_tabW spec_l9Sum.tab28 spec_l9Sum.bits28 (fun HT_ HW_=>?_)
  generalize wr.drew=w74 at HO_5 BK240 HB hx259_0 hx259_1 hHeld⊢
  refine pq 0 (N:=some 107) (lb 13 1) HT_ ?_
  refine pq 1 (N:=some 108) (lb 13 3) HT_ ?_
  refine pq 4 (N:=some 111) (lb 13 19) HT_ ?_
  refine pq 5 (N:=some 112) (lb 13 51) HT_ ?_
  refine pq 6 (N:=some 113) (lb 13 115) HT_ ?_
  refine pq 7 (N:=some 114) (lb 13 243) HT_ ?_
  refine pq 8 (N:=some 115) (lb 13 499) HT_ ?_
  refine tq 2 (N:=some 109) (lb 13 503) HT_ HW_ hHeld ?_
  refine pq 3 (N:=some 110) (lb 13 511) HT_ ?_
  refine tq 9 (N:=some 116) (lb 13 1023) HT_ HW_ hHeld ?_
  refine pq 10 (N:=some 117) (lb 13 2047) HT_ ?_
  refine one_ (i:=11) (N:=some 118) (lb 13 4095) rfl rfl (one_of HT_.out (by kernel_rfl)) (by decide) (fun K hK=>?_)
  refine goes_ Try.func44 (by kernel_rfl) rfl #[.int .i64 (wrap64 (a0_0-1)),.int .i64 (wrap64 (x11_3+((rd_T58 l1 x13_6).f1)))] (by rfl) rfl rfl gl ?_
  with_reducible refine(spec_l1Least.calls (wrap64 (a0_0-1)) (wrap64 (x11_3+((rd_T58 l1 x13_6).f1))) t260 _ A59.out).mono ?_
  rintro e w' ⟨rfl,⟨nd,rfl⟩⟩
  refine⟨_,rfl,?_⟩
  refine hK.out _ _ ⟨bc BK240 0 rfl,bc BK240 1 rfl,((HB.out.cell (World.block_lt_of_cell? w _ hw259_0)).trans hw259_0),((HB.out.cell (World.block_lt_of_cell? w _ hw259_1)).trans hw259_1)⟩ (fun hHeld=>?_)
  clear hK K
  refine norm_ (a':=?_) ?_ ?_
  rotate_left
  ·show Act.put _ (some 118) _=_
   simp only[ap]
   rfl
  refine pq 12 (N:=some 119) (lb 13 8191) HT_ ?_
  refine done_ (done_of HT_.out (by kernel_rfl)) ?_
  try go_wp2
  (try(rw[drewN_self w74];generalize hq_:World.drewN w74 _=w74;have n0_:Aside0 (Kd.S (Kd.slice 3 (Kd.int .i64)) 24 w74 w.heap.size (fun _=>True) (.slice (some ad251) x5_8.length co28) x5_8):=⟨by rw[←hq_];exact(sm HO_5.out)⟩;have n1_:Aside0 (w74.heap[gb240]? =some (.cells #[.int .i64 a0_0,.bool a0_1] 27 (0,0))):=⟨by rw[←hq_];exact(bm BK240.out)⟩;have n2_:Aside0 (Below w.heap.size w w74):=⟨by rw[←hq_];exact(h1 HB.out GE240.out)⟩;clear HO_5 BK240 HB hq_;have HO_5:=n0_;have BK240:=n1_;have HB:=n2_;clear n0_ n1_ n2_))
  replace HO_5:=ak (Kd.S_drew HO_5.out)
  replace BK240:=ak (blk_drew BK240.out)
  replace HB:=ak (below_drew1 HB.out)
  have p261:0≤(x13_6:Int):=od
  have q261:x13_6<(l1.length:Int):=od
  obtain⟨ad261,e261,hx261_0,hx261_1⟩:=at_T58 HR1.out x13_6 p261 q261
  have hw261_1:=hx261_1
  have hw261_0:=hx261_0
  obtain rfl:ad257=ad261:=(by injection e261)
  replace hx261_0:=hc HB hx261_0
  replace hx261_1:=hc HB hx261_1
  replace p261:=eq_true p261
  replace q261:=eq_true q261
  refine start_ (n:=12) (S:=fun w'=>w'.cell? ⟨gb240,0,none⟩=some (.int .i64 a0_0)∧w'.cell? ⟨gb240,1,none⟩=some (.bool a0_1)∧w'.cell? (ad257.add ((x13_6).toNat*2))=some (.int .i64 ((rd_T58 l1 x13_6).f0))∧w'.cell? ⟨(ad257.add ((x13_6).toNat*2)).block,(ad257.add ((x13_6).toNat*2)).off+1,none⟩=some (.int .i64 ((rd_T58 l1 x13_6).f1))) (ds:=[]) (lb 12 0) (by kernel_rfl) rfl rfl ⟨bc BK240 0 rfl,bc BK240 1 rfl,((HB.out.cell (World.block_lt_of_cell? w _ hw261_0)).trans hw261_0),((HB.out.cell (World.block_lt_of_cell? w _ hw261_1)).trans hw261_1)⟩ (fun hHeld=>?_);refine with_tabW spec_l9Sum.tab30 spec_l9Sum.bits30 (fun HT_ HW_=>?_)
  generalize w74.drew=w75 at HO_5 BK240 HB hx261_0 hx261_1 hHeld⊢
  refine pq 0 (N:=some 122) (lb 12 1) HT_ ?_
  refine pq 2 (N:=some 124) (lb 12 5) HT_ ?_
  refine pq 3 (N:=some 125) (lb 12 13) HT_ ?_
  refine pq 4 (N:=some 126) (lb 12 29) HT_ ?_
  refine pq 5 (N:=some 127) (lb 12 61) HT_ ?_
  refine pq 6 (N:=some 128) (lb 12 125) HT_ ?_
  refine tq 1 (N:=some 123) (lb 12 127) HT_ HW_ hHeld ?_
  refine tq 7 (N:=some 129) (lb 12 255) HT_ HW_ hHeld ?_
  refine pq 8 (N:=some 130) (lb 12 511) HT_ ?_
  refine pq 9 (N:=some 131) (lb 12 1023) HT_ ?_
  refine one_ (i:=10) (N:=some 132) (lb 12 2047) rfl rfl (one_of HT_.out (by kernel_rfl)) (by decide) (fun K hK=>?_)
  refine goes_ Try.func44 (by kernel_rfl) rfl #[.int .i64 a0_0,.int .i64 (wrap64 ((wrap64 (x14_8+((rd_T58 l1 x13_6).f1)))+1))] (by rfl) rfl rfl gl ?_
  with_reducible refine(spec_l1Least.calls a0_0 (wrap64 ((wrap64 (x14_8+((rd_T58 l1 x13_6).f1)))+1)) t262 _ A61.out).mono ?_
  rintro e w' ⟨rfl,⟨nd,rfl⟩⟩
  refine⟨_,rfl,?_⟩
  refine hK.out _ _ ⟨bc BK240 0 rfl,bc BK240 1 rfl,((HB.out.cell (World.block_lt_of_cell? w _ hw261_0)).trans hw261_0),((HB.out.cell (World.block_lt_of_cell? w _ hw261_1)).trans hw261_1)⟩ (fun hHeld=>?_)
  clear hK K
  refine norm_ (a':=?_) ?_ ?_
  rotate_left
  ·show Act.put _ (some 132) _=_
   simp only[ap]
   rfl
  refine pq 11 (N:=some 15) (lb 12 4095) HT_ ?_
  refine done_ (done_of HT_.out (by kernel_rfl)) ?_
  try go_wp2
  (try(rw[drewN_self w75];generalize hq_:World.drewN w75 _=w75;have n0_:Aside0 (Kd.S (Kd.slice 3 (Kd.int .i64)) 24 w75 w.heap.size (fun _=>True) (.slice (some ad251) x5_8.length co28) x5_8):=⟨by rw[←hq_];exact(sm HO_5.out)⟩;have n1_:Aside0 (w75.heap[gb240]? =some (.cells #[.int .i64 a0_0,.bool a0_1] 27 (0,0))):=⟨by rw[←hq_];exact(bm BK240.out)⟩;have n2_:Aside0 (Below w.heap.size w w75):=⟨by rw[←hq_];exact(h1 HB.out GE240.out)⟩;clear HO_5 BK240 HB hq_;have HO_5:=n0_;have BK240:=n1_;have HB:=n2_;clear n0_ n1_ n2_))
  replace HO_5:=ak (Kd.S_drew HO_5.out)
  replace BK240:=ak (blk_drew BK240.out)
  replace HB:=ak (below_drew1 HB.out)
  have p263:0≤(x13_6:Int):=od
  have q263:x13_6<(l1.length:Int):=od
  obtain⟨ad263,e263,hx263_0,hx263_1⟩:=at_T58 HR1.out x13_6 p263 q263
  have hw263_1:=hx263_1
  have hw263_0:=hx263_0
  obtain rfl:ad257=ad263:=(by injection e263)
  replace hx263_0:=hc HB hx263_0
  replace hx263_1:=hc HB hx263_1
  replace p263:=eq_true p263
  replace q263:=eq_true q263
  refine start_ (n:=11) (S:=fun w'=>w'.cell? ⟨gb240,0,none⟩=some (.int .i64 a0_0)∧w'.cell? ⟨gb240,1,none⟩=some (.bool a0_1)∧w'.cell? (ad257.add ((x13_6).toNat*2))=some (.int .i64 ((rd_T58 l1 x13_6).f0))∧w'.cell? ⟨(ad257.add ((x13_6).toNat*2)).block,(ad257.add ((x13_6).toNat*2)).off+1,none⟩=some (.int .i64 ((rd_T58 l1 x13_6).f1))) (ds:=[]) (lb 11 0) (by kernel_rfl) rfl rfl ⟨bc BK240 0 rfl,bc BK240 1 rfl,((HB.out.cell (World.block_lt_of_cell? w _ hw263_0)).trans hw263_0),((HB.out.cell (World.block_lt_of_cell? w _ hw263_1)).trans hw263_1)⟩ (fun hHeld=>?_);refine with_tabW spec_l9Sum.tab31 spec_l9Sum.bits31 (fun HT_ HW_=>?_)
  generalize w75.drew=w76 at HO_5 BK240 HB hx263_0 hx263_1 hHeld⊢
  refine pq 0 (N:=some 133) (lb 11 1) HT_ ?_
  refine pq 2 (N:=some 135) (lb 11 5) HT_ ?_
  refine pq 3 (N:=some 136) (lb 11 13) HT_ ?_
  refine pq 4 (N:=some 137) (lb 11 29) HT_ ?_
  refine pq 5 (N:=some 138) (lb 11 61) HT_ ?_
  refine pq 7 (N:=some 140) (lb 11 189) HT_ ?_
  refine tq 1 (N:=some 134) (lb 11 191) HT_ HW_ hHeld ?_
  refine tq 6 (N:=some 139) (lb 11 255) HT_ HW_ hHeld ?_
  refine one_ (i:=8) (N:=some 141) (lb 11 511) rfl rfl (one_of HT_.out (by kernel_rfl)) (by decide) (fun K hK=>?_)
  refine goes_ Try.func55 (by kernel_rfl) rfl #[.agg #[.int .i64 a0_0,.bool a0_1],.int .i64 ((rd_T58 l1 x13_6).f0),.int .i64 x14_8] (by rfl) rfl rfl gl ?_
  with_reducible refine(spec_l2Gap.calls a0_0 a0_1 ((rd_T58 l1 x13_6).f0) x14_8 t264 _ A62.out).mono ?_
  rintro e w77 ⟨rfl,hb⟩
  refine⟨_,rfl,?_⟩
  replace HO_5:=ak (Kd.S_below (sm HO_5.out) hb)
  replace BK240:=kb BK240 hb
  replace HB:=ak (below_step (h1 HB.out GE240.out) hb)
  (try clear hb)
  (try clear hb2)
  (try clear hk)
  (try clear hi)
  refine hK.out _ _ ⟨bc BK240 0 rfl,bc BK240 1 rfl,((HB.out.cell (World.block_lt_of_cell? w _ hw263_0)).trans hw263_0),((HB.out.cell (World.block_lt_of_cell? w _ hw263_1)).trans hw263_1)⟩ (fun hHeld=>?_)
  clear hK K
  refine norm_ (a':=?_) ?_ ?_
  rotate_left
  ·show Act.put _ (some 141) _=_
   simp only[ap]
   rfl
  refine pq 9 (N:=some 142) (lb 11 1023) HT_ ?_
  refine pq 10 (N:=some 16) (lb 11 2047) HT_ ?_
  refine done_ (done_of HT_.out (by kernel_rfl)) ?_
  have p265:0≤((ji65):Int):=od
  have q265: (ji65)<(x5_8.length:Int):=od
  obtain⟨ad265,A265_0,c265_0,e265,hx265_0,hl265_0,hi265_0⟩:=at_L2 (Kd.S_reads' HO_5.out).2.2 (ji65) p265 q265
  obtain rfl:ad251=ad265:=(by injection e265)
  obtain⟨ce265,hce265,hMe265,hcc265⟩:=Kd.S_get HO_5.out [] (ji65) p265 (by first|exact q265|exact od|(have e_:=(Kd.S_reads' HO_5.out).1;omega))
  obtain⟨ve265_0,rfl,ge265_0⟩:=hMe265
  have hv265_0:=hcc265 0 _ rfl
  rw[Nat.add_zero,show((Kd.slice 3 (Kd.int .i64))).sz=1 from rfl,Nat.mul_one]at hv265_0
  replace hv265_0:=Option.some.inj (hv265_0.symm.trans hx265_0)
  rw[hv265_0]at ge265_0
  have HL265_0:=Aside0.mk (show Kd.R (Kd.int .i64) 3 _ _ _ _ (rd_L2 x5_8 (ji65))from ge265_0)
  clear hv265_0 ge265_0
  have HX265_0:=Aside0.mk hx265_0
  clear hcc265 hce265
  have HR265_0:=Aside0.mk hi265_0
  clear hi265_0 hl265_0
  replace p265:=eq_true p265
  replace q265:=eq_true q265
  have p266:0≤(t262:Int):=od
  have q266:t262<((rd_L2 x5_8 (ji65)).length:Int):=od
  obtain⟨ad266,e266,hx266_0⟩:=Kd.at_int (by repeat(first|(with_reducible exact HR265_0.out)|(with_reducible refine C_alloc ?_ _)|(with_reducible refine C_drewN ?_ _)|(with_reducible refine C_drew ?_)|exact HR265_0.out)) t262 p266 q266
  cases e266
  replace p266:=eq_true p266
  replace q266:=eq_true q266
  have p267:0≤((ji65):Int):=od
  have q267: (ji65)<(x5_8.length:Int):=od
  obtain⟨ad267,A267_0,c267_0,e267,hx267_0,hl267_0,hi267_0⟩:=at_L2 (Kd.S_reads' HO_5.out).2.2 (ji65) p267 q267
  obtain rfl:ad251=ad267:=(by injection e267)
  obtain⟨ce267,hce267,hMe267,hcc267⟩:=Kd.S_get HO_5.out [] (ji65) p267 (by first|exact q267|exact od|(have e_:=(Kd.S_reads' HO_5.out).1;omega))
  obtain⟨ve267_0,rfl,ge267_0⟩:=hMe267
  have hv267_0:=hcc267 0 _ rfl
  rw[Nat.add_zero,show((Kd.slice 3 (Kd.int .i64))).sz=1 from rfl,Nat.mul_one]at hv267_0
  replace hv267_0:=Option.some.inj (hv267_0.symm.trans hx267_0)
  rw[hv267_0]at ge267_0
  have HL267_0:=Aside0.mk (show Kd.R (Kd.int .i64) 3 _ _ _ _ (rd_L2 x5_8 (ji65))from ge267_0)
  clear hv267_0 ge267_0
  have HX267_0:=Aside0.mk hx267_0
  clear hcc267 hce267
  have HR267_0:=Aside0.mk hi267_0
  have HC267_0:=Aside0.mk hl267_0
  clear hi267_0 hl267_0
  replace p267:=eq_true p267
  replace q267:=eq_true q267
  have ea_:=Option.some.inj (hx265_0.symm.trans hx267_0)
  injection ea_ with ea_ en_ ec_
  subst ea_
  subst ec_
  clear en_
  have p73:0≤(t262:Int):=od
  have q73: (t262:Int)<(((rd_L2 x5_8 (ji65)).length:Int):Int):=od
  obtain⟨go73,co73,eo73,gb73,gl73,cl73,HG73⟩:=R_form HL267_0.out (by omega)
  (first|cases eo73|(injection eo73 with ea_ en_ ec_;(first|subst ea_|(injection ea_ with ea_;subst ea_));subst ec_;clear en_))
  have GB73:=Aside0.mk gb73
  clear gb73 gl73 HG73
  (first|simp only[add_plain]at hx266_0|skip)
  obtain⟨hx73_0,hf73_0⟩:=R_celln 0 HL267_0.out (t262:Int) p73 q73
  replace p73:=eq_true p73
  replace q73:=eq_true q73
  have hq78: ((ji65):Int)<(x5_8.length:Int):=(by have h_: ((ji65):Int)<((x5_8.length:Int):Int):=od;first|exact h_|(have e_:=(Kd.S_reads' HO_5.out).1;omega)|simpa only[List.length_set,List.length_set]using h_)
  obtain⟨oki78,ce78,hcl78,hM78,hcc78,hok78,hbk78⟩:=Kd.S_borrow HO_5.out [] ((ji65):Int) (od) hq78
  obtain⟨ve78_0,rfl,ge78_0⟩:=hM78
  have hv78:=hcc78 0 _ rfl
  rw[Nat.add_zero,show((Kd.slice 3 (Kd.int .i64))).sz=1 from rfl,Nat.mul_one]at hv78
  replace hv78:=Option.some.inj (hv78.symm.trans HX267_0.out)
  subst hv78
  clear hcc78 hcl78
  replace ge78_0:=(show Kd.R (Kd.int .i64) 3 _ _ _ _ (rd_L2 x5_8 (ji65))from ge78_0)
  have HP78:=R_putg ge78_0 (t262:Int) (wrap64 ((rd (rd_L2 x5_3 x10_2) x11_3)+t264))
  try go_wp2_with (first|((with_reducible refine gate_store (t:=3) (p:=169) rfl ?_);refine store_event (t:=3) (p:=169) (v:=?vo_w79) (w1:=(w77.setCell ⟨go73,(t262:Int).toNat,none⟩ (.int .i64 (wrap64 ((rd (rd_L2 x5_3 x10_2) x11_3)+t264))))) ?hg ?ho ?hn ?hr ?_;(case ho=>rfl);(case hg=>rfl);(case hn=>rfl);(case hr=>first|(go_simp;done)|(go_simp;rfl));intro w79 hw;have hg:w77.grownBy w79 (some go73):=(by rw[hw];exact HP78.2);have hz_:Kd.R (Kd.int .i64) 3 w79 w.heap.size oki78 (.slice (some ⟨go73,0,none⟩) (rd_L2 x5_8 (ji65)).length c265_0) y268:=(by rw[hw,Ny268.out];exact HP78.1);have hp_:Kd.S (Kd.slice 3 (Kd.int .i64)) 24 w79 w.heap.size (fun _=>True) (.slice (some ad251) x5_8.length co28) y270:=(by rw[Ny270.out];exact hbk78 hg (fun k_ e_=>by injection e_ with e_;subst e_;exact ge78_0.1 _ rfl) (Kd.M_row hz_));have hm_:=R_mono hz_ hok78;clear HP78 hbk78;replace HO_5:=ak hp_;replace BK240:=ak (blk_grown (g:=gb240) (o:=.cells #[.int .i64 a0_0,.bool a0_1] 27 (0,0)) (bm BK240.out) hg (R_ne HL267_0.out BK240.out (by decide)));replace HB:=ak ((by rw[hw];exact below_set (HB.out) GB73.out:Below w.heap.size w w79));clear HL265_0 HL267_0;clear hg hw hp_ hz_ hm_ hok78))
  (try simp only[←hl5_8])
  go_roundg k8
  case measure=>have:=HK1.out;have:=HK2.out;have:=HK3.out;have:=HJ38.out;have:=HJ45.out;have:=HK6.out;have:=HJ47.out;have:=HK8.out;omega
  case rel=>exact⟨(y270),(wrap64 (x14_8+1)),fd,H',⟨by have:=HK1.out;have:=HK2.out;have:=HK3.out;have:=HJ38.out;have:=HJ45.out;have:=HK6.out;have:=HJ47.out;have:=HK8.out;omega⟩,⟨by(try simp only[hl5_2]);(try simp only[hl5_3]);(try simp only[hl5_6]);(try simp only[hl5_8]);(with_reducible repeat(first|apply Kd.S_alloc|apply Kd.S_drewN|apply Kd.S_drew));exact HO_5.out⟩,⟨by(try simp only[hl5_2]);(try simp only[hl5_3]);(try simp only[hl5_6]);(try simp only[hl5_8]);exact bm BK240.out⟩,⟨h1 HB.out GE240.out⟩⟩
 rw[if_neg c70]at H
 have c70b0:decide ((rd (rd_L2 x5_8 (ji65)) t262)<0)=false:=decide_eq_false c70
 clear c70
 by_cases c80: (wrap64 ((rd (rd_L2 x5_3 x10_2) x11_3)+t264))<(rd (rd_L2 x5_8 (ji65)) t262)
 rotate_left
 ·rw[if_neg c80]at H
  have c80b0:decide ((wrap64 ((rd (rd_L2 x5_3 x10_2) x11_3)+t264))<(rd (rd_L2 x5_8 (ji65)) t262))=false:=decide_eq_false c80
  clear c80
  have H':=Aside0.mk H
  clear H
  try go_wp2
  replace HO_5:=ak (Kd.S_drew HO_5.out)
  replace BK240:=ak (blk_drew BK240.out)
  replace HB:=ak (below_drew1 HB.out)
  have p259:0≤(x13_6:Int):=od
  have q259:x13_6<(l1.length:Int):=od
  obtain⟨ad259,e259,hx259_0,hx259_1⟩:=at_T58 HR1.out x13_6 p259 q259
  have hw259_1:=hx259_1
  have hw259_0:=hx259_0
  obtain rfl:ad257=ad259:=(by injection e259)
  replace hx259_0:=hc HB hx259_0
  replace hx259_1:=hc HB hx259_1
  replace p259:=eq_true p259
  replace q259:=eq_true q259
  refine start_ (n:=13) (S:=fun w'=>w'.cell? ⟨gb240,0,none⟩=some (.int .i64 a0_0)∧w'.cell? ⟨gb240,1,none⟩=some (.bool a0_1)∧w'.cell? (ad257.add ((x13_6).toNat*2))=some (.int .i64 ((rd_T58 l1 x13_6).f0))∧w'.cell? ⟨(ad257.add ((x13_6).toNat*2)).block,(ad257.add ((x13_6).toNat*2)).off+1,none⟩=some (.int .i64 ((rd_T58 l1 x13_6).f1))) (ds:=[]) (lb 13 0) (by kernel_rfl) rfl rfl ⟨bc BK240 0 rfl,bc BK240 1 rfl,((HB.out.cell (World.block_lt_of_cell? w _ hw259_0)).trans hw259_0),((HB.out.cell (World.block_lt_of_cell? w _ hw259_1)).trans hw259_1)⟩ (fun hHeld=>?_);refine with_tabW spec_l9Sum.tab28 spec_l9Sum.bits28 (fun HT_ HW_=>?_)
  generalize wr.drew=w90 at HO_5 BK240 HB hx259_0 hx259_1 hHeld⊢
  refine pq 0 (N:=some 107) (lb 13 1) HT_ ?_
  refine pq 1 (N:=some 108) (lb 13 3) HT_ ?_
  refine pq 4 (N:=some 111) (lb 13 19) HT_ ?_
  refine pq 5 (N:=some 112) (lb 13 51) HT_ ?_
  refine pq 6 (N:=some 113) (lb 13 115) HT_ ?_
  refine pq 7 (N:=some 114) (lb 13 243) HT_ ?_
  refine pq 8 (N:=some 115) (lb 13 499) HT_ ?_
  refine tq 2 (N:=some 109) (lb 13 503) HT_ HW_ hHeld ?_
  refine pq 3 (N:=some 110) (lb 13 511) HT_ ?_
  refine tq 9 (N:=some 116) (lb 13 1023) HT_ HW_ hHeld ?_
  refine pq 10 (N:=some 117) (lb 13 2047) HT_ ?_
  refine one_ (i:=11) (N:=some 118) (lb 13 4095) rfl rfl (one_of HT_.out (by kernel_rfl)) (by decide) (fun K hK=>?_)
  refine goes_ Try.func44 (by kernel_rfl) rfl #[.int .i64 (wrap64 (a0_0-1)),.int .i64 (wrap64 (x11_3+((rd_T58 l1 x13_6).f1)))] (by rfl) rfl rfl gl ?_
  with_reducible refine(spec_l1Least.calls (wrap64 (a0_0-1)) (wrap64 (x11_3+((rd_T58 l1 x13_6).f1))) t260 _ A59.out).mono ?_
  rintro e w' ⟨rfl,⟨nd,rfl⟩⟩
  refine⟨_,rfl,?_⟩
  refine hK.out _ _ ⟨bc BK240 0 rfl,bc BK240 1 rfl,((HB.out.cell (World.block_lt_of_cell? w _ hw259_0)).trans hw259_0),((HB.out.cell (World.block_lt_of_cell? w _ hw259_1)).trans hw259_1)⟩ (fun hHeld=>?_)
  clear hK K
  refine norm_ (a':=?_) ?_ ?_
  rotate_left
  ·show Act.put _ (some 118) _=_
   simp only[ap]
   rfl
  refine pq 12 (N:=some 119) (lb 13 8191) HT_ ?_
  refine done_ (done_of HT_.out (by kernel_rfl)) ?_
  try go_wp2
  (try(rw[drewN_self w90];generalize hq_:World.drewN w90 _=w90;have n0_:Aside0 (Kd.S (Kd.slice 3 (Kd.int .i64)) 24 w90 w.heap.size (fun _=>True) (.slice (some ad251) x5_8.length co28) x5_8):=⟨by rw[←hq_];exact(sm HO_5.out)⟩;have n1_:Aside0 (w90.heap[gb240]? =some (.cells #[.int .i64 a0_0,.bool a0_1] 27 (0,0))):=⟨by rw[←hq_];exact(bm BK240.out)⟩;have n2_:Aside0 (Below w.heap.size w w90):=⟨by rw[←hq_];exact(h1 HB.out GE240.out)⟩;clear HO_5 BK240 HB hq_;have HO_5:=n0_;have BK240:=n1_;have HB:=n2_;clear n0_ n1_ n2_))
  replace HO_5:=ak (Kd.S_drew HO_5.out)
  replace BK240:=ak (blk_drew BK240.out)
  replace HB:=ak (below_drew1 HB.out)
  have p261:0≤(x13_6:Int):=od
  have q261:x13_6<(l1.length:Int):=od
  obtain⟨ad261,e261,hx261_0,hx261_1⟩:=at_T58 HR1.out x13_6 p261 q261
  have hw261_1:=hx261_1
  have hw261_0:=hx261_0
  obtain rfl:ad257=ad261:=(by injection e261)
  replace hx261_0:=hc HB hx261_0
  replace hx261_1:=hc HB hx261_1
  replace p261:=eq_true p261
  replace q261:=eq_true q261
  refine start_ (n:=12) (S:=fun w'=>w'.cell? ⟨gb240,0,none⟩=some (.int .i64 a0_0)∧w'.cell? ⟨gb240,1,none⟩=some (.bool a0_1)∧w'.cell? (ad257.add ((x13_6).toNat*2))=some (.int .i64 ((rd_T58 l1 x13_6).f0))∧w'.cell? ⟨(ad257.add ((x13_6).toNat*2)).block,(ad257.add ((x13_6).toNat*2)).off+1,none⟩=some (.int .i64 ((rd_T58 l1 x13_6).f1))) (ds:=[]) (lb 12 0) (by kernel_rfl) rfl rfl ⟨bc BK240 0 rfl,bc BK240 1 rfl,((HB.out.cell (World.block_lt_of_cell? w _ hw261_0)).trans hw261_0),((HB.out.cell (World.block_lt_of_cell? w _ hw261_1)).trans hw261_1)⟩ (fun hHeld=>?_);refine with_tabW spec_l9Sum.tab30 spec_l9Sum.bits30 (fun HT_ HW_=>?_)
  generalize w90.drew=w91 at HO_5 BK240 HB hx261_0 hx261_1 hHeld⊢
  refine pq 0 (N:=some 122) (lb 12 1) HT_ ?_
  refine pq 2 (N:=some 124) (lb 12 5) HT_ ?_
  refine pq 3 (N:=some 125) (lb 12 13) HT_ ?_
  refine pq 4 (N:=some 126) (lb 12 29) HT_ ?_
  refine pq 5 (N:=some 127) (lb 12 61) HT_ ?_
  refine pq 6 (N:=some 128) (lb 12 125) HT_ ?_
  refine tq 1 (N:=some 123) (lb 12 127) HT_ HW_ hHeld ?_
  refine tq 7 (N:=some 129) (lb 12 255) HT_ HW_ hHeld ?_
  refine pq 8 (N:=some 130) (lb 12 511) HT_ ?_
  refine pq 9 (N:=some 131) (lb 12 1023) HT_ ?_
  refine one_ (i:=10) (N:=some 132) (lb 12 2047) rfl rfl (one_of HT_.out (by kernel_rfl)) (by decide) (fun K hK=>?_)
  refine goes_ Try.func44 (by kernel_rfl) rfl #[.int .i64 a0_0,.int .i64 (wrap64 ((wrap64 (x14_8+((rd_T58 l1 x13_6).f1)))+1))] (by rfl) rfl rfl gl ?_
  with_reducible refine(spec_l1Least.calls a0_0 (wrap64 ((wrap64 (x14_8+((rd_T58 l1 x13_6).f1)))+1)) t262 _ A61.out).mono ?_
  rintro e w' ⟨rfl,⟨nd,rfl⟩⟩
  refine⟨_,rfl,?_⟩
  refine hK.out _ _ ⟨bc BK240 0 rfl,bc BK240 1 rfl,((HB.out.cell (World.block_lt_of_cell? w _ hw261_0)).trans hw261_0),((HB.out.cell (World.block_lt_of_cell? w _ hw261_1)).trans hw261_1)⟩ (fun hHeld=>?_)
  clear hK K
  refine norm_ (a':=?_) ?_ ?_
  rotate_left
  ·show Act.put _ (some 132) _=_
   simp only[ap]
   rfl
  refine pq 11 (N:=some 15) (lb 12 4095) HT_ ?_
  refine done_ (done_of HT_.out (by kernel_rfl)) ?_
  try go_wp2
  (try(rw[drewN_self w91];generalize hq_:World.drewN w91 _=w91;have n0_:Aside0 (Kd.S (Kd.slice 3 (Kd.int .i64)) 24 w91 w.heap.size (fun _=>True) (.slice (some ad251) x5_8.length co28) x5_8):=⟨by rw[←hq_];exact(sm HO_5.out)⟩;have n1_:Aside0 (w91.heap[gb240]? =some (.cells #[.int .i64 a0_0,.bool a0_1] 27 (0,0))):=⟨by rw[←hq_];exact(bm BK240.out)⟩;have n2_:Aside0 (Below w.heap.size w w91):=⟨by rw[←hq_];exact(h1 HB.out GE240.out)⟩;clear HO_5 BK240 HB hq_;have HO_5:=n0_;have BK240:=n1_;have HB:=n2_;clear n0_ n1_ n2_))
  replace HO_5:=ak (Kd.S_drew HO_5.out)
  replace BK240:=ak (blk_drew BK240.out)
  replace HB:=ak (below_drew1 HB.out)
  have p263:0≤(x13_6:Int):=od
  have q263:x13_6<(l1.length:Int):=od
  obtain⟨ad263,e263,hx263_0,hx263_1⟩:=at_T58 HR1.out x13_6 p263 q263
  have hw263_1:=hx263_1
  have hw263_0:=hx263_0
  obtain rfl:ad257=ad263:=(by injection e263)
  replace hx263_0:=hc HB hx263_0
  replace hx263_1:=hc HB hx263_1
  replace p263:=eq_true p263
  replace q263:=eq_true q263
  refine start_ (n:=11) (S:=fun w'=>w'.cell? ⟨gb240,0,none⟩=some (.int .i64 a0_0)∧w'.cell? ⟨gb240,1,none⟩=some (.bool a0_1)∧w'.cell? (ad257.add ((x13_6).toNat*2))=some (.int .i64 ((rd_T58 l1 x13_6).f0))∧w'.cell? ⟨(ad257.add ((x13_6).toNat*2)).block,(ad257.add ((x13_6).toNat*2)).off+1,none⟩=some (.int .i64 ((rd_T58 l1 x13_6).f1))) (ds:=[]) (lb 11 0) (by kernel_rfl) rfl rfl ⟨bc BK240 0 rfl,bc BK240 1 rfl,((HB.out.cell (World.block_lt_of_cell? w _ hw263_0)).trans hw263_0),((HB.out.cell (World.block_lt_of_cell? w _ hw263_1)).trans hw263_1)⟩ (fun hHeld=>?_);refine with_tabW spec_l9Sum.tab31 spec_l9Sum.bits31 (fun HT_ HW_=>?_)
  generalize w91.drew=w92 at HO_5 BK240 HB hx263_0 hx263_1 hHeld⊢
  refine pq 0 (N:=some 133) (lb 11 1) HT_ ?_
  refine pq 2 (N:=some 135) (lb 11 5) HT_ ?_
  refine pq 3 (N:=some 136) (lb 11 13) HT_ ?_
  refine pq 4 (N:=some 137) (lb 11 29) HT_ ?_
  refine pq 5 (N:=some 138) (lb 11 61) HT_ ?_
  refine pq 7 (N:=some 140) (lb 11 189) HT_ ?_
  refine tq 1 (N:=some 134) (lb 11 191) HT_ HW_ hHeld ?_
  refine tq 6 (N:=some 139) (lb 11 255) HT_ HW_ hHeld ?_
  refine one_ (i:=8) (N:=some 141) (lb 11 511) rfl rfl (one_of HT_.out (by kernel_rfl)) (by decide) (fun K hK=>?_)
  refine goes_ Try.func55 (by kernel_rfl) rfl #[.agg #[.int .i64 a0_0,.bool a0_1],.int .i64 ((rd_T58 l1 x13_6).f0),.int .i64 x14_8] (by rfl) rfl rfl gl ?_
  with_reducible refine(spec_l2Gap.calls a0_0 a0_1 ((rd_T58 l1 x13_6).f0) x14_8 t264 _ A62.out).mono ?_
  rintro e w93 ⟨rfl,hb⟩
  refine⟨_,rfl,?_⟩
  replace HO_5:=ak (Kd.S_below (sm HO_5.out) hb)
  replace BK240:=kb BK240 hb
  replace HB:=ak (below_step (h1 HB.out GE240.out) hb)
  (try clear hb)
  (try clear hb2)
  (try clear hk)
  (try clear hi)
  refine hK.out _ _ ⟨bc BK240 0 rfl,bc BK240 1 rfl,((HB.out.cell (World.block_lt_of_cell? w _ hw263_0)).trans hw263_0),((HB.out.cell (World.block_lt_of_cell? w _ hw263_1)).trans hw263_1)⟩ (fun hHeld=>?_)
  clear hK K
  refine norm_ (a':=?_) ?_ ?_
  rotate_left
  ·show Act.put _ (some 141) _=_
   simp only[ap]
   rfl
  refine pq 9 (N:=some 142) (lb 11 1023) HT_ ?_
  refine pq 10 (N:=some 16) (lb 11 2047) HT_ ?_
  refine done_ (done_of HT_.out (by kernel_rfl)) ?_
  have p265:0≤((ji65):Int):=od
  have q265: (ji65)<(x5_8.length:Int):=od
  obtain⟨ad265,A265_0,c265_0,e265,hx265_0,hl265_0,hi265_0⟩:=at_L2 (Kd.S_reads' HO_5.out).2.2 (ji65) p265 q265
  obtain rfl:ad251=ad265:=(by injection e265)
  obtain⟨ce265,hce265,hMe265,hcc265⟩:=Kd.S_get HO_5.out [] (ji65) p265 (by first|exact q265|exact od|(have e_:=(Kd.S_reads' HO_5.out).1;omega))
  obtain⟨ve265_0,rfl,ge265_0⟩:=hMe265
  have hv265_0:=hcc265 0 _ rfl
  rw[Nat.add_zero,show((Kd.slice 3 (Kd.int .i64))).sz=1 from rfl,Nat.mul_one]at hv265_0
  replace hv265_0:=Option.some.inj (hv265_0.symm.trans hx265_0)
  rw[hv265_0]at ge265_0
  have HL265_0:=Aside0.mk (show Kd.R (Kd.int .i64) 3 _ _ _ _ (rd_L2 x5_8 (ji65))from ge265_0)
  clear hv265_0 ge265_0
  have HX265_0:=Aside0.mk hx265_0
  clear hcc265 hce265
  have HR265_0:=Aside0.mk hi265_0
  clear hi265_0 hl265_0
  replace p265:=eq_true p265
  replace q265:=eq_true q265
  have p266:0≤(t262:Int):=od
  have q266:t262<((rd_L2 x5_8 (ji65)).length:Int):=od
  obtain⟨ad266,e266,hx266_0⟩:=Kd.at_int (by repeat(first|(with_reducible exact HR265_0.out)|(with_reducible refine C_alloc ?_ _)|(with_reducible refine C_drewN ?_ _)|(with_reducible refine C_drew ?_)|exact HR265_0.out)) t262 p266 q266
  cases e266
  replace p266:=eq_true p266
  replace q266:=eq_true q266
  try go_wp2
  (try simp only[←hl5_8])
  go_roundg k8
  case measure=>have:=HK1.out;have:=HK2.out;have:=HK3.out;have:=HJ38.out;have:=HJ45.out;have:=HK6.out;have:=HJ47.out;have:=HK8.out;omega
  case rel=>exact⟨(x5_8),(wrap64 (x14_8+1)),fd,H',⟨by have:=HK1.out;have:=HK2.out;have:=HK3.out;have:=HJ38.out;have:=HJ45.out;have:=HK6.out;have:=HJ47.out;have:=HK8.out;omega⟩,⟨by(try simp only[hl5_2]);(try simp only[hl5_3]);(try simp only[hl5_6]);(try simp only[hl5_8]);(with_reducible repeat(first|apply Kd.S_alloc|apply Kd.S_drewN|apply Kd.S_drew));exact HO_5.out⟩,⟨by(try simp only[hl5_2]);(try simp only[hl5_3]);(try simp only[hl5_6]);(try simp only[hl5_8]);exact bm BK240.out⟩,⟨h1 HB.out GE240.out⟩⟩
 rw[if_pos c80]at H
 have c80b0:decide ((wrap64 ((rd (rd_L2 x5_3 x10_2) x11_3)+t264))<(rd (rd_L2 x5_8 (ji65)) t262))=true:=decide_eq_true c80
 clear c80
 generalize hy272: (rd_L2 x5_8 (ji65)).set (t262:Int).toNat (wrap64 ((rd (rd_L2 x5_3 x10_2) x11_3)+t264))=y272 at H
 have Ny272:=ak hy272.symm
 clear hy272
 generalize hy274: (x5_8.set ((ji65):Int).toNat y272:List (List Int))=y274 at H
 have Ny274:=ak hy274.symm
 clear hy274
 have H':=Aside0.mk H
 clear H
 try go_wp2
 replace HO_5:=ak (Kd.S_drew HO_5.out)
 replace BK240:=ak (blk_drew BK240.out)
 replace HB:=ak (below_drew1 HB.out)
 have p259:0≤(x13_6:Int):=od
 have q259:x13_6<(l1.length:Int):=od
 obtain⟨ad259,e259,hx259_0,hx259_1⟩:=at_T58 HR1.out x13_6 p259 q259
 have hw259_1:=hx259_1
 have hw259_0:=hx259_0
 obtain rfl:ad257=ad259:=(by injection e259)
 replace hx259_0:=hc HB hx259_0
 replace hx259_1:=hc HB hx259_1
 replace p259:=eq_true p259
 replace q259:=eq_true q259
 refine start_ (n:=13) (S:=fun w'=>w'.cell? ⟨gb240,0,none⟩=some (.int .i64 a0_0)∧w'.cell? ⟨gb240,1,none⟩=some (.bool a0_1)∧w'.cell? (ad257.add ((x13_6).toNat*2))=some (.int .i64 ((rd_T58 l1 x13_6).f0))∧w'.cell? ⟨(ad257.add ((x13_6).toNat*2)).block,(ad257.add ((x13_6).toNat*2)).off+1,none⟩=some (.int .i64 ((rd_T58 l1 x13_6).f1))) (ds:=[]) (lb 13 0) (by kernel_rfl) rfl rfl ⟨bc BK240 0 rfl,bc BK240 1 rfl,((HB.out.cell (World.block_lt_of_cell? w _ hw259_0)).trans hw259_0),((HB.out.cell (World.block_lt_of_cell? w _ hw259_1)).trans hw259_1)⟩ (fun hHeld=>?_);refine with_tabW spec_l9Sum.tab28 spec_l9Sum.bits28 (fun HT_ HW_=>?_)
 generalize wr.drew=w84 at HO_5 BK240 HB hx259_0 hx259_1 hHeld⊢
 refine pq 0 (N:=some 107) (lb 13 1) HT_ ?_
 refine pq 1 (N:=some 108) (lb 13 3) HT_ ?_
 refine pq 4 (N:=some 111) (lb 13 19) HT_ ?_
 refine pq 5 (N:=some 112) (lb 13 51) HT_ ?_
 refine pq 6 (N:=some 113) (lb 13 115) HT_ ?_
 refine pq 7 (N:=some 114) (lb 13 243) HT_ ?_
 refine pq 8 (N:=some 115) (lb 13 499) HT_ ?_
 refine tq 2 (N:=some 109) (lb 13 503) HT_ HW_ hHeld ?_
 refine pq 3 (N:=some 110) (lb 13 511) HT_ ?_
 refine tq 9 (N:=some 116) (lb 13 1023) HT_ HW_ hHeld ?_
 refine pq 10 (N:=some 117) (lb 13 2047) HT_ ?_
 refine one_ (i:=11) (N:=some 118) (lb 13 4095) rfl rfl (one_of HT_.out (by kernel_rfl)) (by decide) (fun K hK=>?_)
 refine goes_ Try.func44 (by kernel_rfl) rfl #[.int .i64 (wrap64 (a0_0-1)),.int .i64 (wrap64 (x11_3+((rd_T58 l1 x13_6).f1)))] (by rfl) rfl rfl gl ?_
 with_reducible refine(spec_l1Least.calls (wrap64 (a0_0-1)) (wrap64 (x11_3+((rd_T58 l1 x13_6).f1))) t260 _ A59.out).mono ?_
 rintro e w' ⟨rfl,⟨nd,rfl⟩⟩
 refine⟨_,rfl,?_⟩
 refine hK.out _ _ ⟨bc BK240 0 rfl,bc BK240 1 rfl,((HB.out.cell (World.block_lt_of_cell? w _ hw259_0)).trans hw259_0),((HB.out.cell (World.block_lt_of_cell? w _ hw259_1)).trans hw259_1)⟩ (fun hHeld=>?_)
 clear hK K
 refine norm_ (a':=?_) ?_ ?_
 rotate_left
 ·show Act.put _ (some 118) _=_
  simp only[ap]
  rfl
 refine pq 12 (N:=some 119) (lb 13 8191) HT_ ?_
 refine done_ (done_of HT_.out (by kernel_rfl)) ?_
 try go_wp2
 (try(rw[drewN_self w84];generalize hq_:World.drewN w84 _=w84;have n0_:Aside0 (Kd.S (Kd.slice 3 (Kd.int .i64)) 24 w84 w.heap.size (fun _=>True) (.slice (some ad251) x5_8.length co28) x5_8):=⟨by rw[←hq_];exact(sm HO_5.out)⟩;have n1_:Aside0 (w84.heap[gb240]? =some (.cells #[.int .i64 a0_0,.bool a0_1] 27 (0,0))):=⟨by rw[←hq_];exact(bm BK240.out)⟩;have n2_:Aside0 (Below w.heap.size w w84):=⟨by rw[←hq_];exact(h1 HB.out GE240.out)⟩;clear HO_5 BK240 HB hq_;have HO_5:=n0_;have BK240:=n1_;have HB:=n2_;clear n0_ n1_ n2_))
 replace HO_5:=ak (Kd.S_drew HO_5.out)
 replace BK240:=ak (blk_drew BK240.out)
 replace HB:=ak (below_drew1 HB.out)
 have p261:0≤(x13_6:Int):=od
 have q261:x13_6<(l1.length:Int):=od
 obtain⟨ad261,e261,hx261_0,hx261_1⟩:=at_T58 HR1.out x13_6 p261 q261
 have hw261_1:=hx261_1
 have hw261_0:=hx261_0
 obtain rfl:ad257=ad261:=(by injection e261)
 replace hx261_0:=hc HB hx261_0
 replace hx261_1:=hc HB hx261_1
 replace p261:=eq_true p261
 replace q261:=eq_true q261
 refine start_ (n:=12) (S:=fun w'=>w'.cell? ⟨gb240,0,none⟩=some (.int .i64 a0_0)∧w'.cell? ⟨gb240,1,none⟩=some (.bool a0_1)∧w'.cell? (ad257.add ((x13_6).toNat*2))=some (.int .i64 ((rd_T58 l1 x13_6).f0))∧w'.cell? ⟨(ad257.add ((x13_6).toNat*2)).block,(ad257.add ((x13_6).toNat*2)).off+1,none⟩=some (.int .i64 ((rd_T58 l1 x13_6).f1))) (ds:=[]) (lb 12 0) (by kernel_rfl) rfl rfl ⟨bc BK240 0 rfl,bc BK240 1 rfl,((HB.out.cell (World.block_lt_of_cell? w _ hw261_0)).trans hw261_0),((HB.out.cell (World.block_lt_of_cell? w _ hw261_1)).trans hw261_1)⟩ (fun hHeld=>?_);refine with_tabW spec_l9Sum.tab30 spec_l9Sum.bits30 (fun HT_ HW_=>?_)
 generalize w84.drew=w85 at HO_5 BK240 HB hx261_0 hx261_1 hHeld⊢
 refine pq 0 (N:=some 122) (lb 12 1) HT_ ?_
 refine pq 2 (N:=some 124) (lb 12 5) HT_ ?_
 refine pq 3 (N:=some 125) (lb 12 13) HT_ ?_
 refine pq 4 (N:=some 126) (lb 12 29) HT_ ?_
 refine pq 5 (N:=some 127) (lb 12 61) HT_ ?_
 refine pq 6 (N:=some 128) (lb 12 125) HT_ ?_
 refine tq 1 (N:=some 123) (lb 12 127) HT_ HW_ hHeld ?_
 refine tq 7 (N:=some 129) (lb 12 255) HT_ HW_ hHeld ?_
 refine pq 8 (N:=some 130) (lb 12 511) HT_ ?_
 refine pq 9 (N:=some 131) (lb 12 1023) HT_ ?_
 refine one_ (i:=10) (N:=some 132) (lb 12 2047) rfl rfl (one_of HT_.out (by kernel_rfl)) (by decide) (fun K hK=>?_)
 refine goes_ Try.func44 (by kernel_rfl) rfl #[.int .i64 a0_0,.int .i64 (wrap64 ((wrap64 (x14_8+((rd_T58 l1 x13_6).f1)))+1))] (by rfl) rfl rfl gl ?_
 with_reducible refine(spec_l1Least.calls a0_0 (wrap64 ((wrap64 (x14_8+((rd_T58 l1 x13_6).f1)))+1)) t262 _ A61.out).mono ?_
 rintro e w' ⟨rfl,⟨nd,rfl⟩⟩
 refine⟨_,rfl,?_⟩
 refine hK.out _ _ ⟨bc BK240 0 rfl,bc BK240 1 rfl,((HB.out.cell (World.block_lt_of_cell? w _ hw261_0)).trans hw261_0),((HB.out.cell (World.block_lt_of_cell? w _ hw261_1)).trans hw261_1)⟩ (fun hHeld=>?_)
 clear hK K
 refine norm_ (a':=?_) ?_ ?_
 rotate_left
 ·show Act.put _ (some 132) _=_
  simp only[ap]
  rfl
 refine pq 11 (N:=some 15) (lb 12 4095) HT_ ?_
 refine done_ (done_of HT_.out (by kernel_rfl)) ?_
 try go_wp2
 (try(rw[drewN_self w85];generalize hq_:World.drewN w85 _=w85;have n0_:Aside0 (Kd.S (Kd.slice 3 (Kd.int .i64)) 24 w85 w.heap.size (fun _=>True) (.slice (some ad251) x5_8.length co28) x5_8):=⟨by rw[←hq_];exact(sm HO_5.out)⟩;have n1_:Aside0 (w85.heap[gb240]? =some (.cells #[.int .i64 a0_0,.bool a0_1] 27 (0,0))):=⟨by rw[←hq_];exact(bm BK240.out)⟩;have n2_:Aside0 (Below w.heap.size w w85):=⟨by rw[←hq_];exact(h1 HB.out GE240.out)⟩;clear HO_5 BK240 HB hq_;have HO_5:=n0_;have BK240:=n1_;have HB:=n2_;clear n0_ n1_ n2_))
 replace HO_5:=ak (Kd.S_drew HO_5.out)
 replace BK240:=ak (blk_drew BK240.out)
 replace HB:=ak (below_drew1 HB.out)
 have p263:0≤(x13_6:Int):=od
 have q263:x13_6<(l1.length:Int):=od
 obtain⟨ad263,e263,hx263_0,hx263_1⟩:=at_T58 HR1.out x13_6 p263 q263
 have hw263_1:=hx263_1
 have hw263_0:=hx263_0
 obtain rfl:ad257=ad263:=(by injection e263)
 replace hx263_0:=hc HB hx263_0
 replace hx263_1:=hc HB hx263_1
 replace p263:=eq_true p263
 replace q263:=eq_true q263
 refine start_ (n:=11) (S:=fun w'=>w'.cell? ⟨gb240,0,none⟩=some (.int .i64 a0_0)∧w'.cell? ⟨gb240,1,none⟩=some (.bool a0_1)∧w'.cell? (ad257.add ((x13_6).toNat*2))=some (.int .i64 ((rd_T58 l1 x13_6).f0))∧w'.cell? ⟨(ad257.add ((x13_6).toNat*2)).block,(ad257.add ((x13_6).toNat*2)).off+1,none⟩=some (.int .i64 ((rd_T58 l1 x13_6).f1))) (ds:=[]) (lb 11 0) (by kernel_rfl) rfl rfl ⟨bc BK240 0 rfl,bc BK240 1 rfl,((HB.out.cell (World.block_lt_of_cell? w _ hw263_0)).trans hw263_0),((HB.out.cell (World.block_lt_of_cell? w _ hw263_1)).trans hw263_1)⟩ (fun hHeld=>?_);refine with_tabW spec_l9Sum.tab31 spec_l9Sum.bits31 (fun HT_ HW_=>?_)
 generalize w85.drew=w86 at HO_5 BK240 HB hx263_0 hx263_1 hHeld⊢
 refine pq 0 (N:=some 133) (lb 11 1) HT_ ?_
 refine pq 2 (N:=some 135) (lb 11 5) HT_ ?_
 refine pq 3 (N:=some 136) (lb 11 13) HT_ ?_
 refine pq 4 (N:=some 137) (lb 11 29) HT_ ?_
 refine pq 5 (N:=some 138) (lb 11 61) HT_ ?_
 refine pq 7 (N:=some 140) (lb 11 189) HT_ ?_
 refine tq 1 (N:=some 134) (lb 11 191) HT_ HW_ hHeld ?_
 refine tq 6 (N:=some 139) (lb 11 255) HT_ HW_ hHeld ?_
 refine one_ (i:=8) (N:=some 141) (lb 11 511) rfl rfl (one_of HT_.out (by kernel_rfl)) (by decide) (fun K hK=>?_)
 refine goes_ Try.func55 (by kernel_rfl) rfl #[.agg #[.int .i64 a0_0,.bool a0_1],.int .i64 ((rd_T58 l1 x13_6).f0),.int .i64 x14_8] (by rfl) rfl rfl gl ?_
 with_reducible refine(spec_l2Gap.calls a0_0 a0_1 ((rd_T58 l1 x13_6).f0) x14_8 t264 _ A62.out).mono ?_
 rintro e w87 ⟨rfl,hb⟩
 refine⟨_,rfl,?_⟩
 replace HO_5:=ak (Kd.S_below (sm HO_5.out) hb)
 replace BK240:=kb BK240 hb
 replace HB:=ak (below_step (h1 HB.out GE240.out) hb)
 (try clear hb)
 (try clear hb2)
 (try clear hk)
 (try clear hi)
 refine hK.out _ _ ⟨bc BK240 0 rfl,bc BK240 1 rfl,((HB.out.cell (World.block_lt_of_cell? w _ hw263_0)).trans hw263_0),((HB.out.cell (World.block_lt_of_cell? w _ hw263_1)).trans hw263_1)⟩ (fun hHeld=>?_)
 clear hK K
 refine norm_ (a':=?_) ?_ ?_
 rotate_left
 ·show Act.put _ (some 141) _=_
  simp only[ap]
  rfl
 refine pq 9 (N:=some 142) (lb 11 1023) HT_ ?_
 refine pq 10 (N:=some 16) (lb 11 2047) HT_ ?_
 refine done_ (done_of HT_.out (by kernel_rfl)) ?_
 have p265:0≤((ji65):Int):=od
 have q265: (ji65)<(x5_8.length:Int):=od
 obtain⟨ad265,A265_0,c265_0,e265,hx265_0,hl265_0,hi265_0⟩:=at_L2 (Kd.S_reads' HO_5.out).2.2 (ji65) p265 q265
 obtain rfl:ad251=ad265:=(by injection e265)
 obtain⟨ce265,hce265,hMe265,hcc265⟩:=Kd.S_get HO_5.out [] (ji65) p265 (by first|exact q265|exact od|(have e_:=(Kd.S_reads' HO_5.out).1;omega))
 obtain⟨ve265_0,rfl,ge265_0⟩:=hMe265
 have hv265_0:=hcc265 0 _ rfl
 rw[Nat.add_zero,show((Kd.slice 3 (Kd.int .i64))).sz=1 from rfl,Nat.mul_one]at hv265_0
 replace hv265_0:=Option.some.inj (hv265_0.symm.trans hx265_0)
 rw[hv265_0]at ge265_0
 have HL265_0:=Aside0.mk (show Kd.R (Kd.int .i64) 3 _ _ _ _ (rd_L2 x5_8 (ji65))from ge265_0)
 clear hv265_0 ge265_0
 have HX265_0:=Aside0.mk hx265_0
 clear hcc265 hce265
 have HR265_0:=Aside0.mk hi265_0
 clear hi265_0 hl265_0
 replace p265:=eq_true p265
 replace q265:=eq_true q265
 have p266:0≤(t262:Int):=od
 have q266:t262<((rd_L2 x5_8 (ji65)).length:Int):=od
 obtain⟨ad266,e266,hx266_0⟩:=Kd.at_int (by repeat(first|(with_reducible exact HR265_0.out)|(with_reducible refine C_alloc ?_ _)|(with_reducible refine C_drewN ?_ _)|(with_reducible refine C_drew ?_)|exact HR265_0.out)) t262 p266 q266
 cases e266
 replace p266:=eq_true p266
 replace q266:=eq_true q266
 have p271:0≤((ji65):Int):=od
 have q271: (ji65)<(x5_8.length:Int):=od
 obtain⟨ad271,A271_0,c271_0,e271,hx271_0,hl271_0,hi271_0⟩:=at_L2 (Kd.S_reads' HO_5.out).2.2 (ji65) p271 q271
 obtain rfl:ad251=ad271:=(by injection e271)
 obtain⟨ce271,hce271,hMe271,hcc271⟩:=Kd.S_get HO_5.out [] (ji65) p271 (by first|exact q271|exact od|(have e_:=(Kd.S_reads' HO_5.out).1;omega))
 obtain⟨ve271_0,rfl,ge271_0⟩:=hMe271
 have hv271_0:=hcc271 0 _ rfl
 rw[Nat.add_zero,show((Kd.slice 3 (Kd.int .i64))).sz=1 from rfl,Nat.mul_one]at hv271_0
 replace hv271_0:=Option.some.inj (hv271_0.symm.trans hx271_0)
 rw[hv271_0]at ge271_0
 have HL271_0:=Aside0.mk (show Kd.R (Kd.int .i64) 3 _ _ _ _ (rd_L2 x5_8 (ji65))from ge271_0)
 clear hv271_0 ge271_0
 have HX271_0:=Aside0.mk hx271_0
 clear hcc271 hce271
 have HR271_0:=Aside0.mk hi271_0
 have HC271_0:=Aside0.mk hl271_0
 clear hi271_0 hl271_0
 replace p271:=eq_true p271
 replace q271:=eq_true q271
 have ea_:=Option.some.inj (hx265_0.symm.trans hx271_0)
 injection ea_ with ea_ en_ ec_
 subst ea_
 subst ec_
 clear en_
 have p83:0≤(t262:Int):=od
 have q83: (t262:Int)<(((rd_L2 x5_8 (ji65)).length:Int):Int):=od
 obtain⟨go83,co83,eo83,gb83,gl83,cl83,HG83⟩:=R_form HL271_0.out (by omega)
 (first|cases eo83|(injection eo83 with ea_ en_ ec_;(first|subst ea_|(injection ea_ with ea_;subst ea_));subst ec_;clear en_))
 have GB83:=Aside0.mk gb83
 clear gb83 gl83 HG83
 (first|simp only[add_plain]at hx266_0|skip)
 obtain⟨hx83_0,hf83_0⟩:=R_celln 0 HL271_0.out (t262:Int) p83 q83
 replace p83:=eq_true p83
 replace q83:=eq_true q83
 have hq88: ((ji65):Int)<(x5_8.length:Int):=(by have h_: ((ji65):Int)<((x5_8.length:Int):Int):=od;first|exact h_|(have e_:=(Kd.S_reads' HO_5.out).1;omega)|simpa only[List.length_set,List.length_set]using h_)
 obtain⟨oki88,ce88,hcl88,hM88,hcc88,hok88,hbk88⟩:=Kd.S_borrow HO_5.out [] ((ji65):Int) (od) hq88
 obtain⟨ve88_0,rfl,ge88_0⟩:=hM88
 have hv88:=hcc88 0 _ rfl
 rw[Nat.add_zero,show((Kd.slice 3 (Kd.int .i64))).sz=1 from rfl,Nat.mul_one]at hv88
 replace hv88:=Option.some.inj (hv88.symm.trans HX271_0.out)
 subst hv88
 clear hcc88 hcl88
 replace ge88_0:=(show Kd.R (Kd.int .i64) 3 _ _ _ _ (rd_L2 x5_8 (ji65))from ge88_0)
 have HP88:=R_putg ge88_0 (t262:Int) (wrap64 ((rd (rd_L2 x5_3 x10_2) x11_3)+t264))
 try go_wp2_with (first|((with_reducible refine gate_store (t:=3) (p:=169) rfl ?_);refine store_event (t:=3) (p:=169) (v:=?vo_w89) (w1:=(w87.setCell ⟨go83,(t262:Int).toNat,none⟩ (.int .i64 (wrap64 ((rd (rd_L2 x5_3 x10_2) x11_3)+t264))))) ?hg ?ho ?hn ?hr ?_;(case ho=>rfl);(case hg=>rfl);(case hn=>rfl);(case hr=>first|(go_simp;done)|(go_simp;rfl));intro w89 hw;have hg:w87.grownBy w89 (some go83):=(by rw[hw];exact HP88.2);have hz_:Kd.R (Kd.int .i64) 3 w89 w.heap.size oki88 (.slice (some ⟨go83,0,none⟩) (rd_L2 x5_8 (ji65)).length c265_0) y272:=(by rw[hw,Ny272.out];exact HP88.1);have hp_:Kd.S (Kd.slice 3 (Kd.int .i64)) 24 w89 w.heap.size (fun _=>True) (.slice (some ad251) x5_8.length co28) y274:=(by rw[Ny274.out];exact hbk88 hg (fun k_ e_=>by injection e_ with e_;subst e_;exact ge88_0.1 _ rfl) (Kd.M_row hz_));have hm_:=R_mono hz_ hok88;clear HP88 hbk88;replace HO_5:=ak hp_;replace BK240:=ak (blk_grown (g:=gb240) (o:=.cells #[.int .i64 a0_0,.bool a0_1] 27 (0,0)) (bm BK240.out) hg (R_ne HL271_0.out BK240.out (by decide)));replace HB:=ak ((by rw[hw];exact below_set (HB.out) GB83.out:Below w.heap.size w w89));clear HL265_0 HL271_0;clear hg hw hp_ hz_ hm_ hok88))
 (try simp only[←hl5_8])
 go_roundg k8
 case measure=>have:=HK1.out;have:=HK2.out;have:=HK3.out;have:=HJ38.out;have:=HJ45.out;have:=HK6.out;have:=HJ47.out;have:=HK8.out;omega
 case rel=>exact⟨(y274),(wrap64 (x14_8+1)),fd,H',⟨by have:=HK1.out;have:=HK2.out;have:=HK3.out;have:=HJ38.out;have:=HJ45.out;have:=HK6.out;have:=HJ47.out;have:=HK8.out;omega⟩,⟨by(try simp only[hl5_2]);(try simp only[hl5_3]);(try simp only[hl5_6]);(try simp only[hl5_8]);(with_reducible repeat(first|apply Kd.S_alloc|apply Kd.S_drewN|apply Kd.S_drew));exact HO_5.out⟩,⟨by(try simp only[hl5_2]);(try simp only[hl5_3]);(try simp only[hl5_6]);(try simp only[hl5_8]);exact bm BK240.out⟩,⟨h1 HB.out GE240.out⟩⟩
end
end Go.Proofs.Ytanfamfgdgcjpaa.QFnMoves
