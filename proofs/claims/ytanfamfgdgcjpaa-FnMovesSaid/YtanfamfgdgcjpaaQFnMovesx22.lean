/- Functions that the law FnMoves comes to, and their walks: no condition but those named. -/
import Derived.Test.YtanfamfgdgcjpaaQFnMovesx0
import Derived.Test.YtanfamfgdgcjpaaQFnMovesx5
import Derived.Test.YtanfamfgdgcjpaaQFnMovesx6
namespace Go.Proofs.Ytanfamfgdgcjpaa.QFnMoves
open Go.RowKit Go.Proofs.YtanfamfgdgcjpaaW.PrintWords Go.Proofs.YtanfamfgdgcjpaaW.PrintLast Go.Proofs.YtanfamfgdgcjpaaW.PrintMore Go.Proofs.Ytanfamfgdgcjpaa.Short
attribute [local go_sem] max2_int min2_int max_two min_two max_three min_three max_four min_four
set_option linter.unusedVariables false
set_option linter.unusedSimpArgs false
attribute [local go_sem high] eqA58
section
open Kd
def laws_vSensors.l0:Nat→List (S58)→List (S58)→Int→Option (Bool)
 | 0,_,_,_=>none
 | k+1,x0,x1,x5=>if x5<(x0.length:Int)then(if 0≤x5 then(if x5<(x1.length:Int)then(if(!(((rd_T58 x0 x5).f0)==((rd_T58 x1 x5).f0))||(!(((rd_T58 x0 x5).f1)==((rd_T58 x1 x5).f1))))=true then(some false)else(laws_vSensors.l0 k x0 x1 (wrap64 (x5+1))))else(none))else(none))else(some true)
def laws_vSensors.f (k:Nat) (l0:List (S58)) (l1:List (S58)):Option (Bool):=if(l0.length:Int)=(l1.length:Int)then(laws_vSensors.l0 k l0 l1 0)else(some false)
theorem laws_vSensors.mono_l:∀ k,(∀ y0 y1 y2,LeO (laws_vSensors.l0 k y0 y1 y2) (laws_vSensors.l0 (k+1) y0 y1 y2))
 | 0=>by
  refine ?_<;>(intros;intro r h;simp[laws_vSensors.l0]at h)
 | k+1=>by
  have ih0:=laws_vSensors.mono_l k
  refine ?_<;>intros<;>unfold laws_vSensors.l0<;>(repeat' (with_reducible first|exact ih0 ..|exact LeO.refl _|exact LeO.none _|refine LeO.ite ?_ ?_|refine LeO.bind ?_ (fun _=>?_)))
theorem laws_vSensors.mono:∀ a0 a1 k,LeO (laws_vSensors.f k a0 a1) (laws_vSensors.f (k+1) a0 a1):=by
 intro a0 a1 k
 have ih0:=laws_vSensors.mono_l k
 unfold laws_vSensors.f
 repeat' (with_reducible first|exact ih0 ..|exact LeO.refl _|exact LeO.none _|refine LeO.ite ?_ ?_|refine LeO.bind ?_ (fun _=>?_))
set_option maxHeartbeats 8000000 in
set_option maxRecDepth 100000 in
theorem laws_vSensors.calls (k:Nat) (A0:Option Addr) (c0:Nat) (l0:List (S58)) (A1:Option Addr) (c1:Nat) (l1:List (S58)) (r:Bool) (w:World) (hr0:Kd.C k58 w A0 l0.length l0) (hc0:l0.length≤c0) (hr1:Kd.C k58 w A1 l1.length l1) (hc1:l1.length≤c1) (h:laws_vSensors.f k l0 l1=some r):
  Calls Try.prog 37 #[.slice A0 l0.length c0,.slice A1 l1.length c1] w fun e w'=>e= .returned (.bool r)∧Drawn0 w w':=by
 have HR0:=Aside0.mk hr0
 clear hr0 hc0
 have HR1:=Aside0.mk hr1
 clear hr1 hc1
 unfold laws_vSensors.f at h
 have H:=h
 clear h
 by_cases c3: (l0.length:Int)=(l1.length:Int)
 rotate_left
 ·rw[if_neg c3]at H
  have c3b1: ((l0.length:Int) !=(l1.length:Int))=true:=bne_iff_ne.mpr c3
  have c3b2: (l0.length==l1.length)=false:=by first|simpa using c3|(simp at c3⊢;omega)
  obtain rfl:=Option.some.inj H
  go_enter Try.func37,Try.ntmps37
  go_wp2
  repeat(go_quiet (fail);try go_wp2)
  go_ret
  exact⟨by first|rfl|(simp;done)|(simp[*];done),by repeat(first|exact Drawn0.refl _|apply Drawn0.step)⟩
 rw[if_pos c3]at H
 have c3b1: ((l0.length:Int) !=(l1.length:Int))=false:=bne_eq_false_iff_eq.mpr c3
 have c3b2: (l0.length==l1.length)=true:=by first|simpa using c3|(simp at c3⊢;omega)
 clear c3
 have H':=Aside0.mk H
 clear H
 go_enter Try.func37,Try.ntmps37
 go_wp2
 repeat(go_quiet (fail);try go_wp2)
 go_loopg [5] k (fun kq v5 w'=>∃ (x5_1:Int),v5= .int .i64 x5_1∧Aside0 (laws_vSensors.l0 kq l0 l1 x5_1=some r)∧Aside0 (kq≤k)∧Drawn0 w w')
 case atStart=>exact⟨(0),fd,H',⟨Nat.le_refl _⟩,by repeat(first|exact Drawn0.refl _|apply Drawn0.step)⟩
 clear H'
 obtain⟨x5_1,rfl,HA,HK1,⟨m1,rfl⟩⟩:=hrel
 obtain _|k1:=gk;·cases HA.out
 obtain⟨H⟩:=HA
 simp only[laws_vSensors.l0]at H
 by_cases c4:x5_1<(l0.length:Int)
 rotate_left
 ·rw[if_neg c4]at H
  have c4b0:decide (x5_1<(l0.length:Int))=false:=decide_eq_false c4
  clear c4
  obtain rfl:=Option.some.inj H
  go_wp2
  repeat(go_quiet (fail);try go_wp2)
  go_ret
  exact⟨by first|rfl|(simp;done)|(simp[*];done),by repeat(first|exact Drawn0.refl _|apply Drawn0.step)⟩
 rw[if_pos c4]at H
 have c4b0:decide (x5_1<(l0.length:Int))=true:=decide_eq_true c4
 clear c4
 obtain⟨c5,H⟩:=gi H
 have c5b0:decide (0≤x5_1)=true:=decide_eq_true c5
 clear c5
 obtain⟨c6,H⟩:=gi H
 have c6b0:decide (x5_1<(l1.length:Int))=true:=decide_eq_true c6
 clear c6
 by_cases c7: (!(((rd_T58 l0 x5_1).f0)==((rd_T58 l1 x5_1).f0))||(!(((rd_T58 l0 x5_1).f1)==((rd_T58 l1 x5_1).f1))))=true
 ·rw[if_pos c7]at H
  have c7b0: (!(((rd_T58 l0 x5_1).f0)==((rd_T58 l1 x5_1).f0))||(!(((rd_T58 l0 x5_1).f1)==((rd_T58 l1 x5_1).f1))))=true:=c7
  clear c7
  obtain rfl:=Option.some.inj H
  have p653:0≤(x5_1:Int):=od
  have q653:x5_1<(l0.length:Int):=od
  obtain⟨ad653,e653,hx653_0,hx653_1⟩:=at_T58 HR0.out x5_1 p653 q653
  cases e653
  replace p653:=eq_true p653
  replace q653:=eq_true q653
  have p654:0≤(x5_1:Int):=od
  have q654:x5_1<(l1.length:Int):=od
  obtain⟨ad654,e654,hx654_0,hx654_1⟩:=at_T58 HR1.out x5_1 p654 q654
  cases e654
  replace p654:=eq_true p654
  replace q654:=eq_true q654
  go_wp2
  repeat(go_quiet (fail);try go_wp2)
  go_ret
  exact⟨by first|rfl|(simp;done)|(simp[*];done),by repeat(first|exact Drawn0.refl _|apply Drawn0.step)⟩
 rw[if_neg c7]at H
 have c7b0: (!(((rd_T58 l0 x5_1).f0)==((rd_T58 l1 x5_1).f0))||(!(((rd_T58 l0 x5_1).f1)==((rd_T58 l1 x5_1).f1))))=false:=by simpa using c7
 clear c7
 have H':=Aside0.mk H
 clear H
 have p653:0≤(x5_1:Int):=od
 have q653:x5_1<(l0.length:Int):=od
 obtain⟨ad653,e653,hx653_0,hx653_1⟩:=at_T58 HR0.out x5_1 p653 q653
 cases e653
 replace p653:=eq_true p653
 replace q653:=eq_true q653
 have p654:0≤(x5_1:Int):=od
 have q654:x5_1<(l1.length:Int):=od
 obtain⟨ad654,e654,hx654_0,hx654_1⟩:=at_T58 HR1.out x5_1 p654 q654
 cases e654
 replace p654:=eq_true p654
 replace q654:=eq_true q654
 go_wp2
 repeat(go_quiet (fail);try go_wp2)
 go_roundg k1
 case measure=>have:=HK1.out;omega
 case rel=>exact⟨(wrap64 (x5_1+1)),fd,H',⟨by have:=HK1.out;omega⟩,by repeat(first|exact Drawn0.refl _|apply Drawn0.step)⟩
def laws_vInts.l0:Nat→List Int→List Int→Int→Option (Bool)
 | 0,_,_,_=>none
 | k+1,x0,x1,x5=>if x5<(x0.length:Int)then(if 0≤x5 then(if x5<(x1.length:Int)then(if(rd x0 x5)=(rd x1 x5)then(laws_vInts.l0 k x0 x1 (wrap64 (x5+1)))else(some false))else(none))else(none))else(some true)
def laws_vInts.f (k:Nat) (l0:List Int) (l1:List Int):Option (Bool):=if(l0.length:Int)=(l1.length:Int)then(laws_vInts.l0 k l0 l1 0)else(some false)
theorem laws_vInts.mono_l:∀ k,(∀ y0 y1 y2,LeO (laws_vInts.l0 k y0 y1 y2) (laws_vInts.l0 (k+1) y0 y1 y2))
 | 0=>by
  refine ?_<;>(intros;intro r h;simp[laws_vInts.l0]at h)
 | k+1=>by
  have ih0:=laws_vInts.mono_l k
  refine ?_<;>intros<;>unfold laws_vInts.l0<;>(repeat' (with_reducible first|exact ih0 ..|exact LeO.refl _|exact LeO.none _|refine LeO.ite ?_ ?_|refine LeO.bind ?_ (fun _=>?_)))
theorem laws_vInts.mono:∀ a0 a1 k,LeO (laws_vInts.f k a0 a1) (laws_vInts.f (k+1) a0 a1):=by
 intro a0 a1 k
 have ih0:=laws_vInts.mono_l k
 unfold laws_vInts.f
 repeat' (with_reducible first|exact ih0 ..|exact LeO.refl _|exact LeO.none _|refine LeO.ite ?_ ?_|refine LeO.bind ?_ (fun _=>?_))
set_option maxHeartbeats 8000000 in
set_option maxRecDepth 100000 in
theorem laws_vInts.calls (k:Nat) (A0:Option Addr) (c0:Nat) (l0:List Int) (A1:Option Addr) (c1:Nat) (l1:List Int) (r:Bool) (w:World) (hr0:Kd.C (Kd.int .i64) w A0 l0.length l0) (hc0:l0.length≤c0) (hr1:Kd.C (Kd.int .i64) w A1 l1.length l1) (hc1:l1.length≤c1) (h:laws_vInts.f k l0 l1=some r):
  Calls Try.prog 38 #[.slice A0 l0.length c0,.slice A1 l1.length c1] w fun e w'=>e= .returned (.bool r)∧Drawn0 w w':=by
 have HR0:=Aside0.mk hr0
 clear hr0 hc0
 have HR1:=Aside0.mk hr1
 clear hr1 hc1
 unfold laws_vInts.f at h
 have H:=h
 clear h
 by_cases c3: (l0.length:Int)=(l1.length:Int)
 rotate_left
 ·rw[if_neg c3]at H
  have c3b1: ((l0.length:Int) !=(l1.length:Int))=true:=bne_iff_ne.mpr c3
  have c3b2: (l0.length==l1.length)=false:=by first|simpa using c3|(simp at c3⊢;omega)
  obtain rfl:=Option.some.inj H
  go_enter Try.func38,Try.ntmps38
  go_wp2
  repeat(go_quiet (fail);try go_wp2)
  go_ret
  exact⟨by first|rfl|(simp;done)|(simp[*];done),by repeat(first|exact Drawn0.refl _|apply Drawn0.step)⟩
 rw[if_pos c3]at H
 have c3b1: ((l0.length:Int) !=(l1.length:Int))=false:=bne_eq_false_iff_eq.mpr c3
 have c3b2: (l0.length==l1.length)=true:=by first|simpa using c3|(simp at c3⊢;omega)
 clear c3
 have H':=Aside0.mk H
 clear H
 go_enter Try.func38,Try.ntmps38
 go_wp2
 repeat(go_quiet (fail);try go_wp2)
 go_loopg [5] k (fun kq v5 w'=>∃ (x5_1:Int),v5= .int .i64 x5_1∧Aside0 (laws_vInts.l0 kq l0 l1 x5_1=some r)∧Aside0 (kq≤k)∧Drawn0 w w')
 case atStart=>exact⟨(0),fd,H',⟨Nat.le_refl _⟩,by repeat(first|exact Drawn0.refl _|apply Drawn0.step)⟩
 clear H'
 obtain⟨x5_1,rfl,HA,HK1,⟨m1,rfl⟩⟩:=hrel
 obtain _|k1:=gk;·cases HA.out
 obtain⟨H⟩:=HA
 simp only[laws_vInts.l0]at H
 by_cases c4:x5_1<(l0.length:Int)
 rotate_left
 ·rw[if_neg c4]at H
  have c4b0:decide (x5_1<(l0.length:Int))=false:=decide_eq_false c4
  clear c4
  obtain rfl:=Option.some.inj H
  go_wp2
  repeat(go_quiet (fail);try go_wp2)
  go_ret
  exact⟨by first|rfl|(simp;done)|(simp[*];done),by repeat(first|exact Drawn0.refl _|apply Drawn0.step)⟩
 rw[if_pos c4]at H
 have c4b0:decide (x5_1<(l0.length:Int))=true:=decide_eq_true c4
 clear c4
 obtain⟨c5,H⟩:=gi H
 have c5b0:decide (0≤x5_1)=true:=decide_eq_true c5
 clear c5
 obtain⟨c6,H⟩:=gi H
 have c6b0:decide (x5_1<(l1.length:Int))=true:=decide_eq_true c6
 clear c6
 by_cases c7: (rd l0 x5_1)=(rd l1 x5_1)
 rotate_left
 ·rw[if_neg c7]at H
  have c7b1: ((rd l0 x5_1) !=(rd l1 x5_1))=true:=bne_iff_ne.mpr c7
  obtain rfl:=Option.some.inj H
  have p655:0≤(x5_1:Int):=od
  have q655:x5_1<(l0.length:Int):=od
  obtain⟨ad655,e655,hx655_0⟩:=Kd.at_int HR0.out x5_1 p655 q655
  cases e655
  replace p655:=eq_true p655
  replace q655:=eq_true q655
  have p656:0≤(x5_1:Int):=od
  have q656:x5_1<(l1.length:Int):=od
  obtain⟨ad656,e656,hx656_0⟩:=Kd.at_int HR1.out x5_1 p656 q656
  cases e656
  replace p656:=eq_true p656
  replace q656:=eq_true q656
  go_wp2
  repeat(go_quiet (fail);try go_wp2)
  go_ret
  exact⟨by first|rfl|(simp;done)|(simp[*];done),by repeat(first|exact Drawn0.refl _|apply Drawn0.step)⟩
 rw[if_pos c7]at H
 have c7b1: ((rd l0 x5_1) !=(rd l1 x5_1))=false:=bne_eq_false_iff_eq.mpr c7
 clear c7
 have H':=Aside0.mk H
 clear H
 have p655:0≤(x5_1:Int):=od
 have q655:x5_1<(l0.length:Int):=od
 obtain⟨ad655,e655,hx655_0⟩:=Kd.at_int HR0.out x5_1 p655 q655
 cases e655
 replace p655:=eq_true p655
 replace q655:=eq_true q655
 have p656:0≤(x5_1:Int):=od
 have q656:x5_1<(l1.length:Int):=od
 obtain⟨ad656,e656,hx656_0⟩:=Kd.at_int HR1.out x5_1 p656 q656
 cases e656
 replace p656:=eq_true p656
 replace q656:=eq_true q656
 go_wp2
 repeat(go_quiet (fail);try go_wp2)
 go_roundg k1
 case measure=>have:=HK1.out;omega
 case rel=>exact⟨(wrap64 (x5_1+1)),fd,H',⟨by have:=HK1.out;omega⟩,by repeat(first|exact Drawn0.refl _|apply Drawn0.step)⟩
def slices_Min_int_int.l0:Nat→List Int→Int→Int→Option (Int)
 | 0,_,_,_=>none
 | k+1,x0,x3,x4=>if x4<(x0.length:Int)then(if 0≤x4 then(slices_Min_int_int.l0 k x0 (mn x3 (rd x0 x4)) (wrap64 (x4+1)))else(none))else(some x3)
def slices_Min_int_int.f (k:Nat) (l0:List Int):Option (Int):=if(l0.length:Int)<1 then(none)else(if 0<(l0.length:Int)then(slices_Min_int_int.l0 k l0 (rd l0 0) 1)else(none))
theorem slices_Min_int_int.mono_l:∀ k,(∀ y0 y1 y2,LeO (slices_Min_int_int.l0 k y0 y1 y2) (slices_Min_int_int.l0 (k+1) y0 y1 y2))
 | 0=>by
  refine ?_<;>(intros;intro r h;simp[slices_Min_int_int.l0]at h)
 | k+1=>by
  have ih0:=slices_Min_int_int.mono_l k
  refine ?_<;>intros<;>unfold slices_Min_int_int.l0<;>(repeat' (with_reducible first|exact ih0 ..|exact LeO.refl _|exact LeO.none _|refine LeO.ite ?_ ?_|refine LeO.bind ?_ (fun _=>?_)))
theorem slices_Min_int_int.mono:∀ a0 k,LeO (slices_Min_int_int.f k a0) (slices_Min_int_int.f (k+1) a0):=by
 intro a0 k
 have ih0:=slices_Min_int_int.mono_l k
 unfold slices_Min_int_int.f
 repeat' (with_reducible first|exact ih0 ..|exact LeO.refl _|exact LeO.none _|refine LeO.ite ?_ ?_|refine LeO.bind ?_ (fun _=>?_))
set_option maxHeartbeats 8000000 in
set_option maxRecDepth 100000 in
theorem slices_Min_int_int.calls (k:Nat) (A0:Option Addr) (c0:Nat) (l0:List Int) (r:Int) (w:World) (hr0:Kd.C (Kd.int .i64) w A0 l0.length l0) (hc0:l0.length≤c0) (h:slices_Min_int_int.f k l0=some r):
  Calls Try.prog 74 #[.slice A0 l0.length c0] w fun e w'=>e= .returned (.int .i64 r)∧Below w.heap.size w w':=by
 have HR0:=Aside0.mk hr0
 clear hr0 hc0
 have HB:=Aside0.mk (Below.refl w.heap.size w)
 unfold slices_Min_int_int.f at h
 have H:=h
 clear h
 by_cases c2: (l0.length:Int)<1
 ·rw[if_pos c2]at H
  exact absurd H (by simp)
 rw[if_neg c2]at H
 have c2b0:decide ((l0.length:Int)<1)=false:=decide_eq_false c2
 clear c2
 obtain⟨c3,H⟩:=gi H
 have c3b0:decide (0<(l0.length:Int))=true:=decide_eq_true c3
 clear c3
 have H':=Aside0.mk H
 clear H
 have p657:0≤(0:Int):=(by omega)
 have q657:0<(l0.length:Int):=od
 obtain⟨ad657,e657,hx657_0⟩:=Kd.at_int HR0.out 0 p657 q657
 cases e657
 have qi657: (0<l0.length)=True:=eq_true (by omega)
 (try rw[show((0:Int)).toNat=0 from rfl]at hx657_0)
 (try rw[Addr.add_zero']at hx657_0)
 replace p657:=eq_true p657
 replace q657:=eq_true q657
 go_enter Try.func74,Try.ntmps74
 go_wp2
 go_loopg [3,4] k (fun kq v3 v4 w'=>∃ (x3_1:Int) (x4_1:Int),v3= .int .i64 x3_1∧v4= .int .i64 x4_1∧Aside0 (slices_Min_int_int.l0 kq l0 x3_1 x4_1=some r)∧Aside0 (kq≤k)∧Aside0 (Below w.heap.size w w'))
 case atStart=>exact⟨(rd l0 0),(1),fd,fd,H',⟨Nat.le_refl _⟩,⟨hm HB.out⟩⟩
 clear H'
 obtain⟨x3_1,x4_1,rfl,rfl,HA,HK1,HB⟩:=hrel
 obtain _|k1:=gk;·cases HA.out
 obtain⟨H⟩:=HA
 simp only[slices_Min_int_int.l0]at H
 by_cases c4:x4_1<(l0.length:Int)
 rotate_left
 ·rw[if_neg c4]at H
  have c4b0:decide (x4_1<(l0.length:Int))=false:=decide_eq_false c4
  clear c4
  obtain rfl:=Option.some.inj H
  go_wp2
  go_ret
  exact⟨fe,hm HB.out⟩
 rw[if_pos c4]at H
 have c4b0:decide (x4_1<(l0.length:Int))=true:=decide_eq_true c4
 clear c4
 obtain⟨c5,H⟩:=gi H
 have c5b0:decide (0≤x4_1)=true:=decide_eq_true c5
 clear c5
 generalize hji6: (mn x3_1 (rd l0 x4_1))=ji6 at H
 have hji6_: (if(rd l0 x4_1)<x3_1 then(rd l0 x4_1)else x3_1)=ji6:=hji6
 have H':=Aside0.mk H
 clear H
 have p658:0≤(x4_1:Int):=od
 have q658:x4_1<(l0.length:Int):=od
 obtain⟨ad658,e658,hx658_0⟩:=Kd.at_int HR0.out x4_1 p658 q658
 obtain rfl:ad657=ad658:=(by injection e658)
 replace hx658_0:=hc HB hx658_0
 replace p658:=eq_true p658
 replace q658:=eq_true q658
 go_wp2
 go_roundg k1
 case measure=>have:=HK1.out;omega
 case rel=>exact⟨(ji6),(wrap64 (x4_1+1)),(by first|rfl|(simp;done)|(simp only[←hji6]<;>(first|rfl|simp))|(simp[*];done)),fd,H',⟨by have:=HK1.out;omega⟩,⟨hm HB.out⟩⟩
end
section
open Kd
mutual
def impl_Road_seen.l0:Nat→List (S58)→List Int→Int→Int→Int→Bool→Option (List Int)
 | 0,_,_,_,_,_,_=>none
 | k+1,x1,x5,x13,x14,x660000,x660001=>if x14<x13 then(impl_Road_seen.l1 k x1 x5 x14 x13 x14 x1 (x1.length:Int) 0 x660000 x660001)else(some x5)
def impl_Road_seen.l1:Nat→List (S58)→List Int→Int→Int→Int→List (S58)→Int→Int→Int→Bool→Option (List Int)
 | 0,_,_,_,_,_,_,_,_,_,_=>none
 | k+1,x1,x5,x6,x13,x14,x17,x18,x19,x660000,x660001=>if x19<x18 then(if 0≤x19 then(if x19<(x17.length:Int)then((impl_Road_gap.f x660000 x660001 ((rd_T58 x17 x19).f0) x6).bind fun t665=>(if t665≤((rd_T58 x17 x19).f1)then(if 0≤x6 then(if x6<(x5.length:Int)then(impl_Road_seen.l1 k x1 (x5.set (x6:Int).toNat (wrap64 ((rd x5 x6)+1))) x6 x13 x14 x17 x18 (wrap64 (x19+1)) x660000 x660001)else(none))else(none))else(impl_Road_seen.l1 k x1 x5 x6 x13 x14 x17 x18 (wrap64 (x19+1)) x660000 x660001)))else(none))else(none))else(impl_Road_seen.l0 k x1 x5 x13 (wrap64 (x14+1)) x660000 x660001)
end
def impl_Road_seen.f (k:Nat) (a0_0:Int) (a0_1:Bool) (l1:List (S58)):Option (List Int):=if 0≤a0_0 then(if(a0_0:Int).toNat≤35184372088832 then((some (List.replicate (a0_0:Int).toNat 0:List Int)).bind fun y660=>(impl_Road_seen.l0 k l1 y660 (y660.length:Int) 0 a0_0 a0_1))else(none))else(none)
theorem impl_Road_seen.mono_l:∀ k,(∀ y0 y1 y2 y3 y4 y5,LeO (impl_Road_seen.l0 k y0 y1 y2 y3 y4 y5) (impl_Road_seen.l0 (k+1) y0 y1 y2 y3 y4 y5))∧(∀ y0 y1 y2 y3 y4 y5 y6 y7 y8 y9,LeO (impl_Road_seen.l1 k y0 y1 y2 y3 y4 y5 y6 y7 y8 y9) (impl_Road_seen.l1 (k+1) y0 y1 y2 y3 y4 y5 y6 y7 y8 y9))
 | 0=>by
  refine⟨?_,?_⟩<;>(intros;intro r h;simp[impl_Road_seen.l0,impl_Road_seen.l1]at h)
 | k+1=>by
  obtain⟨ih0,ih1⟩:=impl_Road_seen.mono_l k
  refine⟨?_,?_⟩<;>intros<;>(first|unfold impl_Road_seen.l0|unfold impl_Road_seen.l1)<;>(repeat' (with_reducible first|exact ih0 ..|exact ih1 ..|exact LeO.refl _|exact LeO.none _|refine LeO.ite ?_ ?_|refine LeO.bind ?_ (fun _=>?_)))
theorem impl_Road_seen.mono:∀ a0 a1 a2 k,LeO (impl_Road_seen.f k a0 a1 a2) (impl_Road_seen.f (k+1) a0 a1 a2):=by
 intro a0 a1 a2 k
 obtain⟨ih0,ih1⟩:=impl_Road_seen.mono_l k
 unfold impl_Road_seen.f
 repeat' (with_reducible first|exact ih0 ..|exact ih1 ..|exact LeO.refl _|exact LeO.none _|refine LeO.ite ?_ ?_|refine LeO.bind ?_ (fun _=>?_))
def impl_Road_seen.T8:Bool × List (List Nat × List Nat):=(true,[([],[]),([],[]),([1],[1]),([],[]),([0,2,3],[0,2,3]),([],[]),([5],[5]),([4,6],[4,6])])
def impl_Road_seen.B8:List Nat:=[0,0,2,0,15,0,32,127]
theorem impl_Road_seen.tab8:rtab .any (opsOf Try.f75 8)=impl_Road_seen.T8:=by kernel_rfl
theorem impl_Road_seen.bits8:waitsOk impl_Road_seen.T8.2 impl_Road_seen.B8=true:=by kernel_rfl
set_option maxHeartbeats 8000000 in
set_option maxRecDepth 100000 in
theorem impl_Road_seen.calls (k:Nat) (a0_0:Int) (a0_1:Bool) (A1:Option Addr) (c1:Nat) (l1:List (S58)) (r:List Int) (w:World) (hr1:Kd.C k58 w A1 l1.length l1) (hc1:l1.length≤c1) (h:impl_Road_seen.f k a0_0 a0_1 l1=some r):
  Calls Try.prog 75 #[.agg #[.int .i64 a0_0,.bool a0_1],.slice A1 l1.length c1] w fun e w'=>∃ v0_:Value,e= .returned (v0_)∧Kd.R (Kd.int .i64) 3 w' w.heap.size (fun _=>True) v0_ r∧Below w.heap.size w w':=by
 have HR1:=Aside0.mk hr1
 clear hr1 hc1
 have HB:=Aside0.mk (Below.refl w.heap.size w)
 unfold impl_Road_seen.f at h
 have H:=h
 clear h
 obtain⟨c3,H⟩:=gi H
 have c3b1:decide (0≤a0_0)=true:=decide_eq_true c3
 clear c3
 obtain⟨c4,H⟩:=gi H
 have c4b1:decide ((a0_0:Int).toNat≤35184372088832)=true:=decide_eq_true c4
 clear c4
 obtain⟨y660,hy660⟩:∃ y_:List Int,y_=(List.replicate (a0_0:Int).toNat 0):=⟨_,rfl⟩
 replace H: (impl_Road_seen.l0 k l1 y660 (y660.length:Int) 0 a0_0 a0_1)=some r:=by subst hy660;first|(with_reducible exact H)|exact H
 have Ny660:=Aside0.mk hy660
 clear hy660
 have H':=Aside0.mk H
 clear H
 go_enter Try.func75,Try.ntmps75
 go_wp2_with (first|(refine bx 2 #[.int .i64 a0_0,.bool a0_1] 27 ?_;intro gb659 hg w5 hbox hb;have BK659:=ak hbox;have GE659:=gw HB hg;replace HB:=bs HB hb;clear hb hbox hg;have hcz6_0:=bc BK659 0 rfl)|((with_reducible refine gate_dst (N:=11) rfl ?_);refine R_make (Kd.int .i64) _ 3 rfl (N:=11) rfl 24 _ _ rfl a0_0 rfl rfl Try.underlying24 (.int .i64 0) 8 info3 rfl (by decide) (by omega) 0 (ok:=fun _=>True) (okp:=fun _=>True) rfl (fun _ hk=>hk) trivial (od) (Nat.le_trans (Nat.mul_le_mul_right _ (od:a0_0.toNat≤35184372088832)) (by omega)) (Below.refl _ _) (Nat.le_refl _) ?_;intro v661 w7 ho8 hb hg_ hnew_;clear hg_ hnew_;(first|rw[←Ny660.out]at ho8|(simp only[Int.reduceToNat]at ho8;rw[←Ny660.out]at ho8));have HO662:=ak (R_lower ho8 (below_size (h1 HB.out GE659.out)));replace BK659:=kb BK659 hb;replace HB:=ak (below_step (h1 HB.out GE659.out) hb);clear hb ho8;obtain⟨Ao9,co9,eo9⟩:=R_slice HO662.out;subst eo9))
 go_loopg [14] k (fun kq v14 w'=>∃ (x5_1:List Int) (x14_1:Int),v14= .int .i64 x14_1∧Aside0 (impl_Road_seen.l0 kq l1 x5_1 (y660.length:Int) x14_1 a0_0 a0_1=some r)∧Aside0 (kq≤k)∧Aside0 (Kd.R (Kd.int .i64) 3 w' w.heap.size (fun _=>True) (.slice Ao9 y660.length co9) x5_1)∧Aside0 (w'.heap[gb659]? =some (.cells #[.int .i64 a0_0,.bool a0_1] 27 (0,0)))∧Aside0 (Below w.heap.size w w'))
 case atStart=>exact⟨(y660),(0),fd,H',⟨Nat.le_refl _⟩,⟨rm HO662.out⟩,⟨bm BK659.out⟩,⟨h1 HB.out GE659.out⟩⟩
 clear H'
 obtain⟨x5_1,x14_1,rfl,HA,HK1,HO_5,BK659,HB⟩:=hrel
 have hl5_1:=(R_reads' HO_5.out).1
 rw[hl5_1]at HO_5
 (try simp only[hl5_1])
 (try simp only[hl5_1]at BK659)
 obtain _|k1:=gk;·cases HA.out
 obtain⟨H⟩:=HA
 simp only[impl_Road_seen.l0]at H
 by_cases c10:x14_1<(y660.length:Int)
 rotate_left
 ·rw[if_neg c10]at H
  have c10b0:decide (x14_1<(y660.length:Int))=false:=decide_eq_false c10
  (try simp only[hl5_1]at c10b0)
  clear c10
  obtain rfl:=Option.some.inj H
  go_wp2
  go_ret
  exact⟨_,fe,rm HO_5.out,h1 HB.out GE659.out⟩
 rw[if_pos c10]at H
 have c10b0:decide (x14_1<(y660.length:Int))=true:=decide_eq_true c10
 (try simp only[hl5_1]at c10b0)
 clear c10
 have H':=Aside0.mk H
 clear H
 go_wp2
 go_loopg [19] k1 (fun kq v19 w'=>∃ (x5_2:List Int) (x19_2:Int),v19= .int .i64 x19_2∧Aside0 (impl_Road_seen.l1 kq l1 x5_2 x14_1 (y660.length:Int) x14_1 l1 (l1.length:Int) x19_2 a0_0 a0_1=some r)∧Aside0 (kq≤k1)∧Aside0 (Kd.R (Kd.int .i64) 3 w' w.heap.size (fun _=>True) (.slice Ao9 x5_1.length co9) x5_2)∧Aside0 (w'.heap[gb659]? =some (.cells #[.int .i64 a0_0,.bool a0_1] 27 (0,0)))∧Aside0 (Below w.heap.size w w'))
 case atStart=>exact⟨(x5_1),(0),fd,H',⟨Nat.le_refl _⟩,⟨by(try simp only[hl5_1]);(with_reducible repeat(first|apply R_alloc|apply R_drewN|apply R_drew));exact HO_5.out⟩,⟨by(try simp only[hl5_1]);exact bm BK659.out⟩,⟨h1 HB.out GE659.out⟩⟩
 clear H'
 obtain⟨x5_2,x19_2,rfl,HA,HK2,HO_5,BK659,HB⟩:=hrel
 have hl5_2:=(R_reads' HO_5.out).1
 rw[hl5_2]at HO_5
 (try simp only[hl5_2])
 (try simp only[hl5_2]at BK659)
 obtain _|k2:=gk;·cases HA.out
 obtain⟨H⟩:=HA
 simp only[impl_Road_seen.l1]at H
 by_cases c11:x19_2<(l1.length:Int)
 rotate_left
 ·rw[if_neg c11]at H
  have c11b0:decide (x19_2<(l1.length:Int))=false:=decide_eq_false c11
  (try simp only[hl5_1,hl5_2]at c11b0)
  clear c11
  have H':=Aside0.mk H
  clear H
  go_wp2
  (try simp only[←hl5_1,←hl5_2])
  go_roundg k2
  case measure=>have:=HK1.out;have:=HK2.out;omega
  case rel=>exact⟨(x5_2),(wrap64 (x14_1+1)),fd,H',⟨by have:=HK1.out;have:=HK2.out;omega⟩,⟨by(try simp only[hl5_1]);(try simp only[hl5_2]);(with_reducible repeat(first|apply R_alloc|apply R_drewN|apply R_drew));exact HO_5.out⟩,⟨by(try simp only[hl5_1]);(try simp only[hl5_2]);exact bm BK659.out⟩,⟨h1 HB.out GE659.out⟩⟩
 rw[if_pos c11]at H
 have c11b0:decide (x19_2<(l1.length:Int))=true:=decide_eq_true c11
 (try simp only[hl5_1,hl5_2]at c11b0)
 clear c11
 obtain⟨c12,H⟩:=gi H
 have c12b0:decide (0≤x19_2)=true:=decide_eq_true c12
 clear c12
 obtain⟨c13,H⟩:=gi H
 have c13b0:decide (x19_2<(l1.length:Int))=true:=decide_eq_true c13
 (try simp only[hl5_1,hl5_2]at c13b0)
 clear c13
 obtain⟨t665,A14,H⟩:=bd H;(try dsimp only at H)
 by_cases c15:t665≤((rd_T58 l1 x19_2).f1)
 rotate_left
 ·rw[if_neg c15]at H
  have c15b0:decide (t665≤((rd_T58 l1 x19_2).f1))=false:=decide_eq_false c15
  clear c15
  have H':=Aside0.mk H
  clear H
  have p663:0≤(x19_2:Int):=od
  have q663:x19_2<(l1.length:Int):=od
  obtain⟨ad663,e663,hx663_0,hx663_1⟩:=at_T58 HR1.out x19_2 p663 q663
  cases e663
  replace hx663_0:=hc HB hx663_0
  replace hx663_1:=hc HB hx663_1
  replace p663:=eq_true p663
  replace q663:=eq_true q663
  try go_wp2_with (first|(refine bx 8 #[.int .i64 0,.int .i64 0] 58 ?_;intro gb664 hg w27 hbox hb;replace HO_5:=rb HO_5 hb;have BK664:=ak hbox;have GE664:=ak ((by rw[hg];exact(below_size (h1 HB.out GE659.out)):w.heap.size≤gb664));replace HB:=ak (below_step (h1 HB.out GE659.out) hb);have NB659_664:=nl BK659 hg;have NB664_659:=ng BK659 hg;replace BK659:=kb BK659 hb;clear hb hbox hg;have hcz29_0:=bc BK664 0 rfl;have hcz29_1:=bc BK664 1 rfl;have hfz29_0:=bf BK664 0;have hfz29_1:=bf BK664 1))
  have n0_:Aside0 (Kd.R (Kd.int .i64) 3 ((w27.setCell ⟨gb664,0,none⟩ (.int .i64 ((rd_T58 l1 x19_2).f0))).setCell ⟨gb664,1,none⟩ (.int .i64 ((rd_T58 l1 x19_2).f1))) w.heap.size (fun _=>True) (.slice Ao9 x5_2.length co9) x5_2):=⟨by(with_reducible repeat(first|apply R_alloc|apply R_drewN|apply R_drew));exact R_mono (R_far (p:=⟨gb664,1,none⟩) (R_far (p:=⟨gb664,0,none⟩) (R_types HO_5.out BK664.out (by decide)) (fun _ hk=>hk.2) (.int .i64 ((rd_T58 l1 x19_2).f0))) (fun _ hk=>hk.2) (.int .i64 ((rd_T58 l1 x19_2).f1))) (fun _ hk=>trivial)⟩
  have n1_:Aside0 (((w27.setCell ⟨gb664,0,none⟩ (.int .i64 ((rd_T58 l1 x19_2).f0))).setCell ⟨gb664,1,none⟩ (.int .i64 ((rd_T58 l1 x19_2).f1))).heap[gb659]? =some (.cells #[.int .i64 a0_0,.bool a0_1] 27 (0,0))):=⟨by(with_reducible repeat(first|apply blk_drewN|apply blk_drew|apply blk_alloc));refine blk_far ?_ NB659_664.out _;(with_reducible repeat(first|apply blk_drewN|apply blk_drew|apply blk_alloc));refine blk_far ?_ NB659_664.out _;exact bm BK659.out⟩
  have n2_:Aside0 (((w27.setCell ⟨gb664,0,none⟩ (.int .i64 ((rd_T58 l1 x19_2).f0))).setCell ⟨gb664,1,none⟩ (.int .i64 ((rd_T58 l1 x19_2).f1))).heap[gb664]? =some (.cells #[.int .i64 ((rd_T58 l1 x19_2).f0),.int .i64 ((rd_T58 l1 x19_2).f1)] 58 (0,0))):=⟨by(with_reducible repeat(first|apply blk_drewN|apply blk_drew|apply blk_alloc));refine blk_put (cs:=#[.int .i64 ((rd_T58 l1 x19_2).f0),.int .i64 0]) ?_ 1 _ rfl;(with_reducible repeat(first|apply blk_drewN|apply blk_drew|apply blk_alloc));refine blk_put (cs:=#[.int .i64 0,.int .i64 0]) ?_ 0 _ rfl;exact bm BK664.out⟩
  have n3_:Aside0 (Below w.heap.size w ((w27.setCell ⟨gb664,0,none⟩ (.int .i64 ((rd_T58 l1 x19_2).f0))).setCell ⟨gb664,1,none⟩ (.int .i64 ((rd_T58 l1 x19_2).f1)))):=⟨h2 HB.out GE659.out GE664.out⟩
  (try clear HO_5)
  (try clear BK659)
  (try clear BK664)
  (try clear HB)
  generalize ((w27.setCell ⟨gb664,0,none⟩ (.int .i64 ((rd_T58 l1 x19_2).f0))).setCell ⟨gb664,1,none⟩ (.int .i64 ((rd_T58 l1 x19_2).f1)))=w30 at n0_ n1_ n2_ n3_⊢
  have HO_5:=n0_
  have BK659:=n1_
  have BK664:=n2_
  have HB:=n3_
  clear n0_ n1_ n2_ n3_
  replace HO_5:=ak (R_drew HO_5.out)
  replace BK659:=ak (blk_drew BK659.out)
  replace BK664:=ak (blk_drew BK664.out)
  replace HB:=ak (below_drew1 HB.out)
  refine start_ (n:=8) (S:=fun w'=>w'.cell? ⟨gb659,0,none⟩=some (.int .i64 a0_0)∧w'.cell? ⟨gb659,1,none⟩=some (.bool a0_1)∧w'.cell? ⟨gb664,0,none⟩=some (.int .i64 ((rd_T58 l1 x19_2).f0))∧w'.cell? ⟨gb664,1,none⟩=some (.int .i64 ((rd_T58 l1 x19_2).f1))) (ds:=[]) (lb 8 0) (by kernel_rfl) rfl rfl ⟨bc BK659 0 rfl,bc BK659 1 rfl,bc BK664 0 rfl,bc BK664 1 rfl⟩ (fun hHeld=>?_);refine with_tabW impl_Road_seen.tab8 impl_Road_seen.bits8 (fun HT_ HW_=>?_)
  generalize w30.drew=w31 at HO_5 BK659 BK664 HB hHeld⊢
  refine pq 1 (N:=some 24) (lb 8 2) HT_ ?_
  refine pq 3 (N:=some 26) (lb 8 10) HT_ ?_
  refine pq 5 (N:=some 28) (lb 8 42) HT_ ?_
  refine tq 0 (N:=some 23) (lb 8 43) HT_ HW_ hHeld ?_
  refine tq 2 (N:=some 25) (lb 8 47) HT_ HW_ hHeld ?_
  refine tq 6 (N:=some 29) (lb 8 111) HT_ HW_ hHeld ?_
  refine one_ (i:=4) (N:=some 27) (lb 8 127) rfl rfl (one_of HT_.out (by kernel_rfl)) (by decide) (fun K hK=>?_)
  refine goes_ Try.func57 (by kernel_rfl) rfl #[.agg #[.int .i64 a0_0,.bool a0_1],.int .i64 ((rd_T58 l1 x19_2).f0),.int .i64 x14_1] (by rfl) rfl rfl gl ?_
  with_reducible refine(impl_Road_gap.calls a0_0 a0_1 ((rd_T58 l1 x19_2).f0) x14_1 t665 _ A14.out).mono ?_
  rintro e w32 ⟨rfl,hb⟩
  refine⟨_,rfl,?_⟩
  replace HO_5:=rb HO_5 hb
  replace BK659:=kb BK659 hb
  replace BK664:=kb BK664 hb
  replace HB:=ak (below_step (h2 HB.out GE659.out GE664.out) hb)
  (try clear hb)
  (try clear hb2)
  (try clear hk)
  (try clear hi)
  refine hK.out _ _ ⟨bc BK659 0 rfl,bc BK659 1 rfl,bc BK664 0 rfl,bc BK664 1 rfl⟩ (fun hHeld=>?_)
  clear hK K
  refine norm_ (a':=?_) ?_ ?_
  rotate_left
  ·show Act.put _ (some 27) _=_
   simp only[ap]
   rfl
  refine pq 7 (N:=some 30) (lb 8 255) HT_ ?_
  refine done_ (done_of HT_.out (by kernel_rfl)) ?_
  try go_wp2
  (try simp only[←hl5_2])
  go_roundg k2
  case measure=>have:=HK1.out;have:=HK2.out;omega
  case rel=>exact⟨(x5_2),(wrap64 (x19_2+1)),fd,H',⟨by have:=HK1.out;have:=HK2.out;omega⟩,⟨by(try simp only[hl5_1]);(try simp only[hl5_2]);(with_reducible repeat(first|apply R_alloc|apply R_drewN|apply R_drew));exact HO_5.out⟩,⟨by(try simp only[hl5_1]);(try simp only[hl5_2]);exact bm BK659.out⟩,⟨h2 HB.out GE659.out GE664.out⟩⟩
 rw[if_pos c15]at H
 have c15b0:decide (t665≤((rd_T58 l1 x19_2).f1))=true:=decide_eq_true c15
 clear c15
 obtain⟨c16,H⟩:=gi H
 have c16b0:decide (0≤x14_1)=true:=decide_eq_true c16
 clear c16
 obtain⟨c17,H⟩:=gi H
 have c17b0:decide (x14_1<(x5_2.length:Int))=true:=decide_eq_true c17
 (try simp only[hl5_1,hl5_2]at c17b0)
 clear c17
 generalize hy667: (x5_2.set (x14_1:Int).toNat (wrap64 ((rd x5_2 x14_1)+1)):List Int)=y667 at H
 have Ny667:=ak hy667.symm
 clear hy667
 have H':=Aside0.mk H
 clear H
 have p663:0≤(x19_2:Int):=od
 have q663:x19_2<(l1.length:Int):=od
 obtain⟨ad663,e663,hx663_0,hx663_1⟩:=at_T58 HR1.out x19_2 p663 q663
 cases e663
 replace hx663_0:=hc HB hx663_0
 replace hx663_1:=hc HB hx663_1
 replace p663:=eq_true p663
 replace q663:=eq_true q663
 try go_wp2_with (first|(refine bx 8 #[.int .i64 0,.int .i64 0] 58 ?_;intro gb664 hg w19 hbox hb;replace HO_5:=rb HO_5 hb;have BK664:=ak hbox;have GE664:=ak ((by rw[hg];exact(below_size (h1 HB.out GE659.out)):w.heap.size≤gb664));replace HB:=ak (below_step (h1 HB.out GE659.out) hb);have NB659_664:=nl BK659 hg;have NB664_659:=ng BK659 hg;replace BK659:=kb BK659 hb;clear hb hbox hg;have hcz21_0:=bc BK664 0 rfl;have hcz21_1:=bc BK664 1 rfl;have hfz21_0:=bf BK664 0;have hfz21_1:=bf BK664 1))
 have n0_:Aside0 (Kd.R (Kd.int .i64) 3 ((w19.setCell ⟨gb664,0,none⟩ (.int .i64 ((rd_T58 l1 x19_2).f0))).setCell ⟨gb664,1,none⟩ (.int .i64 ((rd_T58 l1 x19_2).f1))) w.heap.size (fun _=>True) (.slice Ao9 x5_2.length co9) x5_2):=⟨by(with_reducible repeat(first|apply R_alloc|apply R_drewN|apply R_drew));exact R_mono (R_far (p:=⟨gb664,1,none⟩) (R_far (p:=⟨gb664,0,none⟩) (R_types HO_5.out BK664.out (by decide)) (fun _ hk=>hk.2) (.int .i64 ((rd_T58 l1 x19_2).f0))) (fun _ hk=>hk.2) (.int .i64 ((rd_T58 l1 x19_2).f1))) (fun _ hk=>trivial)⟩
 have n1_:Aside0 (((w19.setCell ⟨gb664,0,none⟩ (.int .i64 ((rd_T58 l1 x19_2).f0))).setCell ⟨gb664,1,none⟩ (.int .i64 ((rd_T58 l1 x19_2).f1))).heap[gb659]? =some (.cells #[.int .i64 a0_0,.bool a0_1] 27 (0,0))):=⟨by(with_reducible repeat(first|apply blk_drewN|apply blk_drew|apply blk_alloc));refine blk_far ?_ NB659_664.out _;(with_reducible repeat(first|apply blk_drewN|apply blk_drew|apply blk_alloc));refine blk_far ?_ NB659_664.out _;exact bm BK659.out⟩
 have n2_:Aside0 (((w19.setCell ⟨gb664,0,none⟩ (.int .i64 ((rd_T58 l1 x19_2).f0))).setCell ⟨gb664,1,none⟩ (.int .i64 ((rd_T58 l1 x19_2).f1))).heap[gb664]? =some (.cells #[.int .i64 ((rd_T58 l1 x19_2).f0),.int .i64 ((rd_T58 l1 x19_2).f1)] 58 (0,0))):=⟨by(with_reducible repeat(first|apply blk_drewN|apply blk_drew|apply blk_alloc));refine blk_put (cs:=#[.int .i64 ((rd_T58 l1 x19_2).f0),.int .i64 0]) ?_ 1 _ rfl;(with_reducible repeat(first|apply blk_drewN|apply blk_drew|apply blk_alloc));refine blk_put (cs:=#[.int .i64 0,.int .i64 0]) ?_ 0 _ rfl;exact bm BK664.out⟩
 have n3_:Aside0 (Below w.heap.size w ((w19.setCell ⟨gb664,0,none⟩ (.int .i64 ((rd_T58 l1 x19_2).f0))).setCell ⟨gb664,1,none⟩ (.int .i64 ((rd_T58 l1 x19_2).f1)))):=⟨h2 HB.out GE659.out GE664.out⟩
 (try clear HO_5)
 (try clear BK659)
 (try clear BK664)
 (try clear HB)
 generalize ((w19.setCell ⟨gb664,0,none⟩ (.int .i64 ((rd_T58 l1 x19_2).f0))).setCell ⟨gb664,1,none⟩ (.int .i64 ((rd_T58 l1 x19_2).f1)))=w22 at n0_ n1_ n2_ n3_⊢
 have HO_5:=n0_
 have BK659:=n1_
 have BK664:=n2_
 have HB:=n3_
 clear n0_ n1_ n2_ n3_
 replace HO_5:=ak (R_drew HO_5.out)
 replace BK659:=ak (blk_drew BK659.out)
 replace BK664:=ak (blk_drew BK664.out)
 replace HB:=ak (below_drew1 HB.out)
 refine start_ (n:=8) (S:=fun w'=>w'.cell? ⟨gb659,0,none⟩=some (.int .i64 a0_0)∧w'.cell? ⟨gb659,1,none⟩=some (.bool a0_1)∧w'.cell? ⟨gb664,0,none⟩=some (.int .i64 ((rd_T58 l1 x19_2).f0))∧w'.cell? ⟨gb664,1,none⟩=some (.int .i64 ((rd_T58 l1 x19_2).f1))) (ds:=[]) (lb 8 0) (by kernel_rfl) rfl rfl ⟨bc BK659 0 rfl,bc BK659 1 rfl,bc BK664 0 rfl,bc BK664 1 rfl⟩ (fun hHeld=>?_);refine with_tabW impl_Road_seen.tab8 impl_Road_seen.bits8 (fun HT_ HW_=>?_)
 generalize w22.drew=w23 at HO_5 BK659 BK664 HB hHeld⊢
 refine pq 1 (N:=some 24) (lb 8 2) HT_ ?_
 refine pq 3 (N:=some 26) (lb 8 10) HT_ ?_
 refine pq 5 (N:=some 28) (lb 8 42) HT_ ?_
 refine tq 0 (N:=some 23) (lb 8 43) HT_ HW_ hHeld ?_
 refine tq 2 (N:=some 25) (lb 8 47) HT_ HW_ hHeld ?_
 refine tq 6 (N:=some 29) (lb 8 111) HT_ HW_ hHeld ?_
 refine one_ (i:=4) (N:=some 27) (lb 8 127) rfl rfl (one_of HT_.out (by kernel_rfl)) (by decide) (fun K hK=>?_)
 refine goes_ Try.func57 (by kernel_rfl) rfl #[.agg #[.int .i64 a0_0,.bool a0_1],.int .i64 ((rd_T58 l1 x19_2).f0),.int .i64 x14_1] (by rfl) rfl rfl gl ?_
 with_reducible refine(impl_Road_gap.calls a0_0 a0_1 ((rd_T58 l1 x19_2).f0) x14_1 t665 _ A14.out).mono ?_
 rintro e w24 ⟨rfl,hb⟩
 refine⟨_,rfl,?_⟩
 replace HO_5:=rb HO_5 hb
 replace BK659:=kb BK659 hb
 replace BK664:=kb BK664 hb
 replace HB:=ak (below_step (h2 HB.out GE659.out GE664.out) hb)
 (try clear hb)
 (try clear hb2)
 (try clear hk)
 (try clear hi)
 refine hK.out _ _ ⟨bc BK659 0 rfl,bc BK659 1 rfl,bc BK664 0 rfl,bc BK664 1 rfl⟩ (fun hHeld=>?_)
 clear hK K
 refine norm_ (a':=?_) ?_ ?_
 rotate_left
 ·show Act.put _ (some 27) _=_
  simp only[ap]
  rfl
 refine pq 7 (N:=some 30) (lb 8 255) HT_ ?_
 refine done_ (done_of HT_.out (by kernel_rfl)) ?_
 have p666:0≤(x14_1:Int):=od
 have q666:x14_1<(x5_2.length:Int):=od
 obtain⟨ad666,e666,hx666_0⟩:=Kd.at_int (R_reads' HO_5.out).2.2 x14_1 p666 q666
 cases e666
 replace p666:=eq_true p666
 replace q666:=eq_true q666
 have p18:0≤(x14_1:Int):=od
 have q18: (x14_1:Int)<((x5_2.length:Int):Int):=od
 obtain⟨go18,co18,eo18,gb18,gl18,cl18,HG18⟩:=R_form HO_5.out (by omega)
 (first|cases eo18|(injection eo18 with ea_ en_ ec_;(first|subst ea_|(injection ea_ with ea_;subst ea_));subst ec_;clear en_))
 have GB18:=Aside0.mk gb18
 clear gb18 gl18 HG18
 (first|simp only[add_plain]at hx666_0|skip)
 obtain⟨hx18_0,hf18_0⟩:=R_celln 0 HO_5.out (x14_1:Int) p18 q18
 replace p18:=eq_true p18
 replace q18:=eq_true q18
 obtain⟨hy25_,hz25_⟩:=R_celln 0 HO_5.out (x14_1:Int) (od) (od)
 have HP25:=R_putg HO_5.out (x14_1:Int) (wrap64 ((rd x5_2 x14_1)+1))
 try go_wp2_with (first|((with_reducible refine gate_store (t:=3) (p:=36) rfl ?_);refine store_event (t:=3) (p:=36) (v:=?vo_w26) (w1:=(w24.setCell ⟨go18,(x14_1:Int).toNat,none⟩ (.int .i64 (wrap64 ((rd x5_2 x14_1)+1))))) ?hg ?ho ?hn ?hr ?_;(case ho=>rfl);(case hg=>rfl);(case hn=>rfl);(case hr=>first|(go_simp;done)|(go_simp;rfl));intro w26 hw;have hg:w24.grownBy w26 (some go18):=(by rw[hw];exact HP25.2);have hp_:Kd.R (Kd.int .i64) 3 w26 w.heap.size (fun _=>True) (.slice (some ⟨go18,0,none⟩) x5_2.length co9) y667:=(by rw[hw,Ny667.out];exact HP25.1);clear HP25;replace BK659:=ak (blk_grown (g:=gb659) (o:=.cells #[.int .i64 a0_0,.bool a0_1] 27 (0,0)) (bm BK659.out) hg (R_ne HO_5.out BK659.out (by decide)));replace BK664:=ak (blk_grown (g:=gb664) (o:=.cells #[.int .i64 ((rd_T58 l1 x19_2).f0),.int .i64 ((rd_T58 l1 x19_2).f1)] 58 (0,0)) (bm BK664.out) hg (R_ne HO_5.out BK664.out (by decide)));replace HO_5:=ak hp_;replace HB:=ak ((by rw[hw];exact below_set (HB.out) GB18.out:Below w.heap.size w w26));clear hg hw hp_))
 (try simp only[←hl5_2])
 go_roundg k2
 case measure=>have:=HK1.out;have:=HK2.out;omega
 case rel=>exact⟨(y667),(wrap64 (x19_2+1)),fd,H',⟨by have:=HK1.out;have:=HK2.out;omega⟩,⟨by(try simp only[hl5_1]);(try simp only[hl5_2]);(with_reducible repeat(first|apply R_alloc|apply R_drewN|apply R_drew));exact HO_5.out⟩,⟨by(try simp only[hl5_1]);(try simp only[hl5_2]);exact bm BK659.out⟩,⟨h2 HB.out GE659.out GE664.out⟩⟩
def impl_StrengthOf.f (k:Nat) (a0_0:Int) (a0_1:Bool) (l1:List (S58)):Option (Int × Bool):=(impl_isGuarded.f k a0_0 a0_1 l1).bind fun t669=>(if t669=true then((impl_Road_seen.f k a0_0 a0_1 l1).bind fun t670=>((slices_Min_int_int.f k t670).bind fun t673=>(some (t673,true))))else(some (0,false)))
theorem impl_StrengthOf.mono:∀ a0 a1 a2 k,LeO (impl_StrengthOf.f k a0 a1 a2) (impl_StrengthOf.f (k+1) a0 a1 a2):=by
 intro a0 a1 a2 k
 unfold impl_StrengthOf.f
 repeat' (with_reducible first|exact impl_Road_seen.mono ..|exact impl_isGuarded.mono ..|exact slices_Min_int_int.mono ..|exact LeO.refl _|exact LeO.none _|refine LeO.ite ?_ ?_|refine LeO.bind ?_ (fun _=>?_))
set_option maxHeartbeats 8000000 in
set_option maxRecDepth 100000 in
theorem impl_StrengthOf.calls (k:Nat) (a0_0:Int) (a0_1:Bool) (A1:Option Addr) (c1:Nat) (l1:List (S58)) (r1:Int) (r2:Bool) (w:World) (hr1:Kd.C k58 w A1 l1.length l1) (hc1:l1.length≤c1) (h:impl_StrengthOf.f k a0_0 a0_1 l1=some (r1,r2)):
  Calls Try.prog 39 #[.agg #[.int .i64 a0_0,.bool a0_1],.slice A1 l1.length c1] w fun e w'=>e= .returned (.tuple #[.int .i64 r1,.bool r2])∧Below w.heap.size w w':=by
 have HR1:=Aside0.mk hr1
 have HC1:=Aside0.mk hc1
 clear hr1 hc1
 have HB:=Aside0.mk (Below.refl w.heap.size w)
 unfold impl_StrengthOf.f at h
 have H:=h
 clear h
 obtain⟨t669,A3,H⟩:=bd H;(try dsimp only at H)
 by_cases c4:t669=true
 rotate_left
 ·replace c4:=Bool.eq_false_iff.mpr c4
  subst c4
  rw[if_neg (show ¬(false=true)by decide)]at H
  simp only[Option.some.injEq,Prod.mk.injEq]at H
  obtain⟨rfl,rfl⟩:=H
  go_enter Try.func39,Try.ntmps39
  go_wp2_with (first|(refine bx 2 #[.int .i64 a0_0,.bool a0_1] 27 ?_;intro gb668 hg w14 hbox hb;have BK668:=ak hbox;have GE668:=gw HB hg;replace HB:=bs HB hb;clear hb hbox hg;have hcz15_0:=bc BK668 0 rfl;have hcz15_1:=bc BK668 1 rfl)|(refine gs 8 Try.func50 #[.agg #[.int .i64 a0_0,.bool a0_1],.slice A1 l1.length c1] ?_;(with_reducible refine(impl_isGuarded.calls k a0_0 a0_1 _ _ l1 false _ ?side1 ?side2 A3.out).mono ?_);(case side1=>exact cm (C_below HR1.out HB.out));(case side2=>exact HC1.out);rintro e w16 ⟨rfl,hb⟩;refine⟨_,rfl,?_⟩;replace BK668:=kb BK668 hb;replace HB:=ak (below_step (h1 HB.out GE668.out) hb);(try clear hb);(try clear hk);(try clear hi)))
  go_ret2
  exact⟨fe,h1 HB.out GE668.out⟩
 subst c4
 rw[if_pos rfl]at H
 obtain⟨t670,A5,H⟩:=bd H;(try dsimp only at H)
 obtain⟨t673,A6,H⟩:=bd H;(try dsimp only at H)
 simp only[Option.some.injEq,Prod.mk.injEq]at H
 obtain⟨rfl,rfl⟩:=H
 go_enter Try.func39,Try.ntmps39
 go_wp2_with (first|(refine bx 2 #[.int .i64 a0_0,.bool a0_1] 27 ?_;intro gb668 hg w7 hbox hb;have BK668:=ak hbox;have GE668:=gw HB hg;replace HB:=bs HB hb;clear hb hbox hg;have hcz8_0:=bc BK668 0 rfl;have hcz8_1:=bc BK668 1 rfl)|(refine gs 8 Try.func50 #[.agg #[.int .i64 a0_0,.bool a0_1],.slice A1 l1.length c1] ?_;(with_reducible refine(impl_isGuarded.calls k a0_0 a0_1 _ _ l1 true _ ?side1 ?side2 A3.out).mono ?_);(case side1=>exact cm (C_below HR1.out HB.out));(case side2=>exact HC1.out);rintro e w9 ⟨rfl,hb⟩;refine⟨_,rfl,?_⟩;replace BK668:=kb BK668 hb;replace HB:=ak (below_step (h1 HB.out GE668.out) hb);(try clear hb);(try clear hk);(try clear hi);have hcz10_0:=bc BK668 0 rfl;have hcz10_1:=bc BK668 1 rfl)|(refine gs 12 Try.func75 #[.agg #[.int .i64 a0_0,.bool a0_1],.slice A1 l1.length c1] ?_;(with_reducible refine(impl_Road_seen.calls k a0_0 a0_1 _ _ l1 t670 _ ?side1 ?side2 A5.out).mono ?_);(case side1=>exact cm (C_below HR1.out HB.out));(case side2=>exact HC1.out);rintro e w11 ⟨v671,rfl,ho0,hb⟩;refine⟨_,rfl,?_⟩;have HO672:=ak (R_lower ho0 (below_size (h1 HB.out GE668.out)));replace BK668:=kb BK668 hb;replace HB:=ak (below_step (h1 HB.out GE668.out) hb);(try clear hb);(try clear hk);(try clear hi);(try clear ho0);obtain⟨Ao12,co12,eo12⟩:=R_slice HO672.out;subst eo12)|(refine gs 13 Try.func74 #[.slice Ao12 t670.length co12] ?_;(with_reducible refine(slices_Min_int_int.calls k _ _ t670 t673 _ ?side1 ?side2 A6.out).mono ?_);(case side1=>exact cm (R_reads' HO672.out).2.2);(case side2=>exact(R_reads' HO672.out).2.1);rintro e w13 ⟨rfl,hb⟩;refine⟨_,rfl,?_⟩;replace HO672:=rb HO672 hb;replace BK668:=kb BK668 hb;replace HB:=ak (below_step (h1 HB.out GE668.out) hb);(try clear hb);(try clear hk);(try clear hi)))
 go_ret2
 exact⟨fe,h1 HB.out GE668.out⟩
def impl_Road_mirror.f (a0_0:Int) (a0_1:Bool) (a1:Int):Option (Int):=some (wrap64 ((wrap64 (a0_0-1))-a1))
set_option maxHeartbeats 8000000 in
set_option maxRecDepth 100000 in
theorem impl_Road_mirror.calls (a0_0:Int) (a0_1:Bool) (a1:Int) (r:Int) (w:World) (h:impl_Road_mirror.f a0_0 a0_1 a1=some r):
  Calls Try.prog 76 #[.agg #[.int .i64 a0_0,.bool a0_1],.int .i64 a1] w fun e w'=>e= .returned (.int .i64 r)∧Below w.heap.size w w':=by
 have HB:=Aside0.mk (Below.refl w.heap.size w)
 unfold impl_Road_mirror.f at h
 have H:=h
 clear h
 obtain rfl:=Option.some.inj H
 go_enter Try.func76,Try.ntmps76
 go_wp2_with (first|(refine bx 2 #[.int .i64 a0_0,.bool a0_1] 27 ?_;intro gb674 hg w3 hbox hb;have BK674:=ak hbox;have GE674:=gw HB hg;replace HB:=bs HB hb;clear hb hbox hg;have hcz4_0:=bc BK674 0 rfl))
 go_ret
 exact⟨fe,h1 HB.out GE674.out⟩
end
section
open Kd
def impl_MirrorSensors.l0:Nat→List (S58)→List (S58)→Int→Int→Int→Bool→Option ((List (S58))× Bool)
 | 0,_,_,_,_,_,_=>none
 | k+1,x6,x14,x15,x16,x676000,x676001=>if x16<x15 then(if 0≤x16 then(if x16<(x14.length:Int)then((impl_Road_mirror.f x676000 x676001 ((rd_T58 x14 x16).f0)).bind fun t682=>(if x6.length<8796093022208 then(impl_MirrorSensors.l0 k (x6++[(⟨t682,(rd_T58 x14 x16).f1⟩:S58)]) x14 x15 (wrap64 (x16+1)) x676000 x676001)else(none)))else(none))else(none))else(some (x6,true))
def impl_MirrorSensors.f (k:Nat) (a0_0:Int) (a0_1:Bool) (l1:List (S58)):Option ((List (S58))× Bool):=(impl_isGuarded.f k a0_0 a0_1 l1).bind fun t676=>(if t676=true then(impl_MirrorSensors.l0 k (([]:List (S58))) l1 (l1.length:Int) 0 a0_0 a0_1)else(some (([]:List (S58)),false)))
theorem impl_MirrorSensors.mono_l:∀ k,(∀ y0 y1 y2 y3 y4 y5,LeO (impl_MirrorSensors.l0 k y0 y1 y2 y3 y4 y5) (impl_MirrorSensors.l0 (k+1) y0 y1 y2 y3 y4 y5))
 | 0=>by
  refine ?_<;>(intros;intro r h;simp[impl_MirrorSensors.l0]at h)
 | k+1=>by
  have ih0:=impl_MirrorSensors.mono_l k
  refine ?_<;>intros<;>unfold impl_MirrorSensors.l0<;>(repeat' (with_reducible first|exact ih0 ..|exact impl_isGuarded.mono ..|exact LeO.refl _|exact LeO.none _|refine LeO.ite ?_ ?_|refine LeO.bind ?_ (fun _=>?_)))
theorem impl_MirrorSensors.mono:∀ a0 a1 a2 k,LeO (impl_MirrorSensors.f k a0 a1 a2) (impl_MirrorSensors.f (k+1) a0 a1 a2):=by
 intro a0 a1 a2 k
 have ih0:=impl_MirrorSensors.mono_l k
 unfold impl_MirrorSensors.f
 repeat' (with_reducible first|exact ih0 ..|exact impl_isGuarded.mono ..|exact LeO.refl _|exact LeO.none _|refine LeO.ite ?_ ?_|refine LeO.bind ?_ (fun _=>?_))
def impl_MirrorSensors.T7:Bool × List (List Nat × List Nat):=(true,[([],[]),([],[]),([],[]),([2],[2]),([1,3],[1,3]),([],[]),([5],[5]),([4,6],[4,6]),([7],[7]),([0,8,4],[0,8]),([9,9,0,1,2,3,4,5,6,7,8,9],[0,9])])
def impl_MirrorSensors.B7:List Nat:=[0,0,0,4,14,0,32,126,254,511,1023]
theorem impl_MirrorSensors.tab7:rtab .any (opsOf Try.f40 7)=impl_MirrorSensors.T7:=by kernel_rfl
theorem impl_MirrorSensors.bits7:waitsOk impl_MirrorSensors.T7.2 impl_MirrorSensors.B7=true:=by kernel_rfl
set_option maxHeartbeats 8000000 in
set_option maxRecDepth 100000 in
theorem impl_MirrorSensors.calls (k:Nat) (a0_0:Int) (a0_1:Bool) (A1:Option Addr) (c1:Nat) (l1:List (S58)) (r1:List (S58)) (r2:Bool) (w:World) (hr1:Kd.C k58 w A1 l1.length l1) (hc1:l1.length≤c1) (h:impl_MirrorSensors.f k a0_0 a0_1 l1=some (r1,r2)):
  Calls Try.prog 40 #[.agg #[.int .i64 a0_0,.bool a0_1],.slice A1 l1.length c1] w fun e w'=>∃ v0_:Value,e= .returned (.tuple #[v0_,.bool r2])∧Kd.R k58 58 w' w.heap.size (fun _=>True) v0_ r1∧Below w.heap.size w w':=by
 have HR1:=Aside0.mk hr1
 have HC1:=Aside0.mk hc1
 clear hr1 hc1
 have HB:=Aside0.mk (Below.refl w.heap.size w)
 unfold impl_MirrorSensors.f at h
 have H:=h
 clear h
 obtain⟨t676,A3,H⟩:=bd H;(try dsimp only at H)
 by_cases c4:t676=true
 rotate_left
 ·replace c4:=Bool.eq_false_iff.mpr c4
  subst c4
  rw[if_neg (show ¬(false=true)by decide)]at H
  simp only[Option.some.injEq,Prod.mk.injEq]at H
  obtain⟨rfl,rfl⟩:=H
  go_enter Try.func40,Try.ntmps40
  go_wp2_with (first|(refine bx 2 #[.int .i64 a0_0,.bool a0_1] 27 ?_;intro gb675 hg w22 hbox hb;have BK675:=ak hbox;have GE675:=gw HB hg;replace HB:=bs HB hb;clear hb hbox hg;have hcz23_0:=bc BK675 0 rfl;have hcz23_1:=bc BK675 1 rfl)|(refine gs 11 Try.func50 #[.agg #[.int .i64 a0_0,.bool a0_1],.slice A1 l1.length c1] ?_;(with_reducible refine(impl_isGuarded.calls k a0_0 a0_1 _ _ l1 false _ ?side1 ?side2 A3.out).mono ?_);(case side1=>exact cm (C_below HR1.out HB.out));(case side2=>exact HC1.out);rintro e w24 ⟨rfl,hb⟩;refine⟨_,rfl,?_⟩;replace BK675:=kb BK675 hb;replace HB:=ak (below_step (h1 HB.out GE675.out) hb);(try clear hb);(try clear hk);(try clear hi)))
  go_ret2
  exact⟨_,fe,by first|exact R_nil _ _ _ _ _|exact Kd.N_nil _ _ _ _ _|exact Kd.V_nil _ _ _ _ _|exact Kd.Q_nil _ _ _ _ _|exact Kd.S_nil _ _ _ _ _,h1 HB.out GE675.out⟩
 subst c4
 rw[if_pos rfl]at H
 generalize hy677: ([]:List (S58))=y677 at H
 have Ny677:=ak hy677.symm
 clear hy677
 have H':=Aside0.mk H
 clear H
 go_enter Try.func40,Try.ntmps40
 go_wp2_with (first|(refine bx 2 #[.int .i64 a0_0,.bool a0_1] 27 ?_;intro gb675 hg w5 hbox hb;have BK675:=ak hbox;have GE675:=gw HB hg;replace HB:=bs HB hb;clear hb hbox hg;have hcz6_0:=bc BK675 0 rfl;have hcz6_1:=bc BK675 1 rfl)|(refine gs 11 Try.func50 #[.agg #[.int .i64 a0_0,.bool a0_1],.slice A1 l1.length c1] ?_;(with_reducible refine(impl_isGuarded.calls k a0_0 a0_1 _ _ l1 true _ ?side1 ?side2 A3.out).mono ?_);(case side1=>exact cm (C_below HR1.out HB.out));(case side2=>exact HC1.out);rintro e w7 ⟨rfl,hb⟩;refine⟨_,rfl,?_⟩;replace BK675:=kb BK675 hb;replace HB:=ak (below_step (h1 HB.out GE675.out) hb);(try clear hb);(try clear hk);(try clear hi))|((with_reducible refine gate_dst (N:=13) rfl ?_);refine R_lit k58 _ 58 ?hg (N:=13) ?hd (xs:=([]:List (S58))) (inner:=[]) (ok:=fun _=>True) (okp:=fun _=>True) ?hr ?hp (fun _ hk=>hk) trivial (Below.refl _ _) (Nat.le_refl _) (by simp) ?_;(case hd=>rfl);(case hg=>rfl);(case hr=>first|(go_simp;done)|(go_simp;rfl));(case hp=>exact(Reps.none _ _));intro v678 w8 ho9 hb hg_ hnew_;clear hg_ hnew_;(first|rw[←Ny677.out]at ho9|(simp only[Int.reduceToNat]at ho9;rw[←Ny677.out]at ho9));have HO679:=ak (R_lower ho9 (below_size (h1 HB.out GE675.out)));replace BK675:=kb BK675 hb;replace HB:=ak (below_step (h1 HB.out GE675.out) hb);clear hb ho9))
 go_loopg [6,16] k (fun kq v6 v16 w'=>∃ (x6_1:List (S58)) (x16_1:Int),v16= .int .i64 x16_1∧Aside0 (impl_MirrorSensors.l0 kq x6_1 l1 (l1.length:Int) x16_1 a0_0 a0_1=some (r1,r2))∧Aside0 (kq≤k)∧Aside0 (Kd.R k58 58 w' w.heap.size (fun _=>True) v6 x6_1)∧Aside0 (w'.heap[gb675]? =some (.cells #[.int .i64 a0_0,.bool a0_1] 27 (0,0)))∧Aside0 (Below w.heap.size w w'))
 case atStart=>exact⟨(y677),(0),fd,H',⟨Nat.le_refl _⟩,⟨rm HO679.out⟩,⟨bm BK675.out⟩,⟨h1 HB.out GE675.out⟩⟩
 clear H'
 obtain⟨x6_1,x16_1,rfl,HA,HK1,HO_6,BK675,HB⟩:=hrel
 obtain _|k1:=gk;·cases HA.out
 obtain⟨H⟩:=HA
 simp only[impl_MirrorSensors.l0]at H
 by_cases c10:x16_1<(l1.length:Int)
 rotate_left
 ·rw[if_neg c10]at H
  have c10b0:decide (x16_1<(l1.length:Int))=false:=decide_eq_false c10
  clear c10
  simp only[Option.some.injEq,Prod.mk.injEq]at H
  obtain⟨rfl,rfl⟩:=H
  go_wp2
  go_ret2
  exact⟨_,fe,rm HO_6.out,h1 HB.out GE675.out⟩
 rw[if_pos c10]at H
 clear c10
 obtain⟨c11,H⟩:=gi H
 have c11b0:decide (0≤x16_1)=true:=decide_eq_true c11
 clear c11
 obtain⟨c12,H⟩:=gi H
 have c12b0:decide (x16_1<(l1.length:Int))=true:=decide_eq_true c12
 clear c12
 obtain⟨t682,A13,H⟩:=bd H;(try dsimp only at H)
 obtain⟨c14,H⟩:=gi H
 have LMc14:=Aside0.mk c14
 clear c14
 generalize hy683: (x6_1++[(⟨t682,(rd_T58 l1 x16_1).f1⟩:S58)]:List (S58))=y683 at H
 have Ny683:=ak hy683.symm
 clear hy683
 have H':=Aside0.mk H
 clear H
 have p680:0≤(x16_1:Int):=od
 have q680:x16_1<(l1.length:Int):=od
 obtain⟨ad680,e680,hx680_0,hx680_1⟩:=at_T58 HR1.out x16_1 p680 q680
 cases e680
 replace hx680_0:=hc HB hx680_0
 replace hx680_1:=hc HB hx680_1
 replace p680:=eq_true p680
 replace q680:=eq_true q680
 try go_wp2_with (first|(refine bx 8 #[.int .i64 0,.int .i64 0] 58 ?_;intro gb681 hg w15 hbox hb;replace HO_6:=ak (R_below (R_elderB (rm HO_6.out) gb681 (Nat.le_of_eq hg.symm)) hb);have BK681:=ak hbox;have GE681:=ak ((by rw[hg];exact(below_size (h1 HB.out GE675.out)):w.heap.size≤gb681));replace HB:=ak (below_step (h1 HB.out GE675.out) hb);have NB675_681:=nl BK675 hg;have NB681_675:=ng BK675 hg;replace BK675:=kb BK675 hb;clear hb hbox hg;have hcz17_0:=bc BK681 0 rfl;have hcz17_1:=bc BK681 1 rfl;have hfz17_0:=bf BK681 0;have hfz17_1:=bf BK681 1))
 have n0_:Aside0 (Kd.R k58 58 ((w15.setCell ⟨gb681,0,none⟩ (.int .i64 ((rd_T58 l1 x16_1).f0))).setCell ⟨gb681,1,none⟩ (.int .i64 ((rd_T58 l1 x16_1).f1))) w.heap.size (fun k_=>k_≠gb681) u6 x6_1):=⟨by(with_reducible repeat(first|apply R_alloc|apply R_drewN|apply R_drew));exact R_mono (R_far (p:=⟨gb681,1,none⟩) (R_far (p:=⟨gb681,0,none⟩) (R_mono HO_6.out (fun k_ hk=>(⟨hk,hk.2⟩:_∧k_≠gb681))) (fun _ hk=>hk.2) (.int .i64 ((rd_T58 l1 x16_1).f0))) (fun _ hk=>hk.2) (.int .i64 ((rd_T58 l1 x16_1).f1))) (fun _ hk=>hk.1.2)⟩
 have n1_:Aside0 (((w15.setCell ⟨gb681,0,none⟩ (.int .i64 ((rd_T58 l1 x16_1).f0))).setCell ⟨gb681,1,none⟩ (.int .i64 ((rd_T58 l1 x16_1).f1))).heap[gb675]? =some (.cells #[.int .i64 a0_0,.bool a0_1] 27 (0,0))):=⟨by(with_reducible repeat(first|apply blk_drewN|apply blk_drew|apply blk_alloc));refine blk_far ?_ NB675_681.out _;(with_reducible repeat(first|apply blk_drewN|apply blk_drew|apply blk_alloc));refine blk_far ?_ NB675_681.out _;exact bm BK675.out⟩
 have n2_:Aside0 (((w15.setCell ⟨gb681,0,none⟩ (.int .i64 ((rd_T58 l1 x16_1).f0))).setCell ⟨gb681,1,none⟩ (.int .i64 ((rd_T58 l1 x16_1).f1))).heap[gb681]? =some (.cells #[.int .i64 ((rd_T58 l1 x16_1).f0),.int .i64 ((rd_T58 l1 x16_1).f1)] 58 (0,0))):=⟨by(with_reducible repeat(first|apply blk_drewN|apply blk_drew|apply blk_alloc));refine blk_put (cs:=#[.int .i64 ((rd_T58 l1 x16_1).f0),.int .i64 0]) ?_ 1 _ rfl;(with_reducible repeat(first|apply blk_drewN|apply blk_drew|apply blk_alloc));refine blk_put (cs:=#[.int .i64 0,.int .i64 0]) ?_ 0 _ rfl;exact bm BK681.out⟩
 have n3_:Aside0 (Below w.heap.size w ((w15.setCell ⟨gb681,0,none⟩ (.int .i64 ((rd_T58 l1 x16_1).f0))).setCell ⟨gb681,1,none⟩ (.int .i64 ((rd_T58 l1 x16_1).f1)))):=⟨h2 HB.out GE675.out GE681.out⟩
 (try clear HO_6)
 (try clear BK675)
 (try clear BK681)
 (try clear HB)
 generalize ((w15.setCell ⟨gb681,0,none⟩ (.int .i64 ((rd_T58 l1 x16_1).f0))).setCell ⟨gb681,1,none⟩ (.int .i64 ((rd_T58 l1 x16_1).f1)))=w18 at n0_ n1_ n2_ n3_⊢
 have HO_6:=n0_
 have BK675:=n1_
 have BK681:=n2_
 have HB:=n3_
 clear n0_ n1_ n2_ n3_
 replace HO_6:=ak (R_drew HO_6.out)
 replace BK675:=ak (blk_drew BK675.out)
 replace BK681:=ak (blk_drew BK681.out)
 replace HB:=ak (below_drew1 HB.out)
 refine start_ (n:=11) (S:=fun w'=>w'.cell? ⟨gb675,0,none⟩=some (.int .i64 a0_0)∧w'.cell? ⟨gb675,1,none⟩=some (.bool a0_1)∧w'.cell? ⟨gb681,0,none⟩=some (.int .i64 ((rd_T58 l1 x16_1).f0))∧w'.cell? ⟨gb681,1,none⟩=some (.int .i64 ((rd_T58 l1 x16_1).f1))) (ds:=[]) (lb 11 0) (by kernel_rfl) rfl rfl ⟨bc BK675 0 rfl,bc BK675 1 rfl,bc BK681 0 rfl,bc BK681 1 rfl⟩ (fun hHeld=>?_);refine with_tabW impl_MirrorSensors.tab7 impl_MirrorSensors.bits7 (fun HT_ HW_=>?_)
 generalize w18.drew=w19 at HO_6 BK675 BK681 HB hHeld⊢
 refine pq 0 (N:=some 20) (lb 11 1) HT_ ?_
 refine pq 2 (N:=some 22) (lb 11 5) HT_ ?_
 refine pq 5 (N:=some 25) (lb 11 37) HT_ ?_
 refine tq 1 (N:=some 21) (lb 11 39) HT_ HW_ hHeld ?_
 refine tq 3 (N:=some 23) (lb 11 47) HT_ HW_ hHeld ?_
 refine tq 6 (N:=some 26) (lb 11 111) HT_ HW_ hHeld ?_
 refine one_ (i:=4) (N:=some 24) (lb 11 127) rfl rfl (one_of HT_.out (by kernel_rfl)) (by decide) (fun K hK=>?_)
 refine goes_ Try.func76 (by kernel_rfl) rfl #[.agg #[.int .i64 a0_0,.bool a0_1],.int .i64 ((rd_T58 l1 x16_1).f0)] (by rfl) rfl rfl gl ?_
 with_reducible refine(impl_Road_mirror.calls a0_0 a0_1 ((rd_T58 l1 x16_1).f0) t682 _ A13.out).mono ?_
 rintro e w20 ⟨rfl,hb⟩
 refine⟨_,rfl,?_⟩
 replace HO_6:=rb HO_6 hb
 replace BK675:=kb BK675 hb
 replace BK681:=kb BK681 hb
 replace HB:=ak (below_step (h2 HB.out GE675.out GE681.out) hb)
 (try clear hb)
 (try clear hb2)
 (try clear hk)
 (try clear hi)
 refine hK.out _ _ ⟨bc BK675 0 rfl,bc BK675 1 rfl,bc BK681 0 rfl,bc BK681 1 rfl⟩ (fun hHeld=>?_)
 clear hK K
 refine norm_ (a':=?_) ?_ ?_
 rotate_left
 ·show Act.put _ (some 24) _=_
  simp only[ap]
  rfl
 refine pq 7 (N:=some 27) (lb 11 255) HT_ ?_
 refine one_ (i:=8) (N:=some 28) (lb 11 511) rfl rfl (one_of HT_.out (by kernel_rfl)) (by decide) (fun K hK=>?_)
 refine value_ (w1:=?_) (v:=?_) (by rfl) rfl ?_ ?_
 rotate_left 2
 ·go_simp
  constructor
  rotate_left
  ·rfl
  rfl
 refine hK.out _ _ ⟨(blk_cell (blk_alloc BK675.out _) 0).trans rfl,(blk_cell (blk_alloc BK675.out _) 1).trans rfl,(blk_cell (blk_alloc BK681.out _) 0).trans rfl,(blk_cell (blk_alloc BK681.out _) 1).trans rfl⟩ (fun hHeld=>?_)
 clear hK K
 refine norm_ (a':=?_) ?_ ?_
 rotate_left
 ·show Act.put _ (some 28) _=_
  simp only[ap]
  rfl
 refine one_ (i:=9) (N:=some 29) (lb 11 1023) rfl rfl (one_of HT_.out (by kernel_rfl)) (by decide) (fun K hK=>?_)
 refine R_append_step k58 (w0:=w) w.heap.size (by rfl) (.tmp 20) (.tmp 28) 36 58 (.agg #[(.int .i64 0),(.int .i64 0)]) 16 rfl Try.underlying36 info58 rfl (by decide) (by omega) u6 x6_1 (⟨t682,(rd_T58 l1 x16_1).f1⟩:S58) [.int .i64 t682,.int .i64 ((rd_T58 l1 x16_1).f1)] (fun k_=>k_≠gb681) (fun _=>False) rfl rfl ?aP (fun _ hk=>hk.elim) ?aF ?aO ?aB ?aS ?aL ?_
 (case aP=>exact k58_mkM _ _ _ (⟨t682,(rd_T58 l1 x16_1).f1⟩:S58))
 (case aB=>exact(h2 HB.out GE675.out GE681.out))
 (case aF=>exact(fun k_ hk=>Kd.freshB (g:=gb681) (o:=.cells #[.int .i64 ((rd_T58 l1 x16_1).f0),.int .i64 ((rd_T58 l1 x16_1).f1)] 58 (0,0)) (bm BK681.out) k_ hk))
 (case aO=>exact(rm HO_6.out))
 (case aS=>exact(below_size (h2 HB.out GE675.out GE681.out)))
 (case aL=>have:=LMc14.out;omega)
 intro v684 w21 ho hb hg hat
 rw[←Ny683.out]at ho
 replace BK675:=ak (blk_grown (g:=gb675) (o:=.cells #[.int .i64 a0_0,.bool a0_1] 27 (0,0)) (bm BK675.out) hg (R_ne HO_6.out BK675.out (by decide)))
 replace BK681:=ak (blk_grown (g:=gb681) (o:=.cells #[.int .i64 ((rd_T58 l1 x16_1).f0),.int .i64 ((rd_T58 l1 x16_1).f1)] 58 (0,0)) (bm BK681.out) hg (R_away HO_6.out (fun _ hk=>hk)))
 replace HB:=ak hb
 have HO685:=ak ho
 clear HO_6
 clear ho hb hg hat
 refine hK.out _ _ ⟨bc BK675 0 rfl,bc BK675 1 rfl,bc BK681 0 rfl,bc BK681 1 rfl⟩ (fun hHeld=>?_)
 clear hK K
 refine norm_ (a':=?_) ?_ ?_
 rotate_left
 ·show Act.put _ (some 29) _=_
  simp only[ap]
  rfl
 refine pq 10 (N:=some 6) (lb 11 2047) HT_ ?_
 refine done_ (done_of HT_.out (by kernel_rfl)) ?_
 try go_wp2
 go_roundg k1
 case measure=>have:=HK1.out;omega
 case rel=>exact⟨(y683),(wrap64 (x16_1+1)),fd,H',⟨by have:=HK1.out;omega⟩,⟨rm (R_mono HO685.out (fun _ hk=>trivial))⟩,⟨bm BK675.out⟩,⟨h2 HB.out GE675.out GE681.out⟩⟩
end
end Go.Proofs.Ytanfamfgdgcjpaa.QFnMoves
