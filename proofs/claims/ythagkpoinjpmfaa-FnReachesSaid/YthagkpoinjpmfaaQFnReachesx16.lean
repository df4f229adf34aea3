/- Functions that the law FnReaches comes to, and their walks: no condition but those named. -/
import Derived.Test.YthagkpoinjpmfaaQFnReachesx0
import Derived.Test.YthagkpoinjpmfaaQFnReachesx8
import Derived.Test.YthagkpoinjpmfaaQFnReachesx9
import Derived.Test.YthagkpoinjpmfaaQFnReachesx11
namespace Go.Proofs.Ythagkpoinjpmfaa.QFnReaches
open Go.RowKit Go.Proofs.YthagkpoinjpmfaaW.PrintWords Go.Proofs.YthagkpoinjpmfaaW.PrintLast Go.Proofs.YthagkpoinjpmfaaW.PrintMore Go.Proofs.Ythagkpoinjpmfaa.Short
attribute [local go_sem] max2_int min2_int max_two min_two max_three min_three max_four min_four
set_option linter.unusedVariables false
set_option linter.unusedSimpArgs false
section
open Kd
mutual
def spec_DrawOrderReach.l0:Nat→List (S63)→Int→List Int→Int→List Int→Int→Int→Int→Bool→Option (Int × Bool × (List (S63))× List Int × Int)
 | 0,_,_,_,_,_,_,_,_,_=>none
 | k+1,x8,x9,x11,x12,x638000,x638001,x638002,x648000,x648001=>if x12<(x8.length:Int)then((spec_l1Cur_pick.f x638000 x638001 x638002 (wrap64 ((x11.length:Int)+1))).bind fun bt651=>(if 0≤bt651.1 then(if bt651.1≤(x11.length:Int)then((spec_l1Own.f (x11.take (bt651.1:Int).toNat)).bind fun t658=>((some (([x12]:List Int):List Int)).bind fun y661=>(if t658.length+y661.length<17592186044416 then((some (t658++y661:List Int)).bind fun y664=>((some (x11.drop (bt651.1:Int).toNat:List Int)).bind fun y667=>(if y664.length+y667.length<17592186044416 then(spec_DrawOrderReach.l0 k x8 x9 (y664++y667) (wrap64 (x12+1)) x638000 bt651.2.1 bt651.2.2 x648000 x648001)else(none))))else(none))))else(none))else(none)))else(if(x11.length:Int)>0 then((spec_l1Cur_one.f x638000 x638001 x638002 4).bind fun bt674=>(spec_DrawOrderReach.j1 k x8 x9 x11 bt674.1 x638000 bt674.2.1 bt674.2.2 x648000 x648001))else(spec_DrawOrderReach.j1 k x8 x9 x11 false x638000 x638001 x638002 x648000 x648001))
def spec_DrawOrderReach.j1:Nat→List (S63)→Int→List Int→Bool→List Int→Int→Int→Int→Bool→Option (Int × Bool × (List (S63))× List Int × Int)
 | 0,_,_,_,_,_,_,_,_,_=>none
 | k+1,x8,x9,x11,x53,x638000,x638001,x638002,x648000,x648001=>if x53=true then(if 1≤(x11.length:Int)then(spec_DrawOrderReach.j2 k x8 x9 (x11.drop (1:Int).toNat) x638000 x638001 x638002 x648000 x648001)else(none))else(spec_DrawOrderReach.j2 k x8 x9 x11 x638000 x638001 x638002 x648000 x648001)
def spec_DrawOrderReach.j2:Nat→List (S63)→Int→List Int→List Int→Int→Int→Int→Bool→Option (Int × Bool × (List (S63))× List Int × Int)
 | 0,_,_,_,_,_,_,_,_=>none
 | k+1,x8,x9,x11,x638000,x638001,x638002,x648000,x648001=>(spec_l1Cur_one.f x638000 x638001 x638002 24).bind fun bt680=>(if bt680.1=true then((spec_l1Cur_among.f x638000 bt680.2.1 bt680.2.2 (([(-1),0,6]:List Int))).bind fun bt686=>(if x11.length<17592186044416 then(some (x648000,x648001,x8,(x11++[bt686.1]),x9))else(none)))else(some (x648000,x648001,x8,x11,x9)))
end
def spec_DrawOrderReach.f (k:Nat) (l0:List Int):Option (Int × Bool × (List (S63))× List Int × Int):=(spec_l1Cur_ask7.f k l0 0 0).bind fun bt638=>(spec_DrawOrderReach.l0 k bt638.2.2.1 bt638.2.2.2.1 (([]:List Int)) 0 l0 bt638.2.2.2.2.2.1 bt638.2.2.2.2.2.2 bt638.1 bt638.2.1)
theorem spec_DrawOrderReach.mono_l:∀ k,(∀ y0 y1 y2 y3 y4 y5 y6 y7 y8,LeO (spec_DrawOrderReach.l0 k y0 y1 y2 y3 y4 y5 y6 y7 y8) (spec_DrawOrderReach.l0 (k+1) y0 y1 y2 y3 y4 y5 y6 y7 y8))∧(∀ y0 y1 y2 y3 y4 y5 y6 y7 y8,LeO (spec_DrawOrderReach.j1 k y0 y1 y2 y3 y4 y5 y6 y7 y8) (spec_DrawOrderReach.j1 (k+1) y0 y1 y2 y3 y4 y5 y6 y7 y8))∧(∀ y0 y1 y2 y3 y4 y5 y6 y7,LeO (spec_DrawOrderReach.j2 k y0 y1 y2 y3 y4 y5 y6 y7) (spec_DrawOrderReach.j2 (k+1) y0 y1 y2 y3 y4 y5 y6 y7))
 | 0=>by
  refine⟨?_,?_,?_⟩<;>(intros;intro r h;simp[spec_DrawOrderReach.l0,spec_DrawOrderReach.j1,spec_DrawOrderReach.j2]at h)
 | k+1=>by
  obtain⟨ih0,ih1,ih2⟩:=spec_DrawOrderReach.mono_l k
  refine⟨?_,?_,?_⟩<;>intros<;>(first|unfold spec_DrawOrderReach.l0|unfold spec_DrawOrderReach.j1|unfold spec_DrawOrderReach.j2)<;>(repeat' (with_reducible first|exact ih0 ..|exact ih1 ..|exact ih2 ..|exact spec_l1Cur_ask7.mono ..|exact LeO.refl _|exact LeO.none _|refine LeO.ite ?_ ?_|refine LeO.bind ?_ (fun _=>?_)))
theorem spec_DrawOrderReach.mono:∀ a0 k,LeO (spec_DrawOrderReach.f k a0) (spec_DrawOrderReach.f (k+1) a0):=by
 intro a0 k
 obtain⟨ih0,ih1,ih2⟩:=spec_DrawOrderReach.mono_l k
 unfold spec_DrawOrderReach.f
 repeat' (with_reducible first|exact ih0 ..|exact ih1 ..|exact ih2 ..|exact spec_l1Cur_ask7.mono ..|exact LeO.refl _|exact LeO.none _|refine LeO.ite ?_ ?_|refine LeO.bind ?_ (fun _=>?_))
def spec_DrawOrderReach.T8:Bool × List (List Nat × List Nat):=(true,[([],[]),([],[]),([0,1],[0,1]),([2],[2]),([],[]),([4],[4]),([3,5,3],[3,5]),([],[]),([],[]),([7,8],[7,8]),([6,9,6],[6,9]),([10,10,0,1,2,3,4,5,6,7,8,9,10],[0,7,10])])
def spec_DrawOrderReach.B8:List Nat:=[0,0,3,7,0,16,63,0,0,384,1023,2047]
theorem spec_DrawOrderReach.tab8:rtab .any (opsOf Try.f41 8)=spec_DrawOrderReach.T8:=by kernel_rfl
theorem spec_DrawOrderReach.bits8:waitsOk spec_DrawOrderReach.T8.2 spec_DrawOrderReach.B8=true:=by kernel_rfl
set_option maxHeartbeats 8000000 in
set_option maxRecDepth 100000 in
theorem spec_DrawOrderReach.calls (k:Nat) (A0:Option Addr) (c0:Nat) (l0:List Int) (r1:Int) (r2:Bool) (r3:List (S63)) (r4:List Int) (r5:Int) (w:World) (hr0:Kd.C (Kd.int .u8) w A0 l0.length l0) (hc0:l0.length≤c0) (h:spec_DrawOrderReach.f k l0=some (r1,r2,r3,r4,r5)):
  Calls Try.prog 41 #[.slice A0 l0.length c0] w fun e w'=>∃ v2_ v3_:Value,e= .returned (.tuple #[.agg #[.int .i64 r1,.bool r2],v2_,v3_,.int .i64 r5])∧Kd.R k63 63 w' w.heap.size (fun _=>True) v2_ r3∧Kd.Q (Kd.int .i64) 3 w' w.heap.size (fun _=>True) v3_ r4∧Below w.heap.size w w':=by
 have hu28:=Try.underlying28
 have hu95:=Try.underlying95
 have HR0:=Aside0.mk hr0
 have HC0:=Aside0.mk hc0
 clear hr0 hc0
 have HB:=Aside0.mk (Below.refl w.heap.size w)
 unfold spec_DrawOrderReach.f at h
 have H:=h
 clear h
 obtain⟨⟨t638,t639,t640,t643,t644,t645,t646⟩,A2,H⟩:=bd H;(try dsimp only at H)
 generalize hy648: ([]:List Int)=y648 at H
 have Ny648:=ak hy648.symm
 clear hy648
 have H':=Aside0.mk H
 clear H
 go_enter Try.func41,Try.ntmps41
 go_wp2_with (first|(refine bx 2 #[.int .i64 0,.bool false] 28 ?_;intro gb636 hg w3 hbox hb;have BK636:=ak hbox;have GW636:=gw HB hg;have GE636:=gw HB hg;replace HB:=bs HB hb;clear hb hbox hg)|(refine bx 16 #[.slice A0 l0.length c0,.int .i64 0,.int .u64 0] 95 ?_;intro gb637 hg w4 hbox hb;have NB636_637:=nl BK636 hg;have NB637_636:=ng BK636 hg;replace BK636:=kb BK636 hb;have HI637:=ak ((⟨_,_,hbox,(by rw[hg];exact(below_size (h1 HB.out GE636.out)):w.heap.size≤gb637),HR0.out⟩:IsS95 w w4 gb637 l0 0 0));replace HB:=ak (below_step (h1 HB.out GE636.out) hb);clear hb hbox hg)|(refine gs 19 Try.func73 #[.pointer (some ⟨gb637,0,none⟩)] ?_;(with_reducible refine(spec_l1Cur_ask7.calls k gb637 l0 0 0 t638 t639 t640 t643 t644 t645 t646 w _ ?side1 ?side2 A2.out).mono ?_);(case side1=>exact IsS95.now HI637.out);(case side2=>exact h2 HB.out (IsS95.ge HI637.out) GE636.out);rintro e w5 ⟨v641,rfl,ho0,hi,hb,hk⟩;refine⟨_,rfl,?_⟩;replace BK636:=kk BK636 hk NB636_637;have HO642:=ak (R_lower ho0 (below_size (h2 HB.out (IsS95.ge HI637.out) GE636.out)));replace HB:=ak hb;replace HI637:=ak hi;(try clear hb);(try clear hk);(try clear hi);(try clear ho0))|(refine bx 7 #[.int .i64 0,.bool false] 28 ?_;intro gb647 hg w6 hbox hb;replace HO642:=rb HO642 hb;have BK647:=ak hbox;have GW647:=ak ((by rw[hg];exact(below_size (h2 HB.out (IsS95.ge HI637.out) GE636.out)):w.heap.size≤gb647));have GE647:=ak ((by rw[hg];exact(below_size (h2 HB.out (IsS95.ge HI637.out) GE636.out)):w.heap.size≤gb647));replace HB:=ak (below_step (h2 HB.out (IsS95.ge HI637.out) GE636.out) hb);have NB636_647:=nl BK636 hg;have NB647_636:=ng BK636 hg;replace BK636:=kb BK636 hb;have NB637_647:=ak ((by rw[hg];exact Nat.ne_of_lt (IsS95.lt (show IsS95 w _ gb637 l0 t645 t646 from by exact IsS95.now HI637.out)):gb637≠gb647));have NB647_637:=ak ((by rw[hg];exact Nat.ne_of_gt (IsS95.lt (show IsS95 w _ gb637 l0 t645 t646 from by exact IsS95.now HI637.out)):gb647≠gb637));replace HI637:=ak (IsS95.below (by exact IsS95.now HI637.out) hb);clear hb hbox hg;have hnb7:=NB647_636.out;have hnc7:=NB636_647.out;have hnb8:=NB647_637.out;have hnc8:=NB637_647.out;have hcz9_0:=bc BK647 0 rfl;have hcz9_1:=bc BK647 1 rfl;have hfz9_0:=bf BK647 0;have hfz9_1:=bf BK647 1)|((with_reducible refine gate_dst (N:=24) rfl ?_);refine R_lit (Kd.int .i64) _ 3 ?hg (N:=24) ?hd (xs:=([]:List Int)) (inner:=[]) (ok:=fun _=>True) (okp:=fun _=>True) ?hr ?hp (fun _ hk=>hk) trivial (Below.refl _ _) (Nat.le_refl _) (by simp) ?_;(case hd=>rfl);(case hg=>rfl);(case hr=>first|(go_simp;done)|(go_simp;rfl));(case hp=>exact(Reps.none _ _));intro v649 w10 ho11 hb hg_ hnew_;clear hg_ hnew_;(first|rw[←Ny648.out]at ho11|(simp only[Int.reduceToNat]at ho11;rw[←Ny648.out]at ho11));replace HO642:=ak (R_below (by(with_reducible repeat(first|apply R_alloc|apply R_drewN|apply R_drew));exact(R_mono (R_far (p:=⟨gb647,1,none⟩) (R_far (p:=⟨gb647,0,none⟩) (R_types HO642.out BK647.out (by decide)) (fun _ hk=>hk.2) (.int .i64 t638)) (fun _ hk=>hk.2) (.bool t639)) (fun _ h_=>h_.1))) hb);have HO650:=ak (R_lower ho11 (below_size (h3 HB.out (IsS95.ge HI637.out) GE636.out GE647.out)));replace BK636:=ak (blk_below (g:=gb636) (o:=.cells #[.int .i64 0,.bool false] 28 (0,0)) (by(with_reducible repeat(first|apply blk_drewN|apply blk_drew|apply blk_alloc));refine blk_far ?_ NB636_647.out _;(with_reducible repeat(first|apply blk_drewN|apply blk_drew|apply blk_alloc));refine blk_far ?_ NB636_647.out _;exact bm BK636.out) hb);replace BK647:=ak (blk_below (g:=gb647) (o:=.cells #[.int .i64 t638,.bool t639] 28 (0,0)) (by(with_reducible repeat(first|apply blk_drewN|apply blk_drew|apply blk_alloc));refine blk_put (cs:=#[.int .i64 t638,.bool false]) ?_ 1 _ rfl;(with_reducible repeat(first|apply blk_drewN|apply blk_drew|apply blk_alloc));refine blk_put (cs:=#[.int .i64 0,.bool false]) ?_ 0 _ rfl;exact bm BK647.out) hb);replace HB:=ak (below_step (h3 HB.out (IsS95.ge HI637.out) GE636.out GE647.out) hb);replace HI637:=ak (IsS95.below (show IsS95 w ((w6.setCell ⟨gb647,0,none⟩ (.int .i64 t638)).setCell ⟨gb647,1,none⟩ (.bool t639)) gb637 l0 t645 t646 from by exact IsS95.now HI637.out) hb);clear hb ho11))
 go_loopg [11,12] k (fun kq v11 v12 w'=>∃ (x11_1:List Int) (x12_1:Int) (x638001_1:Int) (x638002_1:Int),v12= .int .i64 x12_1∧Aside0 (spec_DrawOrderReach.l0 kq t640 t643 x11_1 x12_1 l0 x638001_1 x638002_1 t638 t639=some (r1,r2,r3,r4,r5))∧Aside0 (kq≤k)∧Aside0 (Kd.R k63 63 w' w.heap.size (fun _=>True) v641 t640)∧Aside0 (Kd.Q (Kd.int .i64) 3 w' w.heap.size (fun _=>True) v11 x11_1)∧Aside0 (w'.heap[gb636]? =some (.cells #[.int .i64 0,.bool false] 28 (0,0)))∧Aside0 (w'.heap[gb647]? =some (.cells #[.int .i64 t638,.bool t639] 28 (0,0)))∧Aside0 (IsS95 w w' gb637 l0 x638001_1 x638002_1)∧Aside0 (Below w.heap.size w w'))
 case atStart=>exact⟨(y648),(0),(t645),(t646),fd,H',⟨Nat.le_refl _⟩,⟨rm HO642.out⟩,⟨Kd.Q_of_R (rm HO650.out)⟩,⟨bm BK636.out⟩,⟨bm BK647.out⟩,⟨by exact IsS95.now HI637.out⟩,⟨h3 HB.out (IsS95.ge HI637.out) GE636.out GE647.out⟩⟩
 clear H'
 try clear p2
 try clear c4
 try clear c7
 try clear c8
 try clear hcz9_0
 try clear hcz9_1
 try clear hfz9_0
 try clear hfz9_1
 obtain⟨x11_1,x12_1,x638001_1,x638002_1,rfl,HA,HK1,HO_8,HO_11,BK636,BK647,HI637,HB⟩:=hrel
 obtain _|k1:=gk;·cases HA.out
 obtain⟨H⟩:=HA
 simp only[spec_DrawOrderReach.l0]at H
 by_cases c12:x12_1<(t640.length:Int)
 rotate_left
 ·rw[if_neg c12]at H
  have c12b0:decide (x12_1<(t640.length:Int))=false:=decide_eq_false c12
  clear c12
  have HC34:=Aside0.mk H
  clear H
  obtain⟨Ao35,co35,eo35⟩:=R_slice HO_8.out
  subst eo35
  go_upto_region 9 with(fail)
  go_cut [53] (fun v53 wc=>∃ (kq:Nat) (x53_33:Bool) (x638001_33:Int) (x638002_33:Int),v53= .bool x53_33∧Aside0 (spec_DrawOrderReach.j1 kq t640 t643 x11_1 x53_33 l0 x638001_33 x638002_33 t638 t639=some (r1,r2,r3,r4,r5))∧Aside0 (kq≤k1)∧Aside0 (Kd.R k63 63 wc w.heap.size (fun _=>True) (.slice Ao35 t640.length co35) t640)∧Aside0 (Kd.Q (Kd.int .i64) 3 wc w.heap.size (fun _=>True) u11 x11_1)∧Aside0 (wc.heap[gb636]? =some (.cells #[.int .i64 0,.bool false] 28 (0,0)))∧Aside0 (wc.heap[gb647]? =some (.cells #[.int .i64 t638,.bool t639] 28 (0,0)))∧Aside0 (IsS95 w wc gb637 l0 x638001_33 x638002_33)∧Aside0 (Below w.heap.size w wc))
  case first=>
   have H:=HC34.out
   clear HC34
   by_cases c36: (x11_1.length:Int)>0
   rotate_left
   ·rw[if_neg c36]at H
    have c36b0:decide (0<(x11_1.length:Int))=false:=decide_eq_false c36
    have c36b1:decide (0<x11_1.length)=false:=decide_eq_false (by omega)
    clear c36
    (first|rw[c36b0]|(simp only[i64_w,i32_w];rw[c36b0])|skip)
    have H':=Aside0.mk H
    clear H
    obtain⟨Ao40,co40,eo40,_⟩:=Kd.Q_slice HO_11.out
    subst eo40
    go_wp2
    go_meet
    case rel=>exact⟨_,(false),(x638001_1),(x638002_1),fd,H',⟨by first|exact Nat.le_refl _|(have:=HK1.out;omega)⟩,⟨rm HO_8.out⟩,⟨qm HO_11.out⟩,⟨bm BK636.out⟩,⟨bm BK647.out⟩,⟨by exact IsS95.now HI637.out⟩,⟨h3 HB.out (IsS95.ge HI637.out) GE636.out GE647.out⟩⟩
   rw[if_pos c36]at H
   have c36b0:decide (0<(x11_1.length:Int))=true:=decide_eq_true c36
   have c36b1:decide (0<x11_1.length)=true:=decide_eq_true (by omega)
   clear c36
   (first|rw[c36b0]|(simp only[i64_w,i32_w];rw[c36b0])|skip)
   obtain⟨⟨t674,t675,t676⟩,A37,H⟩:=bd H;(try dsimp only at H)
   have H':=Aside0.mk H
   clear H
   obtain⟨Ao38,co38,eo38,_⟩:=Kd.Q_slice HO_11.out
   subst eo38
   go_wp2_with (first|(go_at_call 81;(with_reducible refine(spec_l1Cur_one.calls gb637 l0 x638001_1 x638002_1 4 t674 t675 t676 w _ ?side1 ?side2 A37.out).mono ?_);(case side1=>exact IsS95.now HI637.out);(case side2=>exact h3 HB.out (IsS95.ge HI637.out) GE636.out GE647.out);rintro e w39 ⟨rfl,hi,hb,hk⟩;replace HO_8:=ak (R_mono (R_keep (IsS95.apart (show IsS95 w _ gb637 l0 x638001_1 x638002_1 from by exact IsS95.now HI637.out) (rm HO_8.out) (by decide)) hk (fun _ h=>h.2)) (fun _ h=>h.1));replace HO_11:=ak (Kd.Q_mono (Kd.Q_keep (IsS95.apartQ (show IsS95 w _ gb637 l0 x638001_1 x638002_1 from by exact IsS95.now HI637.out) (qm HO_11.out) (by decide)) hk (fun _ h=>h.2)) (fun _ h=>h.1));replace BK636:=kk BK636 hk NB636_637;replace BK647:=kk BK647 hk NB647_637;replace HB:=ak hb;replace HI637:=ak hi;(try clear hb);(try clear hk);(try clear hi)))
   go_meet
   case rel=>exact⟨_,(t674),(t675),(t676),fd,H',⟨by first|exact Nat.le_refl _|(have:=HK1.out;omega)⟩,⟨rm HO_8.out⟩,⟨qm HO_11.out⟩,⟨bm BK636.out⟩,⟨bm BK647.out⟩,⟨by exact IsS95.now HI637.out⟩,⟨h3 HB.out (IsS95.ge HI637.out) GE636.out GE647.out⟩⟩
  clear HC34
  try clear c1
  try clear c2
  try clear p2
  try clear q2
  try clear c3
  try clear c4
  try clear p6
  try clear c7
  try clear c8
  try clear c12
  try clear c12b0
  try clear c14
  try clear c14b0
  try clear c14b1
  try clear c15
  try clear c15b0
  try clear c15b1
  try clear c17
  try clear c18
  try clear c18b0
  try clear c19
  try clear c19b0
  try clear c20
  try clear q25
  try clear c26
  try clear q26
  try clear c36
  try clear c36b0
  try clear c36b1
  try clear hcz9_0
  try clear hcz9_1
  try clear hfz9_0
  try clear hfz9_1
  try clear p2
  try clear q026
  try clear q25
  try clear q26
  obtain⟨kq,x53_33,x638001_33,x638002_33,rfl,HA,HJ33,HO_8,HO_11,BK636,BK647,HI637,HB⟩:=hcut
  obtain _|kj33:=kq;·cases HA.out
  obtain⟨H⟩:=HA
  simp only[spec_DrawOrderReach.j1]at H
  have HC41:=Aside0.mk H
  clear H
  go_upto_if 53 with(fail)
  go_cut [11] (fun v11 wc=>∃ (kq:Nat) (x11_40:List Int),Aside0 (spec_DrawOrderReach.j2 kq t640 t643 x11_40 l0 x638001_33 x638002_33 t638 t639=some (r1,r2,r3,r4,r5))∧Aside0 (kq≤kj33)∧Aside0 (Kd.R k63 63 wc w.heap.size (fun _=>True) (.slice Ao35 t640.length co35) t640)∧Aside0 (Kd.Q (Kd.int .i64) 3 wc w.heap.size (fun _=>True) v11 x11_40)∧Aside0 (wc.heap[gb636]? =some (.cells #[.int .i64 0,.bool false] 28 (0,0)))∧Aside0 (wc.heap[gb647]? =some (.cells #[.int .i64 t638,.bool t639] 28 (0,0)))∧Aside0 (IsS95 w wc gb637 l0 x638001_33 x638002_33)∧Aside0 (Below w.heap.size w wc))
  case first=>
   have H:=HC41.out
   clear HC41
   by_cases c42:x53_33=true
   rotate_left
   ·replace c42:=Bool.eq_false_iff.mpr c42
    subst c42
    rw[if_neg (show ¬(false=true)by decide)]at H
    have H':=Aside0.mk H
    clear H
    go_wp2
    go_meet
    case rel=>exact⟨_,(x11_1),H',⟨by first|exact Nat.le_refl _|(have:=HK1.out;have:=HJ33.out;omega)⟩,⟨rm HO_8.out⟩,⟨qm HO_11.out⟩,⟨bm BK636.out⟩,⟨bm BK647.out⟩,⟨by exact IsS95.now HI637.out⟩,⟨h3 HB.out (IsS95.ge HI637.out) GE636.out GE647.out⟩⟩
   subst c42
   rw[if_pos rfl]at H
   obtain⟨c43,H⟩:=gi H
   have c43b0:=eq_true c43
   have c43b1:decide (1≤(x11_1.length:Int))=true:=decide_eq_true c43
   clear c43
   generalize hy677: (x11_1.drop (1:Int).toNat:List Int)=y677 at H
   have Ny677:=ak hy677.symm
   clear hy677
   have H':=Aside0.mk H
   clear H
   obtain⟨Ao44,co44,eo44,_⟩:=Kd.Q_slice HO_11.out
   subst eo44
   have q45: (1:Int)≤((x11_1.length:Int):Int):=od
   obtain⟨i045,hi045,_,hsz45,_⟩:=info_parts info3
   have hcut45:=cut_from (P:=Try.prog) 40 3 .i64 Try.underlying40 hi045 1 hsz45 Ao44 x11_1.length co44 1 (by omega) q45
   have hr45:=Kd.Q_drop (k:=(1:Int).toNat) HO_11.out (by omega)
   obtain⟨A45,hA45⟩:∃ A_,A_=(if co44=(1:Int).toNat then Ao44 else(Ao44:Option Addr).map (·.add ((1:Int).toNat*1))):=⟨_,rfl⟩
   obtain⟨c45,hc45⟩:∃ c1,c1=co44-(1:Int).toNat:=⟨_,rfl⟩
   have hy45:y677.length=x11_1.length-(1:Int).toNat:=(by rw[Ny677.out,List.length_drop])
   rw[←Ny677.out]at hr45
   rw[←hy45,←hA45,←hc45]at hcut45
   replace hr45:Kd.Q (Kd.int .i64) 3 wc w.heap.size (fun _=>True) (.slice A45 y677.length c45) y677:=(by rw[hA45,hc45,hy45];exact hr45)
   have HE45:Aside0 ((Value.slice A45 y677.length c45).ownBlock=(.slice Ao44 x11_1.length co44:Value).ownBlock):=⟨by rw[hA45];split<;>(cases(Ao44:Option Addr)<;>rfl)⟩
   clear hy45 hi045 hsz45 HO_11 hA45 hc45
   have HO679:=Aside0.mk hr45
   clear hr45
   replace q45:=eq_true q45
   go_wp2
   go_meet
   case rel=>exact⟨_,(y677),H',⟨by first|exact Nat.le_refl _|(have:=HK1.out;have:=HJ33.out;omega)⟩,⟨rm HO_8.out⟩,⟨qm HO679.out⟩,⟨bm BK636.out⟩,⟨bm BK647.out⟩,⟨by exact IsS95.now HI637.out⟩,⟨h3 HB.out (IsS95.ge HI637.out) GE636.out GE647.out⟩⟩
  clear HC41
  try clear c1
  try clear c2
  try clear p2
  try clear q2
  try clear c3
  try clear c4
  try clear q4
  try clear p6
  try clear c7
  try clear c8
  try clear c12
  try clear c12b0
  try clear c14
  try clear c14b0
  try clear c14b1
  try clear c15
  try clear c15b0
  try clear c15b1
  try clear c17
  try clear c18
  try clear c18b0
  try clear c19
  try clear c19b0
  try clear c20
  try clear q25
  try clear c26
  try clear q26
  try clear c36
  try clear c36b0
  try clear c36b1
  try clear c42
  try clear c43
  try clear c43b0
  try clear c43b1
  try clear c45
  try clear q45
  try clear hcz9_0
  try clear hcz9_1
  try clear hfz9_0
  try clear hfz9_1
  try clear p2
  try clear p6
  try clear q026
  try clear q2
  try clear q25
  try clear q26
  try clear q45
  obtain⟨kq,x11_40,HA,HJ40,HO_8,HO_11,BK636,BK647,HI637,HB⟩:=hcut
  obtain _|kj40:=kq;·cases HA.out
  obtain⟨H⟩:=HA
  simp only[spec_DrawOrderReach.j2]at H
  obtain⟨⟨t680,t681,t682⟩,A46,H⟩:=bd H;(try dsimp only at H)
  by_cases c47:t680=true
  rotate_left
  ·replace c47:=Bool.eq_false_iff.mpr c47
   subst c47
   rw[if_neg (show ¬(false=true)by decide)]at H
   simp only[Option.some.injEq,Prod.mk.injEq]at H
   obtain⟨rfl,rfl,rfl,rfl,rfl⟩:=H
   go_wp2_with (first|(refine gs 57 Try.func81 #[.pointer (some ⟨gb637,0,none⟩),.int .i64 24] ?_;(with_reducible refine(spec_l1Cur_one.calls gb637 l0 x638001_33 x638002_33 24 false t681 t682 w _ ?side1 ?side2 A46.out).mono ?_);(case side1=>exact IsS95.now HI637.out);(case side2=>exact h3 HB.out (IsS95.ge HI637.out) GE636.out GE647.out);rintro e w61 ⟨rfl,hi,hb,hk⟩;refine⟨_,rfl,?_⟩;replace HO_8:=ak (R_mono (R_keep (IsS95.apart (show IsS95 w _ gb637 l0 x638001_33 x638002_33 from by exact IsS95.now HI637.out) (rm HO_8.out) (by decide)) hk (fun _ h=>h.2)) (fun _ h=>h.1));replace HO_11:=ak (Kd.Q_mono (Kd.Q_keep (IsS95.apartQ (show IsS95 w _ gb637 l0 x638001_33 x638002_33 from by exact IsS95.now HI637.out) (qm HO_11.out) (by decide)) hk (fun _ h=>h.2)) (fun _ h=>h.1));replace BK636:=kk BK636 hk NB636_637;replace BK647:=kk BK647 hk NB647_637;replace HB:=ak hb;replace HI637:=ak hi;(try clear hb);(try clear hk);(try clear hi);have hnb62:=NB647_636.out;have hnc62:=NB636_647.out;have hnb63:=NB647_637.out;have hnc63:=NB637_647.out;have hcz64_0:=bc BK647 0 rfl;have hcz64_1:=bc BK647 1 rfl;have hfz64_0:=bf BK647 0;have hfz64_1:=bf BK647 1;have hnb65:=NB636_637.out;have hnc65:=NB637_636.out;have hcz66_0:=bc BK636 0 rfl;have hcz66_1:=bc BK636 1 rfl;have hfz66_0:=bf BK636 0;have hfz66_1:=bf BK636 1))
   refine bodyPost_ret (results_list (rs:=[.cell 2 28,.tmp 3,.tmp 4,.tmp 5]) rfl (by simp) (.cell gb636 28 #[.int .i64 t638,.bool t639] (0,0) _ rfl (by(with_reducible repeat(first|apply blk_drewN|apply blk_drew|apply blk_alloc));refine blk_put (cs:=#[.int .i64 t638,.bool false]) ?_ 1 _ rfl;(with_reducible repeat(first|apply blk_drewN|apply blk_drew|apply blk_alloc));refine blk_put (cs:=#[.int .i64 0,.bool false]) ?_ 0 _ rfl;exact bm BK636.out) Try.underlying28 rfl (by kernel_rfl) (.tmp (.tmp (.tmp .nil))))) rfl ?_
   exact⟨_,_,fe,by(with_reducible repeat(first|apply R_alloc|apply R_drewN|apply R_drew));exact R_mono (R_far (p:=⟨gb636,1,none⟩) (R_far (p:=⟨gb636,0,none⟩) (R_types HO_8.out BK636.out (by decide)) (fun _ hk=>hk.2) (.int .i64 t638)) (fun _ hk=>hk.2) (.bool t639)) (fun _ hk=>trivial),by(with_reducible repeat(first|apply Kd.Q_alloc|apply Kd.Q_drewN|apply Kd.Q_drew));exact Kd.Q_mono (Kd.Q_far (p:=⟨gb636,1,none⟩) (Kd.Q_far (p:=⟨gb636,0,none⟩) (Kd.Q_types HO_11.out BK636.out (by decide)) (fun _ hk=>hk.2) (.int .i64 t638)) (fun _ hk=>hk.2) (.bool t639)) (fun _ hk=>trivial),h3 HB.out (IsS95.ge HI637.out) GE636.out GE647.out⟩
  subst c47
  rw[if_pos rfl]at H
  generalize hy683: ([(-1),0,6]:List Int)=y683 at H
  have Ny683:=ak hy683.symm
  clear hy683
  obtain⟨⟨t686,t687,t688⟩,A48,H⟩:=bd H;(try dsimp only at H)
  obtain⟨c49,H⟩:=gi H
  have LMc49:=Aside0.mk c49
  clear c49
  generalize hy689: (x11_40++[t686]:List Int)=y689 at H
  have Ny689:=ak hy689.symm
  clear hy689
  simp only[Option.some.injEq,Prod.mk.injEq]at H
  obtain⟨rfl,rfl,rfl,rfl,rfl⟩:=H
  go_wp2_with (first|(refine gs 57 Try.func81 #[.pointer (some ⟨gb637,0,none⟩),.int .i64 24] ?_;(with_reducible refine(spec_l1Cur_one.calls gb637 l0 x638001_33 x638002_33 24 true t681 t682 w _ ?side1 ?side2 A46.out).mono ?_);(case side1=>exact IsS95.now HI637.out);(case side2=>exact h3 HB.out (IsS95.ge HI637.out) GE636.out GE647.out);rintro e w50 ⟨rfl,hi,hb,hk⟩;refine⟨_,rfl,?_⟩;replace HO_8:=ak (R_mono (R_keep (IsS95.apart (show IsS95 w _ gb637 l0 x638001_33 x638002_33 from by exact IsS95.now HI637.out) (rm HO_8.out) (by decide)) hk (fun _ h=>h.2)) (fun _ h=>h.1));replace HO_11:=ak (Kd.Q_mono (Kd.Q_keep (IsS95.apartQ (show IsS95 w _ gb637 l0 x638001_33 x638002_33 from by exact IsS95.now HI637.out) (qm HO_11.out) (by decide)) hk (fun _ h=>h.2)) (fun _ h=>h.1));replace BK636:=kk BK636 hk NB636_637;replace BK647:=kk BK647 hk NB647_637;replace HB:=ak hb;replace HI637:=ak hi;(try clear hb);(try clear hk);(try clear hi))|((with_reducible refine gate_dst (N:=60) rfl ?_);refine R_lit (Kd.int .i64) _ 3 ?hg (N:=60) ?hd (xs:=([(-1),0,6]:List Int)) (inner:=[.int .i64 (-1),.int .i64 0,.int .i64 6]) (ok:=fun _=>True) (okp:=fun _=>True) ?hr ?hp (fun _ hk=>hk) trivial (Below.refl _ _) (Nat.le_refl _) (by simp) ?_;(case hd=>rfl);(case hg=>rfl);(case hr=>first|(go_simp;done)|(go_simp;rfl));(case hp=>exact(Reps.one (show Kd.M (Kd.int .i64) _ _ _ (-1) [.int .i64 (-1)]from rfl) (Reps.one (show Kd.M (Kd.int .i64) _ _ _ 0 [.int .i64 0]from rfl) (Reps.one (show Kd.M (Kd.int .i64) _ _ _ 6 [.int .i64 6]from rfl) (Reps.none _ _)))));intro v684 w51 ho52 hb hg_ hnew_;clear hg_ hnew_;(first|rw[←Ny683.out]at ho52|(simp only[Int.reduceToNat]at ho52;rw[←Ny683.out]at ho52));replace HO_8:=rb HO_8 hb;have HO685:=ak (R_lower (R_new' ho52 (Kd.Q_lt (qm HO_11.out))) (below_size (h3 HB.out (IsS95.ge HI637.out) GE636.out GE647.out)));replace HO_11:=ak (Kd.Q_elder' (qm HO_11.out) (R_base ho52) hb);replace BK636:=kb BK636 hb;replace BK647:=kb BK647 hb;replace HB:=ak (below_step (h3 HB.out (IsS95.ge HI637.out) GE636.out GE647.out) hb);replace HI637:=ak (IsS95.below (by exact IsS95.now HI637.out) hb);clear hb ho52;obtain⟨Ao53,co53,eo53⟩:=R_slice HO685.out;subst eo53)|(refine gs 61 Try.func82 #[.pointer (some ⟨gb637,0,none⟩),.slice Ao53 y683.length co53] ?_;(with_reducible refine(spec_l1Cur_among.calls gb637 l0 t681 t682 _ _ y683 t686 t687 t688 w _ ?side1 ?side2 ?side3 ?side4 ?side5 A48.out).mono ?_);(case side1=>exact IsS95.now HI637.out);(case side2=>exact h3 HB.out (IsS95.ge HI637.out) GE636.out GE647.out);(case side3=>exact cm (R_reads' HO685.out).2.2);(case side4=>exact(R_reads' HO685.out).2.1);(case side5=>exact far_slice (IsS95.own_ne HI637.out HO685.out (by decide)));rintro e w54 ⟨rfl,hi,hb,hk⟩;refine⟨_,rfl,?_⟩;replace HO_8:=ak (R_mono (R_keep (IsS95.apart (show IsS95 w _ gb637 l0 t681 t682 from by exact IsS95.now HI637.out) (rm HO_8.out) (by decide)) hk (fun _ h=>h.2)) (fun _ h=>h.1));replace HO_11:=ak (Kd.Q_mono (Kd.Q_keep (IsS95.apartQ (show IsS95 w _ gb637 l0 t681 t682 from by exact IsS95.now HI637.out) (qm HO_11.out) (by decide)) hk (fun _ h=>h.2)) (fun _ h=>h.1));replace BK636:=kk BK636 hk NB636_637;replace BK647:=kk BK647 hk NB647_637;replace HO685:=ak (R_mono (R_keep (IsS95.apart (show IsS95 w _ gb637 l0 t681 t682 from by exact IsS95.now HI637.out) (rm HO685.out) (by decide)) hk (fun _ h=>h.2)) (fun _ h=>h.1));replace HB:=ak hb;replace HI637:=ak hi;(try clear hb);(try clear hk);(try clear hi))|((with_reducible refine gate_builtin (b:=.append) (xs:=#[.tmp 58,.tmp 62]) rfl ?_);at_builtin;refine Kd.Q_append (Kd.int .i64) (w0:=w) w.heap.size rfl (.tmp 58) (.tmp 62) 40 3 (.int .i64 0) 8 rfl Try.underlying40 info3 rfl (by decide) (by omega) u11 x11_40 t686 [.int .i64 t686] (fun k_=>ob k_ (.slice Ao53 y683.length co53)) (fun _=>False) rfl rfl ?aP (fun _ hk=>hk.elim) ?aF ?aO ?aB ?aS ?aL ?_;(case aP=>exact rfl);(case aB=>exact(h3 HB.out (IsS95.ge HI637.out) GE636.out GE647.out));(case aF=>exact(fun k_ hk=>Kd.fresh' (R_lt (rm HO685.out)) k_ hk));(case aO=>exact(qm (Kd.Q_mono HO_11.out (fun _ hk=>hk.2))));(case aS=>exact(below_size (h3 HB.out (IsS95.ge HI637.out) GE636.out GE647.out)));(case aL=>have:=LMc49.out;omega);intro v690 w55 ho hb hg hat;rw[←Ny689.out]at ho;replace HO_8:=ak (R_over' (rm HO_8.out) (Kd.Q_typed (qm HO_11.out)) (by decide) hg);replace BK636:=ak (blk_grown (g:=gb636) (o:=.cells #[.int .i64 0,.bool false] 28 (0,0)) (bm BK636.out) hg (Kd.Q_ne HO_11.out BK636.out (by decide)));replace BK647:=ak (blk_grown (g:=gb647) (o:=.cells #[.int .i64 t638,.bool t639] 28 (0,0)) (bm BK647.out) hg (Kd.Q_ne HO_11.out BK647.out (by decide)));replace HI637:=ak (IsS95.grown (show IsS95 w _ gb637 l0 t687 t688 from by exact IsS95.now HI637.out) hg (IsS95.own_neQ HI637.out HO_11.out (by decide)));replace HO685:=ak (R_after (ok:=(fun _=>True)) (rm HO685.out) hg hat);replace HB:=ak hb;have HO691:=ak ho;clear HO_11;clear ho hb hg hat;have hnb56:=NB647_636.out;have hnc56:=NB636_647.out;have hnb57:=NB647_637.out;have hnc57:=NB637_647.out;have hcz58_0:=bc BK647 0 rfl;have hcz58_1:=bc BK647 1 rfl;have hfz58_0:=bf BK647 0;have hfz58_1:=bf BK647 1;have hnb59:=NB636_637.out;have hnc59:=NB637_636.out;have hcz60_0:=bc BK636 0 rfl;have hcz60_1:=bc BK636 1 rfl;have hfz60_0:=bf BK636 0;have hfz60_1:=bf BK636 1))
  refine bodyPost_ret (results_list (rs:=[.cell 2 28,.tmp 3,.tmp 4,.tmp 5]) rfl (by simp) (.cell gb636 28 #[.int .i64 t638,.bool t639] (0,0) _ rfl (by(with_reducible repeat(first|apply blk_drewN|apply blk_drew|apply blk_alloc));refine blk_put (cs:=#[.int .i64 t638,.bool false]) ?_ 1 _ rfl;(with_reducible repeat(first|apply blk_drewN|apply blk_drew|apply blk_alloc));refine blk_put (cs:=#[.int .i64 0,.bool false]) ?_ 0 _ rfl;exact bm BK636.out) Try.underlying28 rfl (by kernel_rfl) (.tmp (.tmp (.tmp .nil))))) rfl ?_
  exact⟨_,_,fe,by(with_reducible repeat(first|apply R_alloc|apply R_drewN|apply R_drew));exact R_mono (R_far (p:=⟨gb636,1,none⟩) (R_far (p:=⟨gb636,0,none⟩) (R_types HO_8.out BK636.out (by decide)) (fun _ hk=>hk.2) (.int .i64 t638)) (fun _ hk=>hk.2) (.bool t639)) (fun _ hk=>trivial),by(with_reducible repeat(first|apply Kd.Q_alloc|apply Kd.Q_drewN|apply Kd.Q_drew));exact Kd.Q_mono (Kd.Q_far (p:=⟨gb636,1,none⟩) (Kd.Q_far (p:=⟨gb636,0,none⟩) (Kd.Q_types HO691.out BK636.out (by decide)) (fun _ hk=>hk.2) (.int .i64 t638)) (fun _ hk=>hk.2) (.bool t639)) (fun _ hk=>trivial),h3 HB.out (IsS95.ge HI637.out) GE636.out GE647.out⟩
 rw[if_pos c12]at H
 have c12b0:decide (x12_1<(t640.length:Int))=true:=decide_eq_true c12
 clear c12
 obtain⟨⟨t651,t652,t653⟩,A13,H⟩:=bd H;(try dsimp only at H)
 obtain⟨c14,H⟩:=gi H
 have c14b0:=eq_true c14
 have c14b1:decide (0≤t651)=true:=decide_eq_true c14
 clear c14
 obtain⟨c15,H⟩:=gi H
 have c15b0:=eq_true c15
 have c15b1:decide (t651≤(x11_1.length:Int))=true:=decide_eq_true c15
 clear c15
 generalize hy654: (x11_1.take (t651:Int).toNat:List Int)=y654 at H
 have Ny654:=ak hy654.symm
 clear hy654
 obtain⟨t658,A16,H⟩:=bd H;(try dsimp only at H)
 obtain⟨y661,hy661⟩:∃ y_:List Int,y_=(([x12_1]:List Int)):=⟨_,rfl⟩
 replace H: (if t658.length+y661.length<17592186044416 then((some (t658++y661:List Int)).bind fun y664=>((some (x11_1.drop (t651:Int).toNat:List Int)).bind fun y667=>(if y664.length+y667.length<17592186044416 then(spec_DrawOrderReach.l0 k1 t640 t643 (y664++y667) (wrap64 (x12_1+1)) l0 t652 t653 t638 t639)else(none))))else(none))=some (r1,r2,r3,r4,r5):=by subst hy661;first|(with_reducible exact H)|exact H
 have Ny661:=Aside0.mk hy661
 clear hy661
 obtain⟨c17,H⟩:=gi H
 have LMc17:=Aside0.mk c17
 clear c17
 obtain⟨y664,hy664⟩:∃ y_:List Int,y_=(t658++y661):=⟨_,rfl⟩
 replace H: ((some (x11_1.drop (t651:Int).toNat:List Int)).bind fun y667=>(if y664.length+y667.length<17592186044416 then(spec_DrawOrderReach.l0 k1 t640 t643 (y664++y667) (wrap64 (x12_1+1)) l0 t652 t653 t638 t639)else(none)))=some (r1,r2,r3,r4,r5):=by subst hy664;first|(with_reducible exact H)|exact H
 have Ny664:=Aside0.mk hy664
 clear hy664
 have c18b0:=eq_true (od:0≤t651)
 have c19b0:=eq_true (od:t651≤(x11_1.length:Int))
 obtain⟨y667,hy667⟩:∃ y_:List Int,y_=(x11_1.drop (t651:Int).toNat):=⟨_,rfl⟩
 replace H: (if y664.length+y667.length<17592186044416 then(spec_DrawOrderReach.l0 k1 t640 t643 (y664++y667) (wrap64 (x12_1+1)) l0 t652 t653 t638 t639)else(none))=some (r1,r2,r3,r4,r5):=by subst hy667;first|(with_reducible exact H)|exact H
 have Ny667:=Aside0.mk hy667
 clear hy667
 obtain⟨c20,H⟩:=gi H
 have LMc20:=Aside0.mk c20
 clear c20
 generalize hy671: (y664++y667:List Int)=y671 at H
 have Ny671:=ak hy671.symm
 clear hy671
 have H':=Aside0.mk H
 clear H
 obtain⟨Ao21,co21,eo21⟩:=R_slice HO_8.out
 subst eo21
 obtain⟨Ao22,co22,eo22,_⟩:=Kd.Q_slice HO_11.out
 subst eo22
 try go_wp2_with (first|(refine gs 35 Try.func79 #[.pointer (some ⟨gb637,0,none⟩),.int .i64 (wrap64 ((x11_1.length:Int)+1))] ?_;(with_reducible refine(spec_l1Cur_pick.calls gb637 l0 x638001_1 x638002_1 (wrap64 ((x11_1.length:Int)+1)) t651 t652 t653 w _ ?side1 ?side2 A13.out).mono ?_);(case side1=>exact IsS95.now HI637.out);(case side2=>exact h3 HB.out (IsS95.ge HI637.out) GE636.out GE647.out);rintro e w23 ⟨rfl,hi,hb,hk⟩;refine⟨_,rfl,?_⟩;replace HO_8:=ak (R_mono (R_keep (IsS95.apart (show IsS95 w _ gb637 l0 x638001_1 x638002_1 from by exact IsS95.now HI637.out) (rm HO_8.out) (by decide)) hk (fun _ h=>h.2)) (fun _ h=>h.1));replace HO_11:=ak (Kd.Q_mono (Kd.Q_keep (IsS95.apartQ (show IsS95 w _ gb637 l0 x638001_1 x638002_1 from by exact IsS95.now HI637.out) (qm HO_11.out) (by decide)) hk (fun _ h=>h.2)) (fun _ h=>h.1));replace BK636:=kk BK636 hk NB636_637;replace BK647:=kk BK647 hk NB647_637;replace HB:=ak hb;replace HI637:=ak hi;(try clear hb);(try clear hk);(try clear hi)))
 replace HO_8:=ak (R_drew HO_8.out)
 replace HO_11:=ak (Kd.Q_drew HO_11.out)
 replace BK636:=ak (blk_drew BK636.out)
 replace BK647:=ak (blk_drew BK647.out)
 replace HI637:=ak (IsS95.drew HI637.out)
 replace HB:=ak (below_drew1 HB.out)
 have q25: (t651:Int)≤((x11_1.length:Int):Int):=od
 obtain⟨i025,hi025,_,hsz25,_⟩:=info_parts info3
 have hroom25:x11_1.length≤co22:=(Kd.Q_reads' HO_11.out).2.1
 have hC25:Kd.C (Kd.int .i64) _ Ao22 x11_1.length x11_1:=(Kd.Q_reads' HO_11.out).2.2
 have hcut25:=cut_to (P:=Try.prog) 40 3 .i64 Try.underlying40 hi025 Ao22 x11_1.length co22 t651 (od) q25 hroom25
 have hr25:=C_take (m:=(t651:Int).toNat) hC25 (by omega)
 have hy25:y654.length=(t651:Int).toNat:=(by rw[Ny654.out,List.length_take];omega)
 rw[←Ny654.out]at hr25
 rw[←hy25]at hcut25
 have HR657:=Aside0.mk hr25
 have HC657:=Aside0.mk (show y654.length≤co22 from by omega)
 clear hr25 hC25 hroom25 hi025 hsz25
 have KY25:=Aside0.mk hy25
 clear hy25
 have KL25:=Aside0.mk (show(t651:Int).toNat≤x11_1.length from by omega)
 replace q25:=eq_true q25
 have q26: (t651:Int)≤((x11_1.length:Int):Int):=od
 obtain⟨i026,hi026,_,hsz26,_⟩:=info_parts info3
 have hroom26:x11_1.length≤co22:=(Kd.Q_reads' HO_11.out).2.1
 have hC26:Kd.C (Kd.int .i64) _ Ao22 x11_1.length x11_1:=(Kd.Q_reads' HO_11.out).2.2
 have q026: (0:Int)≤(t651:Int):=od
 have hcut26:=cut_from (P:=Try.prog) 40 3 .i64 Try.underlying40 hi026 1 hsz26 Ao22 x11_1.length co22 t651 q026 q26
 have hr26:=C_drop (m:=(t651:Int).toNat) (c:=co22) hC26 (by omega) hroom26
 obtain⟨A26,hA26⟩:∃ A_,A_=(if co22=(t651:Int).toNat then Ao22 else(Ao22:Option Addr).map (·.add ((t651:Int).toNat*1))):=⟨_,rfl⟩
 obtain⟨c26,hc26⟩:∃ c1,c1=co22-(t651:Int).toNat:=⟨_,rfl⟩
 have hy26:y667.length=x11_1.length-(t651:Int).toNat:=(by rw[Ny667.out,List.length_drop]<;>omega)
 rw[show(x11_1).drop (t651:Int).toNat=y667 from Ny667.out.symm]at hr26
 replace hr26:Kd.C (Kd.int .i64) _ A26 y667.length y667:=(by rw[hA26];exact hr26)
 rw[←hy26,←hA26,←hc26]at hcut26
 have HR670:=Aside0.mk hr26
 have HC670:=Aside0.mk (show y667.length≤c26 from by rw[hy26,hc26];exact Nat.sub_le_sub_right hroom26 _)
 clear hr26 hC26 hroom26 hi026 hsz26 hc26
 have KY26:=Aside0.mk hy26
 have KA26:=Aside0.mk hA26
 clear hy26 hA26
 have KL26:=Aside0.mk (show(t651:Int).toNat≤x11_1.length from by omega)
 replace q26:=eq_true q26
 refine start_ (n:=12) (S:=fun w'=>True) (ds:=[]) (lb 12 0) (by kernel_rfl) rfl rfl trivial (fun hHeld=>?_);refine with_tabW spec_DrawOrderReach.tab8 spec_DrawOrderReach.bits8 (fun HT_ HW_=>?_)
 generalize w23.drew=w24 at HO_8 HO_11 BK636 BK647 HI637 HB HR657 HR670 hHeld⊢
 refine pq 0 (N:=some 36) (lb 12 1) HT_ ?_
 refine pq 1 (N:=some 37) (lb 12 3) HT_ ?_
 refine pq 2 (N:=some 38) (lb 12 7) HT_ ?_
 refine pq 4 (N:=some 40) (lb 12 23) HT_ ?_
 refine pq 7 (N:=some 43) (lb 12 151) HT_ ?_
 refine pq 8 (N:=some 44) (lb 12 407) HT_ ?_
 refine pq 9 (N:=some 45) (lb 12 919) HT_ ?_
 refine join_ (σ:=Value × Value) 3 (lb 12 959) (fun s_=>[(39,s_.1),(41,s_.2)]) (fun s_ w'=>(Kd.R (Kd.int .i64) 3 w' w.heap.size (fun k_=>some k_≠(s_.2:Value).ownBlock∧ob k_ (.slice Ao22 x11_1.length co22)) s_.1 t658)∧(Kd.R (Kd.int .i64) 3 w' w.heap.size (fun k_=>some k_≠(s_.1:Value).ownBlock∧ob k_ (.slice Ao22 x11_1.length co22)) s_.2 y661)∧(Kd.Q (Kd.int .i64) 3 w' w.heap.size (fun k_=>some k_≠(s_.1:Value).ownBlock∧some k_≠(s_.2:Value).ownBlock) (.slice Ao22 x11_1.length co22) x11_1)∧(Kd.R k63 63 w' w.heap.size (fun _=>True) (.slice Ao21 t640.length co21) t640)∧(w'.heap[gb636]? =some (.cells #[.int .i64 0,.bool false] 28 (0,0)))∧(w'.heap[gb647]? =some (.cells #[.int .i64 t638,.bool t639] 28 (0,0)))∧(IsS95 w w' gb637 l0 t652 t653)∧(Below w.heap.size w w')) ?_ ?_
 rotate_left
 ·intro hCont
  refine two_ (i:=3) (j:=5) (Ni:=some 39) (Nj:=some 41) (lb 12 927) (lb 12 951) rfl rfl rfl rfl (two_of HT_.out (by kernel_rfl)) (by decide) (by decide) (fun K hK=>?_) (fun K hK=>?_)
  rotate_left
  ·skip
   refine R_lit_step (Kd.int .i64) _ 3 ?hg (N:=41) ?hd (xs:=([x12_1]:List Int)) (inner:=[.int .i64 x12_1]) (ok:=fun _=>True) (okp:=fun _=>True) ?hr ?hp (fun _ hk=>hk) trivial (Below.refl _ _) (Nat.le_refl _) (by simp) ?_;(case hd=>rfl);(case hg=>rfl);(case hr=>first|(go_simp;done)|(go_simp;rfl));(case hp=>exact(Reps.one (show Kd.M (Kd.int .i64) _ _ _ x12_1 [.int .i64 x12_1]from rfl) (Reps.none _ _)))
   intro v662 w27 ho28 hb hg_ hnew_
   clear hg_ hnew_
   (first|rw[←Ny661.out]at ho28|(simp only[Int.reduceToNat]at ho28;rw[←Ny661.out]at ho28))
   replace HO_8:=rb HO_8 hb
   have HO663:=ak (R_lower (R_new' ho28 (Kd.Q_lt (qm HO_11.out))) (below_size (h3 HB.out (IsS95.ge HI637.out) GE636.out GE647.out)))
   replace HO_11:=ak (Kd.Q_elder' (qm HO_11.out) (R_base ho28) hb)
   replace BK636:=kb BK636 hb
   replace BK647:=kb BK647 hb
   replace HR657:=ak (C_below (by repeat(first|(with_reducible exact HR657.out)|(with_reducible refine C_alloc ?_ _)|(with_reducible refine C_drewN ?_ _)|(with_reducible refine C_drew ?_)|exact HR657.out)) hb)
   replace HR670:=ak (C_below (by repeat(first|(with_reducible exact HR670.out)|(with_reducible refine C_alloc ?_ _)|(with_reducible refine C_drewN ?_ _)|(with_reducible refine C_drew ?_)|exact HR670.out)) hb)
   replace HB:=ak (below_step (h3 HB.out (IsS95.ge HI637.out) GE636.out GE647.out) hb)
   replace HI637:=ak (IsS95.below (by exact IsS95.now HI637.out) hb)
   clear hb ho28
   refine hK.out _ _ trivial (fun hHeld=>?_)
   clear hK K
   refine norm_ (a':=?_) ?_ ?_
   rotate_left
   ·show Act.put _ (some 41) _=_
    simp only[ap]
    rfl
   refine one_ (i:=3) (N:=some 39) (lb 12 959) rfl rfl (one_of HT_.out (by kernel_rfl)) (by decide) (fun K hK=>?_)
   refine goes_ Try.func80 (by kernel_rfl) rfl #[.slice Ao22 y654.length co22] (by rfl) rfl rfl gl ?_
   with_reducible refine(spec_l1Own.calls _ _ y654 t658 _ ?side1 ?side2 A16.out).mono ?_
   (case side1=>repeat(first|exact(by repeat(first|(with_reducible exact HR657.out)|(with_reducible refine C_alloc ?_ _)|(with_reducible refine C_drewN ?_ _)|(with_reducible refine C_drew ?_)|exact HR657.out))|(with_reducible refine C_alloc ?_ _)|(with_reducible refine C_drewN ?_ _)|(with_reducible refine C_drew ?_)))
   (case side2=>exact HC657.out)
   rintro e w29 ⟨v659,rfl,ho0,hb⟩
   refine⟨_,rfl,?_⟩
   replace HO_8:=rb HO_8 hb
   have HO660:=ak (R_lower (R_new' (R_new' ho0 (Kd.Q_lt (qm HO_11.out))) (R_lt (rm HO663.out))) (below_size (h3 HB.out (IsS95.ge HI637.out) GE636.out GE647.out)))
   replace HO_11:=ak (Kd.Q_elder' (qm HO_11.out) (R_base ho0) hb)
   replace HO663:=ak (R_elder' (rm HO663.out) (R_base ho0) hb)
   replace BK636:=kb BK636 hb
   replace BK647:=kb BK647 hb
   replace HR657:=ak (C_below (by repeat(first|(with_reducible exact HR657.out)|(with_reducible refine C_alloc ?_ _)|(with_reducible refine C_drewN ?_ _)|(with_reducible refine C_drew ?_)|exact HR657.out)) hb)
   replace HR670:=ak (C_below (by repeat(first|(with_reducible exact HR670.out)|(with_reducible refine C_alloc ?_ _)|(with_reducible refine C_drewN ?_ _)|(with_reducible refine C_drew ?_)|exact HR670.out)) hb)
   replace HB:=ak (below_step (h3 HB.out (IsS95.ge HI637.out) GE636.out GE647.out) hb)
   replace HI637:=ak (IsS95.below (by exact IsS95.now HI637.out) hb)
   (try clear hb)
   (try clear hb2)
   (try clear hk)
   (try clear hi)
   (try clear ho0)
   refine hK.out _ _ trivial (fun hHeld=>?_)
   clear hK K
   refine norm_ (a':=?_) ?_ ?_
   rotate_left
   ·show Act.put _ (some 39) _=_
    simp only[ap]
    rfl
   exact norm_ (by simp only[putAll,Act.put,List.setIfInBounds_toArray,List.set_cons_zero,List.set_cons_succ]) (hCont (v659,v662) _ ⟨(rm (R_mono HO660.out (fun _ hk=>⟨hk.2,hk.1.2⟩))),(rm (R_mono HO663.out (fun _ hk=>⟨hk.2,hk.1.2⟩))),(qm (Kd.Q_mono HO_11.out (fun _ hk=>⟨hk.2,hk.1.2⟩))),(rm HO_8.out),(bm BK636.out),(bm BK647.out),(by exact IsS95.now HI637.out),(h3 HB.out (IsS95.ge HI637.out) GE636.out GE647.out)⟩)
  skip
  refine goes_ Try.func80 (by kernel_rfl) rfl #[.slice Ao22 y654.length co22] (by rfl) rfl rfl gl ?_
  with_reducible refine(spec_l1Own.calls _ _ y654 t658 _ ?side1 ?side2 A16.out).mono ?_
  (case side1=>repeat(first|exact(by repeat(first|(with_reducible exact HR657.out)|(with_reducible refine C_alloc ?_ _)|(with_reducible refine C_drewN ?_ _)|(with_reducible refine C_drew ?_)|exact HR657.out))|(with_reducible refine C_alloc ?_ _)|(with_reducible refine C_drewN ?_ _)|(with_reducible refine C_drew ?_)))
  (case side2=>exact HC657.out)
  rintro e w27 ⟨v659,rfl,ho0,hb⟩
  refine⟨_,rfl,?_⟩
  replace HO_8:=rb HO_8 hb
  have HO660:=ak (R_lower (R_new' ho0 (Kd.Q_lt (qm HO_11.out))) (below_size (h3 HB.out (IsS95.ge HI637.out) GE636.out GE647.out)))
  replace HO_11:=ak (Kd.Q_elder' (qm HO_11.out) (R_base ho0) hb)
  replace BK636:=kb BK636 hb
  replace BK647:=kb BK647 hb
  replace HR657:=ak (C_below (by repeat(first|(with_reducible exact HR657.out)|(with_reducible refine C_alloc ?_ _)|(with_reducible refine C_drewN ?_ _)|(with_reducible refine C_drew ?_)|exact HR657.out)) hb)
  replace HR670:=ak (C_below (by repeat(first|(with_reducible exact HR670.out)|(with_reducible refine C_alloc ?_ _)|(with_reducible refine C_drewN ?_ _)|(with_reducible refine C_drew ?_)|exact HR670.out)) hb)
  replace HB:=ak (below_step (h3 HB.out (IsS95.ge HI637.out) GE636.out GE647.out) hb)
  replace HI637:=ak (IsS95.below (by exact IsS95.now HI637.out) hb)
  (try clear hb)
  (try clear hb2)
  (try clear hk)
  (try clear hi)
  (try clear ho0)
  refine hK.out _ _ trivial (fun hHeld=>?_)
  clear hK K
  refine norm_ (a':=?_) ?_ ?_
  rotate_left
  ·show Act.put _ (some 39) _=_
   simp only[ap]
   rfl
  refine one_ (i:=5) (N:=some 41) (lb 12 959) rfl rfl (one_of HT_.out (by kernel_rfl)) (by decide) (fun K hK=>?_)
  refine R_lit_step (Kd.int .i64) _ 3 ?hg (N:=41) ?hd (xs:=([x12_1]:List Int)) (inner:=[.int .i64 x12_1]) (ok:=fun _=>True) (okp:=fun _=>True) ?hr ?hp (fun _ hk=>hk) trivial (Below.refl _ _) (Nat.le_refl _) (by simp) ?_;(case hd=>rfl);(case hg=>rfl);(case hr=>first|(go_simp;done)|(go_simp;rfl));(case hp=>exact(Reps.one (show Kd.M (Kd.int .i64) _ _ _ x12_1 [.int .i64 x12_1]from rfl) (Reps.none _ _)))
  intro v662 w28 ho29 hb hg_ hnew_
  clear hg_ hnew_
  (first|rw[←Ny661.out]at ho29|(simp only[Int.reduceToNat]at ho29;rw[←Ny661.out]at ho29))
  replace HO_8:=rb HO_8 hb
  have HO663:=ak (R_lower (R_new' (R_new' ho29 (Kd.Q_lt (qm HO_11.out))) (R_lt (rm HO660.out))) (below_size (h3 HB.out (IsS95.ge HI637.out) GE636.out GE647.out)))
  replace HO_11:=ak (Kd.Q_elder' (qm HO_11.out) (R_base ho29) hb)
  replace HO660:=ak (R_elder' (rm HO660.out) (R_base ho29) hb)
  replace BK636:=kb BK636 hb
  replace BK647:=kb BK647 hb
  replace HR657:=ak (C_below (by repeat(first|(with_reducible exact HR657.out)|(with_reducible refine C_alloc ?_ _)|(with_reducible refine C_drewN ?_ _)|(with_reducible refine C_drew ?_)|exact HR657.out)) hb)
  replace HR670:=ak (C_below (by repeat(first|(with_reducible exact HR670.out)|(with_reducible refine C_alloc ?_ _)|(with_reducible refine C_drewN ?_ _)|(with_reducible refine C_drew ?_)|exact HR670.out)) hb)
  replace HB:=ak (below_step (h3 HB.out (IsS95.ge HI637.out) GE636.out GE647.out) hb)
  replace HI637:=ak (IsS95.below (by exact IsS95.now HI637.out) hb)
  clear hb ho29
  refine hK.out _ _ trivial (fun hHeld=>?_)
  clear hK K
  refine norm_ (a':=?_) ?_ ?_
  rotate_left
  ·show Act.put _ (some 41) _=_
   simp only[ap]
   rfl
  exact norm_ (by simp only[putAll,Act.put,List.setIfInBounds_toArray,List.set_cons_zero,List.set_cons_succ]) (hCont (v659,v662) _ ⟨(rm (R_mono HO660.out (fun _ hk=>⟨hk.2,hk.1.2⟩))),(rm (R_mono HO663.out (fun _ hk=>⟨hk.2,hk.1.2⟩))),(qm (Kd.Q_mono HO_11.out (fun _ hk=>⟨hk.1.2,hk.2⟩))),(rm HO_8.out),(bm BK636.out),(bm BK647.out),(by exact IsS95.now HI637.out),(h3 HB.out (IsS95.ge HI637.out) GE636.out GE647.out)⟩)
 rintro⟨v659,v662⟩ w30 ⟨h0_,h1_,h2_,h3_,h4_,h5_,h6_,h7_⟩
 have n0_:Aside0 (Kd.R (Kd.int .i64) 3 w30 w.heap.size (fun k_=>ob k_ v662∧ob k_ (.slice Ao22 x11_1.length co22)) v659 t658):=⟨h0_⟩
 have n1_:Aside0 (Kd.R (Kd.int .i64) 3 w30 w.heap.size (fun k_=>ob k_ v659∧ob k_ (.slice Ao22 x11_1.length co22)) v662 y661):=⟨h1_⟩
 have n2_:Aside0 (Kd.Q (Kd.int .i64) 3 w30 w.heap.size (fun k_=>ob k_ v659∧ob k_ v662) (.slice Ao22 x11_1.length co22) x11_1):=⟨h2_⟩
 have n3_:Aside0 (Kd.R k63 63 w30 w.heap.size (fun _=>True) (.slice Ao21 t640.length co21) t640):=⟨h3_⟩
 have n4_:Aside0 (w30.heap[gb636]? =some (.cells #[.int .i64 0,.bool false] 28 (0,0))):=⟨h4_⟩
 have n5_:Aside0 (w30.heap[gb647]? =some (.cells #[.int .i64 t638,.bool t639] 28 (0,0))):=⟨h5_⟩
 have n6_:Aside0 (IsS95 w w30 gb637 l0 t652 t653):=⟨h6_⟩
 have n7_:Aside0 (Below w.heap.size w w30):=⟨h7_⟩
 clear HO_8
 clear HO_11
 clear BK636
 clear BK647
 clear HI637
 clear HB
 clear h0_ h1_ h2_ h3_ h4_ h5_ h6_ h7_
 have HO660:=n0_
 have HO663:=n1_
 have HO_11:=n2_
 have HO_8:=n3_
 have BK636:=n4_
 have BK647:=n5_
 have HI637:=n6_
 have HB:=n7_
 clear n0_ n1_ n2_ n3_ n4_ n5_ n6_ n7_
 have hHeld:=trivial
 obtain⟨Ao32,co32,eo32⟩:=R_slice HO663.out
 (first|subst eo32|(injection eo32 with f1_ f2_ f3_;have f4_:=f1_.symm;have f5_:=f3_.symm;clear f1_ f2_ f3_;subst f4_;subst f5_))
 refine norm_ (a':=?_) ?_ ?_
 rotate_left
 ·simp only[putAll,Act.put,List.setIfInBounds_toArray,List.set_cons_zero,List.set_cons_succ]
  rfl
 refine one_ (i:=6) (N:=some 42) (lb 12 1023) rfl rfl (one_of HT_.out (by kernel_rfl)) (by decide) (fun K hK=>?_)
 refine R_append_rows_step (Kd.int .i64) (w0:=w) w.heap.size (by rfl) (.tmp 39) (.tmp 41) 40 3 (.int .i64 0) 8 rfl Try.underlying40 info3 rfl (by decide) (by omega) v659 t658 y661 _ _ _ (fun k_=>ob k_ (.slice Ao22 x11_1.length co22)∧ob k_ (.slice Ao32 y661.length co32)) (fun _=>False) rfl rfl ?aO ?aR (fun _ _ h=>h) (fun _ h=>h.elim) ?aF ?aB ?aS ?aL ?_
 (case aR=>exact cm (R_reads' HO663.out).2.2)
 (case aB=>exact(h3 HB.out (IsS95.ge HI637.out) GE636.out GE647.out))
 (case aF=>exact(fun k_ hk=>⟨Kd.fresh' (Kd.Q_lt (qm HO_11.out)) k_ hk,Kd.fresh' (R_lt (rm HO663.out)) k_ hk⟩))
 (case aO=>exact(rm (R_mono HO660.out (fun _ hk=>⟨hk.2,hk.1⟩))))
 (case aS=>exact(below_size (h3 HB.out (IsS95.ge HI637.out) GE636.out GE647.out)))
 (case aL=>have:=LMc17.out;omega)
 intro v665 w31 ho hb hg hat
 rw[←Ny664.out]at ho
 replace HO_8:=ak (R_over' (rm HO_8.out) (R_typed (rm HO660.out)) (by decide) hg)
 replace HO_11:=ak (Kd.Q_after (ok:=(fun k_=>ob k_ (.slice Ao32 y661.length co32))) (qm (Kd.Q_mono HO_11.out (fun _ hk=>⟨hk.2,hk.1⟩))) hg hat)
 replace BK636:=ak (blk_grown (g:=gb636) (o:=.cells #[.int .i64 0,.bool false] 28 (0,0)) (bm BK636.out) hg (R_ne HO660.out BK636.out (by decide)))
 replace BK647:=ak (blk_grown (g:=gb647) (o:=.cells #[.int .i64 t638,.bool t639] 28 (0,0)) (bm BK647.out) hg (R_ne HO660.out BK647.out (by decide)))
 replace HI637:=ak (IsS95.grown (show IsS95 w _ gb637 l0 t652 t653 from by exact IsS95.now HI637.out) hg (IsS95.own_ne HI637.out HO660.out (by decide)))
 replace HO663:=ak (R_after (ok:=(fun k_=>ob k_ (.slice Ao22 x11_1.length co22))) (rm (R_mono HO663.out (fun _ hk=>⟨hk.2,hk.1⟩))) hg hat)
 replace HB:=ak hb
 have HO666:=ak ho
 clear HO660
 clear ho hb hg hat
 refine hK.out _ _ trivial (fun hHeld=>?_)
 clear hK K
 refine norm_ (a':=?_) ?_ ?_
 rotate_left
 ·show Act.put _ (some 42) _=_
  simp only[ap]
  rfl
 refine one_ (i:=10) (N:=some 46) (lb 12 2047) rfl rfl (one_of HT_.out (by kernel_rfl)) (by decide) (fun K hK=>?_)
 refine R_append_rows_step (Kd.int .i64) (w0:=w) w.heap.size (by rfl) (.tmp 42) (.tmp 45) 40 3 (.int .i64 0) 8 rfl Try.underlying40 info3 rfl (by decide) (by omega) v665 y664 y667 _ _ _ (fun k_=>ob k_ (.slice Ao22 x11_1.length co22)∧ob k_ (.slice Ao32 y661.length co32)) (fun _=>False) rfl rfl ?aO ?aR (fun _ _ h=>h) (fun _ h=>h.elim) ?aF ?aB ?aS ?aL ?_
 (case aR=>repeat(first|exact((show Kd.C (Kd.int .i64) _ A26 y667.length y667 from by rw[Ny667.out,KA26.out];refine C_drop (m:=(t651:Int).toNat) (c:=co22) ?cA KL26.out ((Kd.Q_reads' HO_11.out).2.1);(case cA=>exact((Kd.Q_reads' (qm HO_11.out)).2.2))))|(with_reducible refine C_alloc ?_ _)|(with_reducible refine C_drewN ?_ _)|(with_reducible refine C_drew ?_)))
 (case aB=>exact(h3 HB.out (IsS95.ge HI637.out) GE636.out GE647.out))
 (case aF=>exact(fun k_ hk=>⟨Kd.fresh' (Kd.Q_lt (qm HO_11.out)) k_ hk,Kd.fresh' (R_lt (rm HO663.out)) k_ hk⟩))
 (case aO=>exact(rm HO666.out))
 (case aS=>exact(below_size (h3 HB.out (IsS95.ge HI637.out) GE636.out GE647.out)))
 (case aL=>have:=LMc20.out;omega)
 intro v672 w33 ho hb hg hat
 rw[←Ny671.out]at ho
 replace HO_8:=ak (R_over' (rm HO_8.out) (R_typed (rm HO666.out)) (by decide) hg)
 replace HO_11:=ak (Kd.Q_after (ok:=(fun k_=>ob k_ (.slice Ao32 y661.length co32))) (qm HO_11.out) hg hat)
 replace BK636:=ak (blk_grown (g:=gb636) (o:=.cells #[.int .i64 0,.bool false] 28 (0,0)) (bm BK636.out) hg (R_ne HO666.out BK636.out (by decide)))
 replace BK647:=ak (blk_grown (g:=gb647) (o:=.cells #[.int .i64 t638,.bool t639] 28 (0,0)) (bm BK647.out) hg (R_ne HO666.out BK647.out (by decide)))
 replace HI637:=ak (IsS95.grown (show IsS95 w _ gb637 l0 t652 t653 from by exact IsS95.now HI637.out) hg (IsS95.own_ne HI637.out HO666.out (by decide)))
 replace HO663:=ak (R_after (ok:=(fun k_=>ob k_ (.slice Ao22 x11_1.length co22))) (rm HO663.out) hg hat)
 replace HB:=ak hb
 have HO673:=ak ho
 clear HO666
 clear ho hb hg hat
 refine hK.out _ _ trivial (fun hHeld=>?_)
 clear hK K
 refine norm_ (a':=?_) ?_ ?_
 rotate_left
 ·show Act.put _ (some 46) _=_
  simp only[ap]
  rfl
 refine pq 11 (N:=some 11) (lb 12 4095) HT_ ?_
 refine done_ (done_of HT_.out (by kernel_rfl)) ?_
 try go_wp2
 go_roundg k1
 case measure=>have:=HK1.out;omega
 case rel=>exact⟨(y671),(wrap64 (x12_1+1)),(t652),(t653),fd,H',⟨by have:=HK1.out;omega⟩,⟨rm HO_8.out⟩,⟨Kd.Q_of_R (rm (R_mono HO673.out (fun _ hk=>trivial)))⟩,⟨bm BK636.out⟩,⟨bm BK647.out⟩,⟨by exact IsS95.now HI637.out⟩,⟨h3 HB.out (IsS95.ge HI637.out) GE636.out GE647.out⟩⟩
end
end Go.Proofs.Ythagkpoinjpmfaa.QFnReaches
