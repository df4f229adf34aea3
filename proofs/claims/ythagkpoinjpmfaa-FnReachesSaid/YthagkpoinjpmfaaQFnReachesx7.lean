/- Functions that the law FnReaches comes to, and their walks: no condition but those named. -/
import Derived.Test.YthagkpoinjpmfaaQFnReachesx0
import Derived.Test.YthagkpoinjpmfaaQFnReachesx1
import Derived.Test.YthagkpoinjpmfaaQFnReachesx3
namespace Go.Proofs.Ythagkpoinjpmfaa.QFnReaches
open Go.RowKit Go.Proofs.YthagkpoinjpmfaaW.PrintWords Go.Proofs.YthagkpoinjpmfaaW.PrintLast Go.Proofs.YthagkpoinjpmfaaW.PrintMore Go.Proofs.Ythagkpoinjpmfaa.Short
attribute [local go_sem] max2_int min2_int max_two min_two max_three min_three max_four min_four
set_option linter.unusedVariables false
set_option linter.unusedSimpArgs false
section
open Kd
def spec_l7More.l0:Nat→List (S63)→Int→List (S63)→Int→Option ((List (S63)))
 | 0,_,_,_,_=>none
 | k+1,x0,x1,x5,x6=>if x6<(x0.length:Int)then(if 0≤x6 then(if x5.length<5864062014805 then(spec_l7More.l0 k x0 x1 (x5++[(⟨(rd_T63 x0 x6).f0,wrap64 (((rd_T63 x0 x6).f1)+x1),(rd_T63 x0 x6).f2⟩:S63)]) (wrap64 (x6+1)))else(none))else(none))else(some x5)
def spec_l7More.f (k:Nat) (l0:List (S63)) (a1:Int):Option ((List (S63))):=spec_l7More.l0 k l0 a1 (([]:List (S63))) 0
theorem spec_l7More.mono_l:∀ k,(∀ y0 y1 y2 y3,LeO (spec_l7More.l0 k y0 y1 y2 y3) (spec_l7More.l0 (k+1) y0 y1 y2 y3))
 | 0=>by
  refine ?_<;>(intros;intro r h;simp[spec_l7More.l0]at h)
 | k+1=>by
  have ih0:=spec_l7More.mono_l k
  refine ?_<;>intros<;>unfold spec_l7More.l0<;>(repeat' (with_reducible first|exact ih0 ..|exact LeO.refl _|exact LeO.none _|refine LeO.ite ?_ ?_|refine LeO.bind ?_ (fun _=>?_)))
theorem spec_l7More.mono:∀ a0 a1 k,LeO (spec_l7More.f k a0 a1) (spec_l7More.f (k+1) a0 a1):=by
 intro a0 a1 k
 have ih0:=spec_l7More.mono_l k
 unfold spec_l7More.f
 repeat' (with_reducible first|exact ih0 ..|exact LeO.refl _|exact LeO.none _|refine LeO.ite ?_ ?_|refine LeO.bind ?_ (fun _=>?_))
def spec_l7More.T5:Bool × List (List Nat × List Nat):=(true,[([],[]),([],[]),([],[]),([1,2],[1,2]),([3],[3]),([4],[4]),([],[]),([],[]),([6,7],[6,7]),([8],[8]),([9],[9]),([],[]),([10,11],[10,11]),([],[]),([],[]),([13,14],[13,14]),([15],[15]),([16],[16]),([5,12,17],[5,12,17]),([18],[18]),([0,19],[0,19]),([20,20,0,1,2,3,4,5,6,7,8,9,10,11,12,13,14,15,16,17,18,19,20],[0,20])])
def spec_l7More.B5:List Nat:=[0,0,0,6,14,30,0,0,192,448,960,0,4032,0,0,24576,57344,122880,262142,524286,1048575,2097151]
theorem spec_l7More.tab5:rtab .any (opsOf Try.f67 5)=spec_l7More.T5:=by kernel_rfl
theorem spec_l7More.bits5:waitsOk spec_l7More.T5.2 spec_l7More.B5=true:=by kernel_rfl
set_option maxHeartbeats 8000000 in
set_option maxRecDepth 100000 in
theorem spec_l7More.calls (k:Nat) (A0:Option Addr) (c0:Nat) (l0:List (S63)) (a1:Int) (r:List (S63)) (w:World) (hr0:Kd.C k63 w A0 l0.length l0) (hc0:l0.length≤c0) (h:spec_l7More.f k l0 a1=some r):
  Calls Try.prog 67 #[.slice A0 l0.length c0,.int .i64 a1] w fun e w'=>∃ v0_:Value,e= .returned (v0_)∧Kd.R k63 63 w' w.heap.size (fun _=>True) v0_ r∧Below w.heap.size w w':=by
 have hu63:=Try.underlying63
 have HR0:=Aside0.mk hr0
 have HC0:=Aside0.mk hc0
 clear hr0 hc0
 have HB:=Aside0.mk (Below.refl w.heap.size w)
 unfold spec_l7More.f at h
 have H:=h
 clear h
 generalize hy240: ([]:List (S63))=y240 at H
 have Ny240:=ak hy240.symm
 clear hy240
 have H':=Aside0.mk H
 clear H
 go_enter Try.func67,Try.ntmps67
 go_wp2_with (first|((with_reducible refine gate_dst (N:=7) rfl ?_);refine R_lit k63 _ 63 ?hg (N:=7) ?hd (xs:=([]:List (S63))) (inner:=[]) (ok:=fun _=>True) (okp:=fun _=>True) ?hr ?hp (fun _ hk=>hk) trivial (Below.refl _ _) (Nat.le_refl _) (by simp) ?_;(case hd=>rfl);(case hg=>rfl);(case hr=>first|(go_simp;done)|(go_simp;rfl));(case hp=>exact(Reps.none _ _));intro v241 w3 ho4 hb hg_ hnew_;clear hg_ hnew_;(first|rw[←Ny240.out]at ho4|(simp only[Int.reduceToNat]at ho4;rw[←Ny240.out]at ho4));have HO242:=ak (R_lower ho4 (below_size (hm HB.out)));replace HB:=bs HB hb;clear hb ho4))
 go_loopg [5,6] k (fun kq v5 v6 w'=>∃ (x5_1:List (S63)) (x6_1:Int),v6= .int .i64 x6_1∧Aside0 (spec_l7More.l0 kq l0 a1 x5_1 x6_1=some r)∧Aside0 (kq≤k)∧Aside0 (Kd.R k63 63 w' w.heap.size (fun _=>True) v5 x5_1)∧Aside0 (Below w.heap.size w w'))
 case atStart=>exact⟨(y240),(0),fd,H',⟨Nat.le_refl _⟩,⟨rm HO242.out⟩,⟨hm HB.out⟩⟩
 clear H'
 try clear p2
 obtain⟨x5_1,x6_1,rfl,HA,HK1,HO_5,HB⟩:=hrel
 obtain _|k1:=gk;·cases HA.out
 obtain⟨H⟩:=HA
 simp only[spec_l7More.l0]at H
 by_cases c5:x6_1<(l0.length:Int)
 rotate_left
 ·rw[if_neg c5]at H
  have c5b0:decide (x6_1<(l0.length:Int))=false:=decide_eq_false c5
  clear c5
  obtain rfl:=Option.some.inj H
  go_wp2
  go_ret
  exact⟨_,fe,rm HO_5.out,hm HB.out⟩
 rw[if_pos c5]at H
 have c5b0:decide (x6_1<(l0.length:Int))=true:=decide_eq_true c5
 clear c5
 obtain⟨c6,H⟩:=gi H
 have c6b0:decide (0≤x6_1)=true:=decide_eq_true c6
 clear c6
 obtain⟨c7,H⟩:=gi H
 have LMc7:=Aside0.mk c7
 clear c7
 generalize hy246: (x5_1++[(⟨(rd_T63 l0 x6_1).f0,wrap64 (((rd_T63 l0 x6_1).f1)+a1),(rd_T63 l0 x6_1).f2⟩:S63)]:List (S63))=y246 at H
 have Ny246:=ak hy246.symm
 clear hy246
 have H':=Aside0.mk H
 clear H
 try go_wp2
 replace HO_5:=ak (R_drew HO_5.out)
 replace HB:=ak (below_drew1 HB.out)
 have p243:0≤(x6_1:Int):=od
 have q243:x6_1<(l0.length:Int):=od
 obtain⟨ad243,e243,hx243_0,hx243_1,hx243_2⟩:=at_T63 HR0.out x6_1 p243 q243
 have hw243_2:=hx243_2
 have hw243_1:=hx243_1
 have hw243_0:=hx243_0
 cases e243
 replace hx243_0:=hc HB hx243_0
 replace hx243_1:=hc HB hx243_1
 replace hx243_2:=hc HB hx243_2
 replace p243:=eq_true p243
 replace q243:=eq_true q243
 have p244:0≤(x6_1:Int):=od
 have q244:x6_1<(l0.length:Int):=od
 obtain⟨ad244,e244,hx244_0,hx244_1,hx244_2⟩:=at_T63 HR0.out x6_1 p244 q244
 have hw244_2:=hx244_2
 have hw244_1:=hx244_1
 have hw244_0:=hx244_0
 obtain rfl:ad243=ad244:=(by injection e244)
 replace hx244_0:=hc HB hx244_0
 replace hx244_1:=hc HB hx244_1
 replace hx244_2:=hc HB hx244_2
 replace p244:=eq_true p244
 replace q244:=eq_true q244
 have p245:0≤(x6_1:Int):=od
 have q245:x6_1<(l0.length:Int):=od
 obtain⟨ad245,e245,hx245_0,hx245_1,hx245_2⟩:=at_T63 HR0.out x6_1 p245 q245
 have hw245_2:=hx245_2
 have hw245_1:=hx245_1
 have hw245_0:=hx245_0
 obtain rfl:ad243=ad245:=(by injection e245)
 replace hx245_0:=hc HB hx245_0
 replace hx245_1:=hc HB hx245_1
 replace hx245_2:=hc HB hx245_2
 replace p245:=eq_true p245
 replace q245:=eq_true q245
 refine start_ (n:=22) (S:=fun w'=>w'.cell? (ad243.add ((x6_1).toNat*3))=some (.int .i64 ((rd_T63 l0 x6_1).f0))∧w'.cell? ⟨(ad243.add ((x6_1).toNat*3)).block,(ad243.add ((x6_1).toNat*3)).off+1,none⟩=some (.int .i64 ((rd_T63 l0 x6_1).f1))∧w'.cell? ⟨(ad243.add ((x6_1).toNat*3)).block,(ad243.add ((x6_1).toNat*3)).off+2,none⟩=some (.int .i64 ((rd_T63 l0 x6_1).f2))∧w'.cell? (ad243.add ((x6_1).toNat*3))=some (.int .i64 ((rd_T63 l0 x6_1).f0))∧w'.cell? ⟨(ad243.add ((x6_1).toNat*3)).block,(ad243.add ((x6_1).toNat*3)).off+1,none⟩=some (.int .i64 ((rd_T63 l0 x6_1).f1))∧w'.cell? ⟨(ad243.add ((x6_1).toNat*3)).block,(ad243.add ((x6_1).toNat*3)).off+2,none⟩=some (.int .i64 ((rd_T63 l0 x6_1).f2))∧w'.cell? (ad243.add ((x6_1).toNat*3))=some (.int .i64 ((rd_T63 l0 x6_1).f0))∧w'.cell? ⟨(ad243.add ((x6_1).toNat*3)).block,(ad243.add ((x6_1).toNat*3)).off+1,none⟩=some (.int .i64 ((rd_T63 l0 x6_1).f1))∧w'.cell? ⟨(ad243.add ((x6_1).toNat*3)).block,(ad243.add ((x6_1).toNat*3)).off+2,none⟩=some (.int .i64 ((rd_T63 l0 x6_1).f2))) (ds:=[]) (lb 22 0) (by kernel_rfl) rfl rfl ⟨((HB.out.cell (World.block_lt_of_cell? w _ hw243_0)).trans hw243_0),((HB.out.cell (World.block_lt_of_cell? w _ hw243_1)).trans hw243_1),((HB.out.cell (World.block_lt_of_cell? w _ hw243_2)).trans hw243_2),((HB.out.cell (World.block_lt_of_cell? w _ hw244_0)).trans hw244_0),((HB.out.cell (World.block_lt_of_cell? w _ hw244_1)).trans hw244_1),((HB.out.cell (World.block_lt_of_cell? w _ hw244_2)).trans hw244_2),((HB.out.cell (World.block_lt_of_cell? w _ hw245_0)).trans hw245_0),((HB.out.cell (World.block_lt_of_cell? w _ hw245_1)).trans hw245_1),((HB.out.cell (World.block_lt_of_cell? w _ hw245_2)).trans hw245_2)⟩ (fun hHeld=>?_);refine with_tabW spec_l7More.tab5 spec_l7More.bits5 (fun HT_ HW_=>?_)
 generalize wr.drew=w8 at HO_5 HB hx243_0 hx243_1 hx243_2 hx244_0 hx244_1 hx244_2 hx245_0 hx245_1 hx245_2 hHeld⊢
 refine pq 0 (N:=some 14) (lb 22 1) HT_ ?_
 refine pq 1 (N:=some 15) (lb 22 3) HT_ ?_
 refine pq 2 (N:=some 16) (lb 22 7) HT_ ?_
 refine pq 3 (N:=some 17) (lb 22 15) HT_ ?_
 refine pq 4 (N:=some 18) (lb 22 31) HT_ ?_
 refine pq 6 (N:=some 20) (lb 22 95) HT_ ?_
 refine pq 7 (N:=some 21) (lb 22 223) HT_ ?_
 refine pq 8 (N:=some 22) (lb 22 479) HT_ ?_
 refine pq 9 (N:=some 23) (lb 22 991) HT_ ?_
 refine pq 11 (N:=some 25) (lb 22 3039) HT_ ?_
 refine pq 13 (N:=some 27) (lb 22 11231) HT_ ?_
 refine pq 14 (N:=some 28) (lb 22 27615) HT_ ?_
 refine pq 15 (N:=some 29) (lb 22 60383) HT_ ?_
 refine pq 16 (N:=some 30) (lb 22 125919) HT_ ?_
 refine take_ (i:=5) (N:=some 19) (v:=?_) (a':=?_) (lb 22 125951) rfl rfl (take_ofW HT_.out HW_.out (by kernel_rfl)) (fun _ _ _ h=>h) (Or.inl ⟨by rfl,?_⟩) hHeld ?_ ?_
 rotate_left
 ·rintro w' ⟨s0,s1,s2,s3,s4,s5,s6,s7,s8⟩
  go_simp
  with_reducible rfl
 rotate_left
 ·simp only[ap]
  rfl
 refine take_ (i:=10) (N:=some 24) (v:=?_) (a':=?_) (lb 22 126975) rfl rfl (take_ofW HT_.out HW_.out (by kernel_rfl)) (fun _ _ _ h=>h) (Or.inl ⟨by rfl,?_⟩) hHeld ?_ ?_
 rotate_left
 ·rintro w' ⟨s0,s1,s2,s3,s4,s5,s6,s7,s8⟩
  go_simp
  with_reducible rfl
 rotate_left
 ·simp only[ap]
  rfl
 refine pq 12 (N:=some 26) (lb 22 131071) HT_ ?_
 refine take_ (i:=17) (N:=some 31) (v:=?_) (a':=?_) (lb 22 262143) rfl rfl (take_ofW HT_.out HW_.out (by kernel_rfl)) (fun _ _ _ h=>h) (Or.inl ⟨by rfl,?_⟩) hHeld ?_ ?_
 rotate_left
 ·rintro w' ⟨s0,s1,s2,s3,s4,s5,s6,s7,s8⟩
  go_simp
  with_reducible rfl
 rotate_left
 ·simp only[ap]
  rfl
 refine pq 18 (N:=some 32) (lb 22 524287) HT_ ?_
 refine one_ (i:=19) (N:=some 33) (lb 22 1048575) rfl rfl (one_of HT_.out (by kernel_rfl)) (by decide) (fun K hK=>?_)
 refine value_ (w1:=?_) (v:=?_) (by rfl) rfl ?_ ?_
 rotate_left 2
 ·go_simp
  constructor
  rotate_left
  ·rfl
  rfl
 refine hK.out _ _ ⟨(World.cell?_alloc_lt _ _ _ (World.block_lt_of_cell? _ _ (((HB.out.cell (World.block_lt_of_cell? w _ hw243_0)).trans hw243_0)))).trans (((HB.out.cell (World.block_lt_of_cell? w _ hw243_0)).trans hw243_0)),(World.cell?_alloc_lt _ _ _ (World.block_lt_of_cell? _ _ (((HB.out.cell (World.block_lt_of_cell? w _ hw243_1)).trans hw243_1)))).trans (((HB.out.cell (World.block_lt_of_cell? w _ hw243_1)).trans hw243_1)),(World.cell?_alloc_lt _ _ _ (World.block_lt_of_cell? _ _ (((HB.out.cell (World.block_lt_of_cell? w _ hw243_2)).trans hw243_2)))).trans (((HB.out.cell (World.block_lt_of_cell? w _ hw243_2)).trans hw243_2)),(World.cell?_alloc_lt _ _ _ (World.block_lt_of_cell? _ _ (((HB.out.cell (World.block_lt_of_cell? w _ hw244_0)).trans hw244_0)))).trans (((HB.out.cell (World.block_lt_of_cell? w _ hw244_0)).trans hw244_0)),(World.cell?_alloc_lt _ _ _ (World.block_lt_of_cell? _ _ (((HB.out.cell (World.block_lt_of_cell? w _ hw244_1)).trans hw244_1)))).trans (((HB.out.cell (World.block_lt_of_cell? w _ hw244_1)).trans hw244_1)),(World.cell?_alloc_lt _ _ _ (World.block_lt_of_cell? _ _ (((HB.out.cell (World.block_lt_of_cell? w _ hw244_2)).trans hw244_2)))).trans (((HB.out.cell (World.block_lt_of_cell? w _ hw244_2)).trans hw244_2)),(World.cell?_alloc_lt _ _ _ (World.block_lt_of_cell? _ _ (((HB.out.cell (World.block_lt_of_cell? w _ hw245_0)).trans hw245_0)))).trans (((HB.out.cell (World.block_lt_of_cell? w _ hw245_0)).trans hw245_0)),(World.cell?_alloc_lt _ _ _ (World.block_lt_of_cell? _ _ (((HB.out.cell (World.block_lt_of_cell? w _ hw245_1)).trans hw245_1)))).trans (((HB.out.cell (World.block_lt_of_cell? w _ hw245_1)).trans hw245_1)),(World.cell?_alloc_lt _ _ _ (World.block_lt_of_cell? _ _ (((HB.out.cell (World.block_lt_of_cell? w _ hw245_2)).trans hw245_2)))).trans (((HB.out.cell (World.block_lt_of_cell? w _ hw245_2)).trans hw245_2))⟩ (fun hHeld=>?_)
 clear hK K
 refine norm_ (a':=?_) ?_ ?_
 rotate_left
 ·show Act.put _ (some 33) _=_
  simp only[ap]
  rfl
 refine one_ (i:=20) (N:=some 34) (lb 22 2097151) rfl rfl (one_of HT_.out (by kernel_rfl)) (by decide) (fun K hK=>?_)
 refine R_append_step k63 (w0:=w) w.heap.size (by rfl) (.tmp 14) (.tmp 33) 30 63 (.agg #[(.int .i64 0),(.int .i64 0),(.int .i64 0)]) 24 rfl Try.underlying30 info63 rfl (by decide) (by omega) u5 x5_1 (⟨(rd_T63 l0 x6_1).f0,wrap64 (((rd_T63 l0 x6_1).f1)+a1),(rd_T63 l0 x6_1).f2⟩:S63) [.int .i64 ((rd_T63 l0 x6_1).f0),.int .i64 (wrap64 (((rd_T63 l0 x6_1).f1)+a1)),.int .i64 ((rd_T63 l0 x6_1).f2)] (fun _=>True) (fun _=>False) rfl rfl ?aP (fun _ hk=>hk.elim) ?aF ?aO ?aB ?aS ?aL ?_
 (case aP=>exact k63_mkM _ _ _ (⟨(rd_T63 l0 x6_1).f0,wrap64 (((rd_T63 l0 x6_1).f1)+a1),(rd_T63 l0 x6_1).f2⟩:S63))
 (case aB=>exact(hm HB.out))
 (case aF=>exact(fun _ _=>trivial))
 (case aO=>exact(rm HO_5.out))
 (case aS=>exact(below_size (hm HB.out)))
 (case aL=>have:=LMc7.out;omega)
 intro v247 w9 ho hb hg hat
 rw[←Ny246.out]at ho
 replace HB:=ak hb
 have HO248:=ak ho
 clear HO_5
 clear ho hb hg hat
 refine hK.out _ _ ⟨((HB.out.cell (World.block_lt_of_cell? w _ hw243_0)).trans hw243_0),((HB.out.cell (World.block_lt_of_cell? w _ hw243_1)).trans hw243_1),((HB.out.cell (World.block_lt_of_cell? w _ hw243_2)).trans hw243_2),((HB.out.cell (World.block_lt_of_cell? w _ hw244_0)).trans hw244_0),((HB.out.cell (World.block_lt_of_cell? w _ hw244_1)).trans hw244_1),((HB.out.cell (World.block_lt_of_cell? w _ hw244_2)).trans hw244_2),((HB.out.cell (World.block_lt_of_cell? w _ hw245_0)).trans hw245_0),((HB.out.cell (World.block_lt_of_cell? w _ hw245_1)).trans hw245_1),((HB.out.cell (World.block_lt_of_cell? w _ hw245_2)).trans hw245_2)⟩ (fun hHeld=>?_)
 clear hK K
 refine norm_ (a':=?_) ?_ ?_
 rotate_left
 ·show Act.put _ (some 34) _=_
  simp only[ap]
  rfl
 refine pq 21 (N:=some 5) (lb 22 4194303) HT_ ?_
 refine done_ (done_of HT_.out (by kernel_rfl)) ?_
 try go_wp2
 go_roundg k1
 case measure=>have:=HK1.out;omega
 case rel=>exact⟨(y246),(wrap64 (x6_1+1)),fd,H',⟨by have:=HK1.out;omega⟩,⟨rm HO248.out⟩,⟨hm HB.out⟩⟩
def spec_ExtraRange.l0:Nat→List (S63)→Int→Int→Int→Int→Bool→Option (Int × Bool)
 | 0,_,_,_,_,_,_=>none
 | k+1,x1,x2,x3,x10,x250000,x250001=>if x10≤48 then((spec_l7More.f k x1 x10).bind fun t251=>((spec_l7Table.f k x250000 x250001 t251 x2).bind fun t254=>(if 0≤(wrap64 ((t254.length:Int)-1))then(if(wrap64 ((t254.length:Int)-1))<(t254.length:Int)then(if(rd t254 (wrap64 ((t254.length:Int)-1)))≥x3 then(some (x10,true))else(spec_ExtraRange.l0 k x1 x2 x3 (wrap64 (x10+1)) x250000 x250001))else(none))else(none))))else(some (0,false))
def spec_ExtraRange.f (k:Nat) (a0_0:Int) (a0_1:Bool) (l1:List (S63)) (a2:Int) (a3:Int):Option (Int × Bool):=(spec_l7Asks.f k a0_0 a0_1 l1 a2 a3).bind fun t250=>(if t250=true then(spec_ExtraRange.l0 k l1 a2 a3 0 a0_0 a0_1)else(some (0,false)))
theorem spec_ExtraRange.mono_l:∀ k,(∀ y0 y1 y2 y3 y4 y5,LeO (spec_ExtraRange.l0 k y0 y1 y2 y3 y4 y5) (spec_ExtraRange.l0 (k+1) y0 y1 y2 y3 y4 y5))
 | 0=>by
  refine ?_<;>(intros;intro r h;simp[spec_ExtraRange.l0]at h)
 | k+1=>by
  have ih0:=spec_ExtraRange.mono_l k
  refine ?_<;>intros<;>unfold spec_ExtraRange.l0<;>(repeat' (with_reducible first|exact ih0 ..|exact spec_l7Asks.mono ..|exact spec_l7More.mono ..|exact spec_l7Table.mono ..|exact LeO.refl _|exact LeO.none _|refine LeO.ite ?_ ?_|refine LeO.bind ?_ (fun _=>?_)))
theorem spec_ExtraRange.mono:∀ a0 a1 a2 a3 a4 k,LeO (spec_ExtraRange.f k a0 a1 a2 a3 a4) (spec_ExtraRange.f (k+1) a0 a1 a2 a3 a4):=by
 intro a0 a1 a2 a3 a4 k
 have ih0:=spec_ExtraRange.mono_l k
 unfold spec_ExtraRange.f
 repeat' (with_reducible first|exact ih0 ..|exact spec_l7Asks.mono ..|exact spec_l7More.mono ..|exact spec_l7Table.mono ..|exact LeO.refl _|exact LeO.none _|refine LeO.ite ?_ ?_|refine LeO.bind ?_ (fun _=>?_))
set_option maxHeartbeats 8000000 in
set_option maxRecDepth 100000 in
theorem spec_ExtraRange.calls (k:Nat) (a0_0:Int) (a0_1:Bool) (A1:Option Addr) (c1:Nat) (l1:List (S63)) (a2:Int) (a3:Int) (r1:Int) (r2:Bool) (w:World) (hr1:Kd.C k63 w A1 l1.length l1) (hc1:l1.length≤c1) (h:spec_ExtraRange.f k a0_0 a0_1 l1 a2 a3=some (r1,r2)):
  Calls Try.prog 21 #[.agg #[.int .i64 a0_0,.bool a0_1],.slice A1 l1.length c1,.int .i64 a2,.int .i64 a3] w fun e w'=>e= .returned (.tuple #[.int .i64 r1,.bool r2])∧Below w.heap.size w w':=by
 have hu28:=Try.underlying28
 have HR1:=Aside0.mk hr1
 have HC1:=Aside0.mk hc1
 clear hr1 hc1
 have HB:=Aside0.mk (Below.refl w.heap.size w)
 unfold spec_ExtraRange.f at h
 have H:=h
 clear h
 obtain⟨t250,A5,H⟩:=bd H;(try dsimp only at H)
 by_cases c6:t250=true
 rotate_left
 ·replace c6:=Bool.eq_false_iff.mpr c6
  subst c6
  rw[if_neg (show ¬(false=true)by decide)]at H
  simp only[Option.some.injEq,Prod.mk.injEq]at H
  obtain⟨rfl,rfl⟩:=H
  go_enter Try.func21,Try.ntmps21
  go_wp2_with (first|(refine bx 4 #[.int .i64 a0_0,.bool a0_1] 28 ?_;intro gb249 hg w27 hbox hb;have BK249:=ak hbox;have GW249:=gw HB hg;have GE249:=gw HB hg;replace HB:=bs HB hb;clear hb hbox hg;have hcz28_0:=bc BK249 0 rfl;have hcz28_1:=bc BK249 1 rfl;have hfz28_0:=bf BK249 0;have hfz28_1:=bf BK249 1)|(refine gs 16 Try.func55 #[.agg #[.int .i64 a0_0,.bool a0_1],.slice A1 l1.length c1,.int .i64 a2,.int .i64 a3] ?_;(with_reducible refine(spec_l7Asks.calls k a0_0 a0_1 _ _ l1 a2 a3 false _ ?side1 ?side2 A5.out).mono ?_);(case side1=>exact cm (C_below HR1.out HB.out));(case side2=>exact HC1.out);rintro e w29 ⟨rfl,hb⟩;refine⟨_,rfl,?_⟩;replace BK249:=kb BK249 hb;replace HB:=ak (below_step (h1 HB.out GE249.out) hb);(try clear hb);(try clear hk);(try clear hi)))
  go_ret2
  exact⟨fe,h1 HB.out GE249.out⟩
 subst c6
 rw[if_pos rfl]at H
 have H':=Aside0.mk H
 clear H
 go_enter Try.func21,Try.ntmps21
 go_wp2_with (first|(refine bx 4 #[.int .i64 a0_0,.bool a0_1] 28 ?_;intro gb249 hg w7 hbox hb;have BK249:=ak hbox;have GW249:=gw HB hg;have GE249:=gw HB hg;replace HB:=bs HB hb;clear hb hbox hg;have hcz8_0:=bc BK249 0 rfl;have hcz8_1:=bc BK249 1 rfl;have hfz8_0:=bf BK249 0;have hfz8_1:=bf BK249 1)|(refine gs 16 Try.func55 #[.agg #[.int .i64 a0_0,.bool a0_1],.slice A1 l1.length c1,.int .i64 a2,.int .i64 a3] ?_;(with_reducible refine(spec_l7Asks.calls k a0_0 a0_1 _ _ l1 a2 a3 true _ ?side1 ?side2 A5.out).mono ?_);(case side1=>exact cm (C_below HR1.out HB.out));(case side2=>exact HC1.out);rintro e w9 ⟨rfl,hb⟩;refine⟨_,rfl,?_⟩;replace BK249:=kb BK249 hb;replace HB:=ak (below_step (h1 HB.out GE249.out) hb);(try clear hb);(try clear hk);(try clear hi)))
 go_loopg [10] k (fun kq v10 w'=>∃ (x10_1:Int),v10= .int .i64 x10_1∧Aside0 (spec_ExtraRange.l0 kq l1 a2 a3 x10_1 a0_0 a0_1=some (r1,r2))∧Aside0 (kq≤k)∧Aside0 (w'.heap[gb249]? =some (.cells #[.int .i64 a0_0,.bool a0_1] 28 (0,0)))∧Aside0 (Below w.heap.size w w'))
 case atStart=>exact⟨(0),fd,H',⟨Nat.le_refl _⟩,⟨bm BK249.out⟩,⟨h1 HB.out GE249.out⟩⟩
 clear H'
 try clear c1
 try clear c2
 try clear p2
 try clear c5
 try clear c6
 try clear hcz8_0
 try clear hcz8_1
 try clear hfz8_0
 try clear hfz8_1
 obtain⟨x10_1,rfl,HA,HK1,BK249,HB⟩:=hrel
 obtain _|k1:=gk;·cases HA.out
 obtain⟨H⟩:=HA
 simp only[spec_ExtraRange.l0]at H
 by_cases c10:x10_1≤48
 rotate_left
 ·rw[if_neg c10]at H
  have c10b0:decide (x10_1≤48)=false:=decide_eq_false c10
  clear c10
  simp only[Option.some.injEq,Prod.mk.injEq]at H
  obtain⟨rfl,rfl⟩:=H
  go_wp2
  go_ret2
  exact⟨fe,h1 HB.out GE249.out⟩
 rw[if_pos c10]at H
 have c10b0:decide (x10_1≤48)=true:=decide_eq_true c10
 clear c10
 obtain⟨t251,A11,H⟩:=bd H;(try dsimp only at H)
 obtain⟨t254,A12,H⟩:=bd H;(try dsimp only at H)
 generalize hji13: (wrap64 ((t254.length:Int)-1))=ji13 at H
 (try rw[hji13]at A11)
 (try rw[hji13]at A12)
 have hji13w: (IntKind.i64.wrap ((t254.length:Int)-1))=ji13:=(i64_w _).trans hji13
 obtain⟨c14,H⟩:=gi H
 have c14b0:decide (0≤(ji13))=true:=decide_eq_true c14
 clear c14
 obtain⟨c15,H⟩:=gi H
 have c15b0:decide ((ji13)<(t254.length:Int))=true:=decide_eq_true c15
 clear c15
 by_cases c16: (rd t254 (ji13))≥a3
 rotate_left
 ·rw[if_neg c16]at H
  have c16b0:decide (a3≤(rd t254 (ji13)))=false:=decide_eq_false c16
  clear c16
  have H':=Aside0.mk H
  clear H
  try go_wp2
  replace BK249:=ak (blk_drew BK249.out)
  replace HB:=ak (below_drew1 HB.out)
  refine start_ (n:=7) (S:=fun w'=>w'.cell? ⟨gb249,0,none⟩=some (.int .i64 a0_0)∧w'.cell? ⟨gb249,1,none⟩=some (.bool a0_1)) (ds:=[]) (lb 7 0) (by kernel_rfl) rfl rfl ⟨bc BK249 0 rfl,bc BK249 1 rfl⟩ (fun hHeld=>?_)
  generalize wr.drew=w22 at BK249 HB hHeld⊢
  refine pure_ (i:=1) (N:=some 23) (v:=?_) (a':=?_) (lb 7 2) rfl rfl (by kernel_rfl) (fun _ _ _ h=>h) (Or.inl ⟨by rfl,?_⟩) ?_ ?_
  rotate_left
  ·intro w'
   go_simp
   with_reducible rfl
  rotate_left
  ·simp only[ap]
   rfl
  refine pure_ (i:=2) (N:=some 24) (v:=?_) (a':=?_) (lb 7 6) rfl rfl (by kernel_rfl) (fun _ _ _ h=>h) (Or.inl ⟨by rfl,?_⟩) ?_ ?_
  rotate_left
  ·intro w'
   go_simp
   with_reducible rfl
  rotate_left
  ·simp only[ap]
   rfl
  refine pure_ (i:=4) (N:=some 26) (v:=?_) (a':=?_) (lb 7 22) rfl rfl (by kernel_rfl) (fun _ _ _ h=>h) (Or.inl ⟨by rfl,?_⟩) ?_ ?_
  rotate_left
  ·intro w'
   go_simp
   with_reducible rfl
  rotate_left
  ·simp only[ap]
   rfl
  refine take_ (i:=0) (N:=some 22) (v:=?_) (a':=?_) (lb 7 23) rfl rfl (by kernel_rfl) (fun _ _ _ h=>h) (Or.inl ⟨by rfl,?_⟩) hHeld ?_ ?_
  rotate_left
  ·rintro w' ⟨s0,s1⟩
   go_simp
   with_reducible rfl
  rotate_left
  ·simp only[ap]
   rfl
  refine one_ (i:=3) (N:=some 25) (lb 7 31) rfl rfl (by kernel_rfl) (by decide) (fun K hK=>?_)
  refine goes_ Try.func67 (by kernel_rfl) rfl #[.slice A1 l1.length c1,.int .i64 x10_1] (by rfl) rfl rfl gl ?_
  with_reducible refine(spec_l7More.calls k1 _ _ l1 x10_1 t251 _ ?side1 ?side2 A11.out).mono ?_
  (case side1=>exact cm (C_below HR1.out HB.out))
  (case side2=>exact HC1.out)
  rintro e w23 ⟨v252,rfl,ho0,hb⟩
  refine⟨_,rfl,?_⟩
  have HO253:=ak (R_lower ho0 (below_size (h1 HB.out GE249.out)))
  replace BK249:=kb BK249 hb
  replace HB:=ak (below_step (h1 HB.out GE249.out) hb)
  (try clear hb)
  (try clear hb2)
  (try clear hk)
  (try clear hi)
  (try clear ho0)
  obtain⟨Ao24,co24,eo24⟩:=R_slice HO253.out
  (first|subst eo24|(injection eo24 with f1_ f2_ f3_;have f4_:=f1_.symm;have f5_:=f3_.symm;clear f1_ f2_ f3_;subst f4_;subst f5_))
  refine hK.out _ _ ⟨bc BK249 0 rfl,bc BK249 1 rfl⟩ (fun hHeld=>?_)
  clear hK K
  refine norm_ (a':=?_) ?_ ?_
  rotate_left
  ·show Act.put _ (some 25) _=_
   simp only[ap]
   rfl
  refine one_ (i:=5) (N:=some 27) (lb 7 63) rfl rfl (by kernel_rfl) (by decide) (fun K hK=>?_)
  refine goes_ Try.func56 (by kernel_rfl) rfl #[.agg #[.int .i64 a0_0,.bool a0_1],.slice Ao24 t251.length co24,.int .i64 a2] (by rfl) rfl rfl gl ?_
  with_reducible refine(spec_l7Table.calls k1 a0_0 a0_1 _ _ t251 a2 t254 _ ?side1 ?side2 A12.out).mono ?_
  (case side1=>exact cm (R_reads' HO253.out).2.2)
  (case side2=>exact(R_reads' HO253.out).2.1)
  rintro e w25 ⟨v255,rfl,ho0,hb⟩
  refine⟨_,rfl,?_⟩
  replace HO253:=rb HO253 hb
  have HO256:=ak (R_lower ho0 (below_size (h1 HB.out GE249.out)))
  replace BK249:=kb BK249 hb
  replace HB:=ak (below_step (h1 HB.out GE249.out) hb)
  (try clear hb)
  (try clear hb2)
  (try clear hk)
  (try clear hi)
  (try clear ho0)
  refine hK.out _ _ ⟨bc BK249 0 rfl,bc BK249 1 rfl⟩ (fun hHeld=>?_)
  clear hK K
  refine norm_ (a':=?_) ?_ ?_
  rotate_left
  ·show Act.put _ (some 27) _=_
   simp only[ap]
   rfl
  refine pure_ (i:=6) (N:=some 11) (v:=?_) (a':=?_) (lb 7 127) rfl rfl (by kernel_rfl) (fun _ _ _ h=>h) (Or.inl ⟨by rfl,?_⟩) ?_ ?_
  rotate_left
  ·intro w'
   go_simp
   with_reducible rfl
  rotate_left
  ·simp only[ap]
   rfl
  refine done_ (by kernel_rfl) ?_
  obtain⟨Ao26,co26,eo26⟩:=R_slice HO256.out
  subst eo26
  have p257:0≤((ji13):Int):=od
  have q257: (ji13)<(t254.length:Int):=od
  obtain⟨ad257,e257,hx257_0⟩:=Kd.at_int (R_reads' HO256.out).2.2 (ji13) p257 q257
  cases e257
  replace p257:=eq_true p257
  replace q257:=eq_true q257
  try go_wp2
  go_roundg k1
  case measure=>have:=HK1.out;omega
  case rel=>exact⟨(wrap64 (x10_1+1)),fd,H',⟨by have:=HK1.out;omega⟩,⟨bm BK249.out⟩,⟨h1 HB.out GE249.out⟩⟩
 rw[if_pos c16]at H
 have c16b0:decide (a3≤(rd t254 (ji13)))=true:=decide_eq_true c16
 clear c16
 simp only[Option.some.injEq,Prod.mk.injEq]at H
 obtain⟨rfl,rfl⟩:=H
 try go_wp2
 replace BK249:=ak (blk_drew BK249.out)
 replace HB:=ak (below_drew1 HB.out)
 refine start_ (n:=7) (S:=fun w'=>w'.cell? ⟨gb249,0,none⟩=some (.int .i64 a0_0)∧w'.cell? ⟨gb249,1,none⟩=some (.bool a0_1)) (ds:=[]) (lb 7 0) (by kernel_rfl) rfl rfl ⟨bc BK249 0 rfl,bc BK249 1 rfl⟩ (fun hHeld=>?_)
 generalize wr.drew=w17 at BK249 HB hHeld⊢
 refine pure_ (i:=1) (N:=some 23) (v:=?_) (a':=?_) (lb 7 2) rfl rfl (by kernel_rfl) (fun _ _ _ h=>h) (Or.inl ⟨by rfl,?_⟩) ?_ ?_
 rotate_left
 ·intro w'
  go_simp
  with_reducible rfl
 rotate_left
 ·simp only[ap]
  rfl
 refine pure_ (i:=2) (N:=some 24) (v:=?_) (a':=?_) (lb 7 6) rfl rfl (by kernel_rfl) (fun _ _ _ h=>h) (Or.inl ⟨by rfl,?_⟩) ?_ ?_
 rotate_left
 ·intro w'
  go_simp
  with_reducible rfl
 rotate_left
 ·simp only[ap]
  rfl
 refine pure_ (i:=4) (N:=some 26) (v:=?_) (a':=?_) (lb 7 22) rfl rfl (by kernel_rfl) (fun _ _ _ h=>h) (Or.inl ⟨by rfl,?_⟩) ?_ ?_
 rotate_left
 ·intro w'
  go_simp
  with_reducible rfl
 rotate_left
 ·simp only[ap]
  rfl
 refine take_ (i:=0) (N:=some 22) (v:=?_) (a':=?_) (lb 7 23) rfl rfl (by kernel_rfl) (fun _ _ _ h=>h) (Or.inl ⟨by rfl,?_⟩) hHeld ?_ ?_
 rotate_left
 ·rintro w' ⟨s0,s1⟩
  go_simp
  with_reducible rfl
 rotate_left
 ·simp only[ap]
  rfl
 refine one_ (i:=3) (N:=some 25) (lb 7 31) rfl rfl (by kernel_rfl) (by decide) (fun K hK=>?_)
 refine goes_ Try.func67 (by kernel_rfl) rfl #[.slice A1 l1.length c1,.int .i64 x10_1] (by rfl) rfl rfl gl ?_
 with_reducible refine(spec_l7More.calls k1 _ _ l1 x10_1 t251 _ ?side1 ?side2 A11.out).mono ?_
 (case side1=>exact cm (C_below HR1.out HB.out))
 (case side2=>exact HC1.out)
 rintro e w18 ⟨v252,rfl,ho0,hb⟩
 refine⟨_,rfl,?_⟩
 have HO253:=ak (R_lower ho0 (below_size (h1 HB.out GE249.out)))
 replace BK249:=kb BK249 hb
 replace HB:=ak (below_step (h1 HB.out GE249.out) hb)
 (try clear hb)
 (try clear hb2)
 (try clear hk)
 (try clear hi)
 (try clear ho0)
 obtain⟨Ao19,co19,eo19⟩:=R_slice HO253.out
 (first|subst eo19|(injection eo19 with f1_ f2_ f3_;have f4_:=f1_.symm;have f5_:=f3_.symm;clear f1_ f2_ f3_;subst f4_;subst f5_))
 refine hK.out _ _ ⟨bc BK249 0 rfl,bc BK249 1 rfl⟩ (fun hHeld=>?_)
 clear hK K
 refine norm_ (a':=?_) ?_ ?_
 rotate_left
 ·show Act.put _ (some 25) _=_
  simp only[ap]
  rfl
 refine one_ (i:=5) (N:=some 27) (lb 7 63) rfl rfl (by kernel_rfl) (by decide) (fun K hK=>?_)
 refine goes_ Try.func56 (by kernel_rfl) rfl #[.agg #[.int .i64 a0_0,.bool a0_1],.slice Ao19 t251.length co19,.int .i64 a2] (by rfl) rfl rfl gl ?_
 with_reducible refine(spec_l7Table.calls k1 a0_0 a0_1 _ _ t251 a2 t254 _ ?side1 ?side2 A12.out).mono ?_
 (case side1=>exact cm (R_reads' HO253.out).2.2)
 (case side2=>exact(R_reads' HO253.out).2.1)
 rintro e w20 ⟨v255,rfl,ho0,hb⟩
 refine⟨_,rfl,?_⟩
 replace HO253:=rb HO253 hb
 have HO256:=ak (R_lower ho0 (below_size (h1 HB.out GE249.out)))
 replace BK249:=kb BK249 hb
 replace HB:=ak (below_step (h1 HB.out GE249.out) hb)
 (try clear hb)
 (try clear hb2)
 (try clear hk)
 (try clear hi)
 (try clear ho0)
 refine hK.out _ _ ⟨bc BK249 0 rfl,bc BK249 1 rfl⟩ (fun hHeld=>?_)
 clear hK K
 refine norm_ (a':=?_) ?_ ?_
 rotate_left
 ·show Act.put _ (some 27) _=_
  simp only[ap]
  rfl
 refine pure_ (i:=6) (N:=some 11) (v:=?_) (a':=?_) (lb 7 127) rfl rfl (by kernel_rfl) (fun _ _ _ h=>h) (Or.inl ⟨by rfl,?_⟩) ?_ ?_
 rotate_left
 ·intro w'
  go_simp
  with_reducible rfl
 rotate_left
 ·simp only[ap]
  rfl
 refine done_ (by kernel_rfl) ?_
 obtain⟨Ao21,co21,eo21⟩:=R_slice HO256.out
 subst eo21
 have p257:0≤((ji13):Int):=od
 have q257: (ji13)<(t254.length:Int):=od
 obtain⟨ad257,e257,hx257_0⟩:=Kd.at_int (R_reads' HO256.out).2.2 (ji13) p257 q257
 cases e257
 replace p257:=eq_true p257
 replace q257:=eq_true q257
 try go_wp2
 go_ret2
 exact⟨by first|rfl|(simp[errW_none,errW_some]<;>rfl)|(simp only[←hji13];first|rfl|(simp[errW_none,errW_some]<;>rfl))|(simp[*,errW_none,errW_some]<;>rfl),h1 HB.out GE249.out⟩
end
end Go.Proofs.Ythagkpoinjpmfaa.QFnReaches
