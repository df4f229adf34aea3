/- Functions that the law FnRelays comes to, and their walks: no condition but those named. -/
import Derived.Test.YthagkpoinjpmfaaQFnRelaysx0
import Derived.Test.YthagkpoinjpmfaaQFnRelaysx3
namespace Go.Proofs.Ythagkpoinjpmfaa.QFnRelays
open Go.RowKit Go.Proofs.YthagkpoinjpmfaaW.PrintWords Go.Proofs.YthagkpoinjpmfaaW.PrintLast Go.Proofs.YthagkpoinjpmfaaW.PrintMore Go.Proofs.Ythagkpoinjpmfaa.Short
attribute [local go_sem] max2_int min2_int max_two min_two max_three min_three max_four min_four
set_option linter.unusedVariables false
set_option linter.unusedSimpArgs false
section
open Kd
def spec_l7Carriers.l0:Nat→List (S63)→Int→Int→Bool→Option (Bool)
 | 0,_,_,_,_=>none
 | k+1,x1,x5,x196000,x196001=>if x5<(x1.length:Int)then(if 0≤x5 then((spec_l7Carrier.f x196000 x196001 ((rd_T63 x1 x5).f0) ((rd_T63 x1 x5).f1) ((rd_T63 x1 x5).f2)).bind fun t197=>(if t197=true then(spec_l7Carriers.l0 k x1 (wrap64 (x5+1)) x196000 x196001)else(some false)))else(none))else((spec_l2Road.f x196000 x196001).bind fun t198=>(if t198=true then(if x196001=true then(some false)else(some (decide ((x1.length:Int)≤6))))else(some false)))
def spec_l7Carriers.f (k:Nat) (a0_0:Int) (a0_1:Bool) (l1:List (S63)):Option (Bool):=spec_l7Carriers.l0 k l1 0 a0_0 a0_1
theorem spec_l7Carriers.mono_l:∀ k,(∀ y0 y1 y2 y3,LeO (spec_l7Carriers.l0 k y0 y1 y2 y3) (spec_l7Carriers.l0 (k+1) y0 y1 y2 y3))
 | 0=>by
  refine ?_<;>(intros;intro r h;simp[spec_l7Carriers.l0]at h)
 | k+1=>by
  have ih0:=spec_l7Carriers.mono_l k
  refine ?_<;>intros<;>unfold spec_l7Carriers.l0<;>(repeat' (with_reducible first|exact ih0 ..|exact LeO.refl _|exact LeO.none _|refine LeO.ite ?_ ?_|refine LeO.bind ?_ (fun _=>?_)))
theorem spec_l7Carriers.mono:∀ a0 a1 a2 k,LeO (spec_l7Carriers.f k a0 a1 a2) (spec_l7Carriers.f (k+1) a0 a1 a2):=by
 intro a0 a1 a2 k
 have ih0:=spec_l7Carriers.mono_l k
 unfold spec_l7Carriers.f
 repeat' (with_reducible first|exact ih0 ..|exact LeO.refl _|exact LeO.none _|refine LeO.ite ?_ ?_|refine LeO.bind ?_ (fun _=>?_))
set_option maxHeartbeats 8000000 in
set_option maxRecDepth 100000 in
theorem spec_l7Carriers.calls (k:Nat) (a0_0:Int) (a0_1:Bool) (A1:Option Addr) (c1:Nat) (l1:List (S63)) (r:Bool) (w:World) (hr1:Kd.C k63 w A1 l1.length l1) (hc1:l1.length≤c1) (h:spec_l7Carriers.f k a0_0 a0_1 l1=some r):
  Calls Try.prog 77 #[.agg #[.int .i64 a0_0,.bool a0_1],.slice A1 l1.length c1] w fun e w'=>e= .returned (.bool r)∧Below w.heap.size w w':=by
 have hu28:=Try.underlying28
 have hu63:=Try.underlying63
 have HR1:=Aside0.mk hr1
 have HC1:=Aside0.mk hc1
 clear hr1 hc1
 have HB:=Aside0.mk (Below.refl w.heap.size w)
 unfold spec_l7Carriers.f at h
 have H:=h
 clear h
 have H':=Aside0.mk H
 clear H
 go_enter Try.func77,Try.ntmps77
 go_wp2_with (first|((with_reducible refine gate_dst (N:=2) rfl ?_);(try(refine gate_guard (by rfl) ?_;dsimp only));refine box_event ?hg (N:=2) ?hd (cs:=#[.int .i64 a0_0,.bool a0_1]) (t:=28) ?hr ?_;(case hd=>rfl);(case hg=>rfl);(case hr=>first|(go_simp;done)|(go_simp;rfl));intro gb195 hg w3 hbox hb;have BK195:=ak hbox;have GW195:=gw HB hg;have GE195:=gw HB hg;replace HB:=bs HB hb;clear hb hbox hg))
 go_loopg [5] k (fun kq v5 w'=>∃ (x5_1:Int),v5= .int .i64 x5_1∧Aside0 (spec_l7Carriers.l0 kq l1 x5_1 a0_0 a0_1=some r)∧Aside0 (kq≤k)∧Aside0 (w'.heap[gb195]? =some (.cells #[.int .i64 a0_0,.bool a0_1] 28 (0,0)))∧Aside0 (Below w.heap.size w w'))
 case atStart=>exact⟨(0),fd,H',⟨Nat.le_refl _⟩,⟨bm BK195.out⟩,⟨h1 HB.out GE195.out⟩⟩
 clear H'
 try clear c1
 try clear p2
 obtain⟨x5_1,rfl,HA,HK1,BK195,HB⟩:=hrel
 obtain _|k1:=gk;·cases HA.out
 obtain⟨H⟩:=HA
 simp only[spec_l7Carriers.l0]at H
 by_cases c4:x5_1<(l1.length:Int)
 rotate_left
 ·rw[if_neg c4]at H
  have c4b0:decide (x5_1<(l1.length:Int))=false:=decide_eq_false c4
  clear c4
  obtain⟨t198,A12,H⟩:=bd H;(try dsimp only at H)
  by_cases c13:t198=true
  rotate_left
  ·replace c13:=Bool.eq_false_iff.mpr c13
   subst c13
   rw[if_neg (show ¬(false=true)by decide)]at H
   obtain rfl:=Option.some.inj H
   have hcz21_0:=bc BK195 0 rfl
   have hcz21_1:=bc BK195 1 rfl
   have hfz21_0:=bf BK195 0
   have hfz21_1:=bf BK195 1
   go_wp2_with (first|(refine gs 20 Try.func99 #[.agg #[.int .i64 a0_0,.bool a0_1]] ?_;(with_reducible refine(spec_l2Road.calls a0_0 a0_1 false _ A12.out).mono ?_);rintro e w22 ⟨rfl,hb⟩;refine⟨_,rfl,?_⟩;replace BK195:=kb BK195 hb;replace HB:=ak (below_step (h1 HB.out GE195.out) hb);(try clear hb);(try clear hk);(try clear hi)))
   go_ret
   exact⟨fe,h1 HB.out GE195.out⟩
  subst c13
  rw[if_pos rfl]at H
  by_cases c14:a0_1=true
  ·subst c14
   rw[if_pos rfl]at H
   obtain rfl:=Option.some.inj H
   have hcz15_0:=bc BK195 0 rfl
   have hcz15_1:=bc BK195 1 rfl
   have hfz15_0:=bf BK195 0
   have hfz15_1:=bf BK195 1
   go_wp2_with (first|(refine gs 20 Try.func99 #[.agg #[.int .i64 a0_0,.bool true]] ?_;(with_reducible refine(spec_l2Road.calls a0_0 true true _ A12.out).mono ?_);rintro e w16 ⟨rfl,hb⟩;refine⟨_,rfl,?_⟩;replace BK195:=kb BK195 hb;replace HB:=ak (below_step (h1 HB.out GE195.out) hb);(try clear hb);(try clear hk);(try clear hi);have hcz17_0:=bc BK195 0 rfl;have hcz17_1:=bc BK195 1 rfl;have hfz17_0:=bf BK195 0;have hfz17_1:=bf BK195 1))
   go_ret
   exact⟨fe,h1 HB.out GE195.out⟩
  replace c14:=Bool.eq_false_iff.mpr c14
  subst c14
  rw[if_neg (show ¬(false=true)by decide)]at H
  obtain rfl:=Option.some.inj H
  have hcz18_0:=bc BK195 0 rfl
  have hcz18_1:=bc BK195 1 rfl
  have hfz18_0:=bf BK195 0
  have hfz18_1:=bf BK195 1
  go_wp2_with (first|(refine gs 20 Try.func99 #[.agg #[.int .i64 a0_0,.bool false]] ?_;(with_reducible refine(spec_l2Road.calls a0_0 false true _ A12.out).mono ?_);rintro e w19 ⟨rfl,hb⟩;refine⟨_,rfl,?_⟩;replace BK195:=kb BK195 hb;replace HB:=ak (below_step (h1 HB.out GE195.out) hb);(try clear hb);(try clear hk);(try clear hi);have hcz20_0:=bc BK195 0 rfl;have hcz20_1:=bc BK195 1 rfl;have hfz20_0:=bf BK195 0;have hfz20_1:=bf BK195 1))
  go_ret
  exact⟨fe,h1 HB.out GE195.out⟩
 rw[if_pos c4]at H
 have c4b0:decide (x5_1<(l1.length:Int))=true:=decide_eq_true c4
 clear c4
 obtain⟨c5,H⟩:=gi H
 have c5b0:decide (0≤x5_1)=true:=decide_eq_true c5
 clear c5
 obtain⟨t197,A6,H⟩:=bd H;(try dsimp only at H)
 by_cases c7:t197=true
 rotate_left
 ·replace c7:=Bool.eq_false_iff.mpr c7
  subst c7
  rw[if_neg (show ¬(false=true)by decide)]at H
  obtain rfl:=Option.some.inj H
  try go_wp2
  replace BK195:=ak (blk_drew BK195.out)
  replace HB:=ak (below_drew1 HB.out)
  have p196:0≤(x5_1:Int):=od
  have q196:x5_1<(l1.length:Int):=od
  obtain⟨ad196,e196,hx196_0,hx196_1,hx196_2⟩:=at_T63 HR1.out x5_1 p196 q196
  have hw196_2:=hx196_2
  have hw196_1:=hx196_1
  have hw196_0:=hx196_0
  cases e196
  replace hx196_0:=hc HB hx196_0
  replace hx196_1:=hc HB hx196_1
  replace hx196_2:=hc HB hx196_2
  replace p196:=eq_true p196
  replace q196:=eq_true q196
  refine start_ (n:=7) (S:=fun w'=>w'.cell? ⟨gb195,0,none⟩=some (.int .i64 a0_0)∧w'.cell? ⟨gb195,1,none⟩=some (.bool a0_1)∧w'.cell? (ad196.add ((x5_1).toNat*3))=some (.int .i64 ((rd_T63 l1 x5_1).f0))∧w'.cell? ⟨(ad196.add ((x5_1).toNat*3)).block,(ad196.add ((x5_1).toNat*3)).off+1,none⟩=some (.int .i64 ((rd_T63 l1 x5_1).f1))∧w'.cell? ⟨(ad196.add ((x5_1).toNat*3)).block,(ad196.add ((x5_1).toNat*3)).off+2,none⟩=some (.int .i64 ((rd_T63 l1 x5_1).f2))) (ds:=[]) (lb 7 0) (by kernel_rfl) rfl rfl ⟨bc BK195 0 rfl,bc BK195 1 rfl,((HB.out.cell (World.block_lt_of_cell? w _ hw196_0)).trans hw196_0),((HB.out.cell (World.block_lt_of_cell? w _ hw196_1)).trans hw196_1),((HB.out.cell (World.block_lt_of_cell? w _ hw196_2)).trans hw196_2)⟩ (fun hHeld=>?_)
  generalize wr.drew=w10 at BK195 HB hx196_0 hx196_1 hx196_2 hHeld⊢
  refine pure_ (i:=1) (N:=some 13) (v:=?_) (a':=?_) (lb 7 2) rfl rfl (by kernel_rfl) (fun _ _ _ h=>h) (Or.inl ⟨by rfl,?_⟩) ?_ ?_
  rotate_left
  ·intro w'
   go_simp
   with_reducible rfl
  rotate_left
  ·simp only[ap]
   rfl
  refine pure_ (i:=2) (N:=some 14) (v:=?_) (a':=?_) (lb 7 6) rfl rfl (by kernel_rfl) (fun _ _ _ h=>h) (Or.inl ⟨by rfl,?_⟩) ?_ ?_
  rotate_left
  ·intro w'
   go_simp
   with_reducible rfl
  rotate_left
  ·simp only[ap]
   rfl
  refine pure_ (i:=3) (N:=some 15) (v:=?_) (a':=?_) (lb 7 14) rfl rfl (by kernel_rfl) (fun _ _ _ h=>h) (Or.inl ⟨by rfl,?_⟩) ?_ ?_
  rotate_left
  ·intro w'
   go_simp
   with_reducible rfl
  rotate_left
  ·simp only[ap]
   rfl
  refine take_ (i:=0) (N:=some 12) (v:=?_) (a':=?_) (lb 7 15) rfl rfl (by kernel_rfl) (fun _ _ _ h=>h) (Or.inl ⟨by rfl,?_⟩) hHeld ?_ ?_
  rotate_left
  ·rintro w' ⟨s0,s1,s2,s3,s4⟩
   go_simp
   with_reducible rfl
  rotate_left
  ·simp only[ap]
   rfl
  refine take_ (i:=4) (N:=some 16) (v:=?_) (a':=?_) (lb 7 31) rfl rfl (by kernel_rfl) (fun _ _ _ h=>h) (Or.inl ⟨by rfl,?_⟩) hHeld ?_ ?_
  rotate_left
  ·rintro w' ⟨s0,s1,s2,s3,s4⟩
   go_simp
   with_reducible rfl
  rotate_left
  ·simp only[ap]
   rfl
  refine one_ (i:=5) (N:=some 17) (lb 7 63) rfl rfl (by kernel_rfl) (by decide) (fun K hK=>?_)
  refine goes_ Try.func97 (by kernel_rfl) rfl #[.agg #[.int .i64 a0_0,.bool a0_1],.agg #[.int .i64 ((rd_T63 l1 x5_1).f0),.int .i64 ((rd_T63 l1 x5_1).f1),.int .i64 ((rd_T63 l1 x5_1).f2)]] (by rfl) rfl rfl gl ?_
  with_reducible refine(spec_l7Carrier.calls a0_0 a0_1 ((rd_T63 l1 x5_1).f0) ((rd_T63 l1 x5_1).f1) ((rd_T63 l1 x5_1).f2) false _ A6.out).mono ?_
  rintro e w11 ⟨rfl,hb⟩
  refine⟨_,rfl,?_⟩
  replace BK195:=kb BK195 hb
  replace HB:=ak (below_step (h1 HB.out GE195.out) hb)
  (try clear hb)
  (try clear hb2)
  (try clear hk)
  (try clear hi)
  refine hK.out _ _ ⟨bc BK195 0 rfl,bc BK195 1 rfl,((HB.out.cell (World.block_lt_of_cell? w _ hw196_0)).trans hw196_0),((HB.out.cell (World.block_lt_of_cell? w _ hw196_1)).trans hw196_1),((HB.out.cell (World.block_lt_of_cell? w _ hw196_2)).trans hw196_2)⟩ (fun hHeld=>?_)
  clear hK K
  refine norm_ (a':=?_) ?_ ?_
  rotate_left
  ·show Act.put _ (some 17) _=_
   simp only[ap]
   rfl
  refine pure_ (i:=6) (N:=some 18) (v:=?_) (a':=?_) (lb 7 127) rfl rfl (by kernel_rfl) (fun _ _ _ h=>h) (Or.inl ⟨by rfl,?_⟩) ?_ ?_
  rotate_left
  ·intro w'
   go_simp
   with_reducible rfl
  rotate_left
  ·simp only[ap]
   rfl
  refine done_ (by kernel_rfl) ?_
  try go_wp2
  go_ret
  exact⟨fe,h1 HB.out GE195.out⟩
 subst c7
 rw[if_pos rfl]at H
 have H':=Aside0.mk H
 clear H
 try go_wp2
 replace BK195:=ak (blk_drew BK195.out)
 replace HB:=ak (below_drew1 HB.out)
 have p196:0≤(x5_1:Int):=od
 have q196:x5_1<(l1.length:Int):=od
 obtain⟨ad196,e196,hx196_0,hx196_1,hx196_2⟩:=at_T63 HR1.out x5_1 p196 q196
 have hw196_2:=hx196_2
 have hw196_1:=hx196_1
 have hw196_0:=hx196_0
 cases e196
 replace hx196_0:=hc HB hx196_0
 replace hx196_1:=hc HB hx196_1
 replace hx196_2:=hc HB hx196_2
 replace p196:=eq_true p196
 replace q196:=eq_true q196
 refine start_ (n:=7) (S:=fun w'=>w'.cell? ⟨gb195,0,none⟩=some (.int .i64 a0_0)∧w'.cell? ⟨gb195,1,none⟩=some (.bool a0_1)∧w'.cell? (ad196.add ((x5_1).toNat*3))=some (.int .i64 ((rd_T63 l1 x5_1).f0))∧w'.cell? ⟨(ad196.add ((x5_1).toNat*3)).block,(ad196.add ((x5_1).toNat*3)).off+1,none⟩=some (.int .i64 ((rd_T63 l1 x5_1).f1))∧w'.cell? ⟨(ad196.add ((x5_1).toNat*3)).block,(ad196.add ((x5_1).toNat*3)).off+2,none⟩=some (.int .i64 ((rd_T63 l1 x5_1).f2))) (ds:=[]) (lb 7 0) (by kernel_rfl) rfl rfl ⟨bc BK195 0 rfl,bc BK195 1 rfl,((HB.out.cell (World.block_lt_of_cell? w _ hw196_0)).trans hw196_0),((HB.out.cell (World.block_lt_of_cell? w _ hw196_1)).trans hw196_1),((HB.out.cell (World.block_lt_of_cell? w _ hw196_2)).trans hw196_2)⟩ (fun hHeld=>?_)
 generalize wr.drew=w8 at BK195 HB hx196_0 hx196_1 hx196_2 hHeld⊢
 refine pure_ (i:=1) (N:=some 13) (v:=?_) (a':=?_) (lb 7 2) rfl rfl (by kernel_rfl) (fun _ _ _ h=>h) (Or.inl ⟨by rfl,?_⟩) ?_ ?_
 rotate_left
 ·intro w'
  go_simp
  with_reducible rfl
 rotate_left
 ·simp only[ap]
  rfl
 refine pure_ (i:=2) (N:=some 14) (v:=?_) (a':=?_) (lb 7 6) rfl rfl (by kernel_rfl) (fun _ _ _ h=>h) (Or.inl ⟨by rfl,?_⟩) ?_ ?_
 rotate_left
 ·intro w'
  go_simp
  with_reducible rfl
 rotate_left
 ·simp only[ap]
  rfl
 refine pure_ (i:=3) (N:=some 15) (v:=?_) (a':=?_) (lb 7 14) rfl rfl (by kernel_rfl) (fun _ _ _ h=>h) (Or.inl ⟨by rfl,?_⟩) ?_ ?_
 rotate_left
 ·intro w'
  go_simp
  with_reducible rfl
 rotate_left
 ·simp only[ap]
  rfl
 refine take_ (i:=0) (N:=some 12) (v:=?_) (a':=?_) (lb 7 15) rfl rfl (by kernel_rfl) (fun _ _ _ h=>h) (Or.inl ⟨by rfl,?_⟩) hHeld ?_ ?_
 rotate_left
 ·rintro w' ⟨s0,s1,s2,s3,s4⟩
  go_simp
  with_reducible rfl
 rotate_left
 ·simp only[ap]
  rfl
 refine take_ (i:=4) (N:=some 16) (v:=?_) (a':=?_) (lb 7 31) rfl rfl (by kernel_rfl) (fun _ _ _ h=>h) (Or.inl ⟨by rfl,?_⟩) hHeld ?_ ?_
 rotate_left
 ·rintro w' ⟨s0,s1,s2,s3,s4⟩
  go_simp
  with_reducible rfl
 rotate_left
 ·simp only[ap]
  rfl
 refine one_ (i:=5) (N:=some 17) (lb 7 63) rfl rfl (by kernel_rfl) (by decide) (fun K hK=>?_)
 refine goes_ Try.func97 (by kernel_rfl) rfl #[.agg #[.int .i64 a0_0,.bool a0_1],.agg #[.int .i64 ((rd_T63 l1 x5_1).f0),.int .i64 ((rd_T63 l1 x5_1).f1),.int .i64 ((rd_T63 l1 x5_1).f2)]] (by rfl) rfl rfl gl ?_
 with_reducible refine(spec_l7Carrier.calls a0_0 a0_1 ((rd_T63 l1 x5_1).f0) ((rd_T63 l1 x5_1).f1) ((rd_T63 l1 x5_1).f2) true _ A6.out).mono ?_
 rintro e w9 ⟨rfl,hb⟩
 refine⟨_,rfl,?_⟩
 replace BK195:=kb BK195 hb
 replace HB:=ak (below_step (h1 HB.out GE195.out) hb)
 (try clear hb)
 (try clear hb2)
 (try clear hk)
 (try clear hi)
 refine hK.out _ _ ⟨bc BK195 0 rfl,bc BK195 1 rfl,((HB.out.cell (World.block_lt_of_cell? w _ hw196_0)).trans hw196_0),((HB.out.cell (World.block_lt_of_cell? w _ hw196_1)).trans hw196_1),((HB.out.cell (World.block_lt_of_cell? w _ hw196_2)).trans hw196_2)⟩ (fun hHeld=>?_)
 clear hK K
 refine norm_ (a':=?_) ?_ ?_
 rotate_left
 ·show Act.put _ (some 17) _=_
  simp only[ap]
  rfl
 refine pure_ (i:=6) (N:=some 18) (v:=?_) (a':=?_) (lb 7 127) rfl rfl (by kernel_rfl) (fun _ _ _ h=>h) (Or.inl ⟨by rfl,?_⟩) ?_ ?_
 rotate_left
 ·intro w'
  go_simp
  with_reducible rfl
 rotate_left
 ·simp only[ap]
  rfl
 refine done_ (by kernel_rfl) ?_
 try go_wp2
 go_roundg k1
 case measure=>have:=HK1.out;omega
 case rel=>exact⟨(wrap64 (x5_1+1)),fd,H',⟨by have:=HK1.out;omega⟩,⟨bm BK195.out⟩,⟨h1 HB.out GE195.out⟩⟩
def spec_l2Place.f (a0_0:Int) (a0_1:Bool) (a1:Int):Option (Bool):=(spec_l2Road.f a0_0 a0_1).bind fun t200=>(if t200=true then((spec_l1In.f a1 0 (wrap64 (a0_0-1))).bind fun t201=>(some t201))else(some false))
set_option maxHeartbeats 8000000 in
set_option maxRecDepth 100000 in
theorem spec_l2Place.calls (a0_0:Int) (a0_1:Bool) (a1:Int) (r:Bool) (w:World) (h:spec_l2Place.f a0_0 a0_1 a1=some r):
  Calls Try.prog 78 #[.agg #[.int .i64 a0_0,.bool a0_1],.int .i64 a1] w fun e w'=>e= .returned (.bool r)∧Below w.heap.size w w':=by
 have hu28:=Try.underlying28
 have HB:=Aside0.mk (Below.refl w.heap.size w)
 unfold spec_l2Place.f at h
 have H:=h
 clear h
 obtain⟨t200,A3,H⟩:=bd H;(try dsimp only at H)
 by_cases c4:t200=true
 rotate_left
 ·replace c4:=Bool.eq_false_iff.mpr c4
  subst c4
  rw[if_neg (show ¬(false=true)by decide)]at H
  obtain rfl:=Option.some.inj H
  go_enter Try.func78,Try.ntmps78
  go_wp2_with (first|(refine bx 2 #[.int .i64 a0_0,.bool a0_1] 28 ?_;intro gb199 hg w10 hbox hb;have BK199:=ak hbox;have GW199:=gw HB hg;have GE199:=gw HB hg;replace HB:=bs HB hb;clear hb hbox hg;have hcz11_0:=bc BK199 0 rfl;have hcz11_1:=bc BK199 1 rfl;have hfz11_0:=bf BK199 0;have hfz11_1:=bf BK199 1)|(refine gs 6 Try.func99 #[.agg #[.int .i64 a0_0,.bool a0_1]] ?_;(with_reducible refine(spec_l2Road.calls a0_0 a0_1 false _ A3.out).mono ?_);rintro e w12 ⟨rfl,hb⟩;refine⟨_,rfl,?_⟩;replace BK199:=kb BK199 hb;replace HB:=ak (below_step (h1 HB.out GE199.out) hb);(try clear hb);(try clear hk);(try clear hi)))
  go_ret
  exact⟨fe,h1 HB.out GE199.out⟩
 subst c4
 rw[if_pos rfl]at H
 obtain⟨t201,A5,H⟩:=bd H;(try dsimp only at H)
 obtain rfl:=Option.some.inj H
 go_enter Try.func78,Try.ntmps78
 go_wp2_with (first|(refine bx 2 #[.int .i64 a0_0,.bool a0_1] 28 ?_;intro gb199 hg w6 hbox hb;have BK199:=ak hbox;have GW199:=gw HB hg;have GE199:=gw HB hg;replace HB:=bs HB hb;clear hb hbox hg;have hcz7_0:=bc BK199 0 rfl;have hcz7_1:=bc BK199 1 rfl;have hfz7_0:=bf BK199 0;have hfz7_1:=bf BK199 1)|(refine gs 6 Try.func99 #[.agg #[.int .i64 a0_0,.bool a0_1]] ?_;(with_reducible refine(spec_l2Road.calls a0_0 a0_1 true _ A3.out).mono ?_);rintro e w8 ⟨rfl,hb⟩;refine⟨_,rfl,?_⟩;replace BK199:=kb BK199 hb;replace HB:=ak (below_step (h1 HB.out GE199.out) hb);(try clear hb);(try clear hk);(try clear hi);have hcz9_0:=bc BK199 0 rfl;have hcz9_1:=bc BK199 1 rfl;have hfz9_0:=bf BK199 0;have hfz9_1:=bf BK199 1)|(go_at_call 100;(try simp only[Go.IntWalk.i64_left]);(with_reducible refine(spec_l1In.calls a1 0 (wrap64 (a0_0-1)) t201 _ A5.out).mono ?_);rintro e w' ⟨rfl,⟨nd,rfl⟩⟩))
 go_ret
 exact⟨fe,h1 HB.out GE199.out⟩
def spec_l7Asks.f (k:Nat) (a0_0:Int) (a0_1:Bool) (l1:List (S63)) (a2:Int) (a3:Int):Option (Bool):=(spec_l7Carriers.f k a0_0 a0_1 l1).bind fun t203=>(if t203=true then((spec_l2Place.f a0_0 a0_1 a3).bind fun t204=>(if t204=true then((spec_l1In.f a2 0 a3).bind fun t205=>(some t205))else(some false)))else(some false))
theorem spec_l7Asks.mono:∀ a0 a1 a2 a3 a4 k,LeO (spec_l7Asks.f k a0 a1 a2 a3 a4) (spec_l7Asks.f (k+1) a0 a1 a2 a3 a4):=by
 intro a0 a1 a2 a3 a4 k
 unfold spec_l7Asks.f
 repeat' (with_reducible first|exact spec_l7Carriers.mono ..|exact LeO.refl _|exact LeO.none _|refine LeO.ite ?_ ?_|refine LeO.bind ?_ (fun _=>?_))
set_option maxHeartbeats 8000000 in
set_option maxRecDepth 100000 in
theorem spec_l7Asks.calls (k:Nat) (a0_0:Int) (a0_1:Bool) (A1:Option Addr) (c1:Nat) (l1:List (S63)) (a2:Int) (a3:Int) (r:Bool) (w:World) (hr1:Kd.C k63 w A1 l1.length l1) (hc1:l1.length≤c1) (h:spec_l7Asks.f k a0_0 a0_1 l1 a2 a3=some r):
  Calls Try.prog 55 #[.agg #[.int .i64 a0_0,.bool a0_1],.slice A1 l1.length c1,.int .i64 a2,.int .i64 a3] w fun e w'=>e= .returned (.bool r)∧Below w.heap.size w w':=by
 have hu28:=Try.underlying28
 have HR1:=Aside0.mk hr1
 have HC1:=Aside0.mk hc1
 clear hr1 hc1
 have HB:=Aside0.mk (Below.refl w.heap.size w)
 unfold spec_l7Asks.f at h
 have H:=h
 clear h
 obtain⟨t203,A5,H⟩:=bd H;(try dsimp only at H)
 by_cases c6:t203=true
 rotate_left
 ·replace c6:=Bool.eq_false_iff.mpr c6
  subst c6
  rw[if_neg (show ¬(false=true)by decide)]at H
  obtain rfl:=Option.some.inj H
  go_enter Try.func55,Try.ntmps55
  go_wp2_with (first|(refine bx 4 #[.int .i64 a0_0,.bool a0_1] 28 ?_;intro gb202 hg w20 hbox hb;have BK202:=ak hbox;have GW202:=gw HB hg;have GE202:=gw HB hg;replace HB:=bs HB hb;clear hb hbox hg;have hcz21_0:=bc BK202 0 rfl;have hcz21_1:=bc BK202 1 rfl;have hfz21_0:=bf BK202 0;have hfz21_1:=bf BK202 1)|(refine gs 11 Try.func77 #[.agg #[.int .i64 a0_0,.bool a0_1],.slice A1 l1.length c1] ?_;(with_reducible refine(spec_l7Carriers.calls k a0_0 a0_1 _ _ l1 false _ ?side1 ?side2 A5.out).mono ?_);(case side1=>exact cm (C_below HR1.out HB.out));(case side2=>exact HC1.out);rintro e w22 ⟨rfl,hb⟩;refine⟨_,rfl,?_⟩;replace BK202:=kb BK202 hb;replace HB:=ak (below_step (h1 HB.out GE202.out) hb);(try clear hb);(try clear hk);(try clear hi)))
  go_ret
  exact⟨fe,h1 HB.out GE202.out⟩
 subst c6
 rw[if_pos rfl]at H
 obtain⟨t204,A7,H⟩:=bd H;(try dsimp only at H)
 by_cases c8:t204=true
 rotate_left
 ·replace c8:=Bool.eq_false_iff.mpr c8
  subst c8
  rw[if_neg (show ¬(false=true)by decide)]at H
  obtain rfl:=Option.some.inj H
  go_enter Try.func55,Try.ntmps55
  go_wp2_with (first|(refine bx 4 #[.int .i64 a0_0,.bool a0_1] 28 ?_;intro gb202 hg w15 hbox hb;have BK202:=ak hbox;have GW202:=gw HB hg;have GE202:=gw HB hg;replace HB:=bs HB hb;clear hb hbox hg;have hcz16_0:=bc BK202 0 rfl;have hcz16_1:=bc BK202 1 rfl;have hfz16_0:=bf BK202 0;have hfz16_1:=bf BK202 1)|(refine gs 11 Try.func77 #[.agg #[.int .i64 a0_0,.bool a0_1],.slice A1 l1.length c1] ?_;(with_reducible refine(spec_l7Carriers.calls k a0_0 a0_1 _ _ l1 true _ ?side1 ?side2 A5.out).mono ?_);(case side1=>exact cm (C_below HR1.out HB.out));(case side2=>exact HC1.out);rintro e w17 ⟨rfl,hb⟩;refine⟨_,rfl,?_⟩;replace BK202:=kb BK202 hb;replace HB:=ak (below_step (h1 HB.out GE202.out) hb);(try clear hb);(try clear hk);(try clear hi);have hcz18_0:=bc BK202 0 rfl;have hcz18_1:=bc BK202 1 rfl;have hfz18_0:=bf BK202 0;have hfz18_1:=bf BK202 1)|(go_at_call 78;(with_reducible refine(spec_l2Place.calls a0_0 a0_1 a3 false _ A7.out).mono ?_);rintro e w19 ⟨rfl,hb⟩;replace BK202:=kb BK202 hb;replace HB:=ak (below_step (h1 HB.out GE202.out) hb);(try clear hb);(try clear hk);(try clear hi)))
  go_ret
  exact⟨fe,h1 HB.out GE202.out⟩
 subst c8
 rw[if_pos rfl]at H
 obtain⟨t205,A9,H⟩:=bd H;(try dsimp only at H)
 obtain rfl:=Option.some.inj H
 go_enter Try.func55,Try.ntmps55
 go_wp2_with (first|(refine bx 4 #[.int .i64 a0_0,.bool a0_1] 28 ?_;intro gb202 hg w10 hbox hb;have BK202:=ak hbox;have GW202:=gw HB hg;have GE202:=gw HB hg;replace HB:=bs HB hb;clear hb hbox hg;have hcz11_0:=bc BK202 0 rfl;have hcz11_1:=bc BK202 1 rfl;have hfz11_0:=bf BK202 0;have hfz11_1:=bf BK202 1)|(refine gs 11 Try.func77 #[.agg #[.int .i64 a0_0,.bool a0_1],.slice A1 l1.length c1] ?_;(with_reducible refine(spec_l7Carriers.calls k a0_0 a0_1 _ _ l1 true _ ?side1 ?side2 A5.out).mono ?_);(case side1=>exact cm (C_below HR1.out HB.out));(case side2=>exact HC1.out);rintro e w12 ⟨rfl,hb⟩;refine⟨_,rfl,?_⟩;replace BK202:=kb BK202 hb;replace HB:=ak (below_step (h1 HB.out GE202.out) hb);(try clear hb);(try clear hk);(try clear hi);have hcz13_0:=bc BK202 0 rfl;have hcz13_1:=bc BK202 1 rfl;have hfz13_0:=bf BK202 0;have hfz13_1:=bf BK202 1)|(go_at_call 78;(with_reducible refine(spec_l2Place.calls a0_0 a0_1 a3 true _ A7.out).mono ?_);rintro e w14 ⟨rfl,hb⟩;replace BK202:=kb BK202 hb;replace HB:=ak (below_step (h1 HB.out GE202.out) hb);(try clear hb);(try clear hk);(try clear hi))|(go_at_call 100;(with_reducible refine(spec_l1In.calls a2 0 a3 t205 _ A9.out).mono ?_);rintro e w' ⟨rfl,⟨nd,rfl⟩⟩))
 go_ret
 exact⟨fe,h1 HB.out GE202.out⟩
def spec_l1Most.f (a0:Int) (a1:Int):Option (Int):=if a0>a1 then(some a0)else(some a1)
set_option maxHeartbeats 8000000 in
set_option maxRecDepth 100000 in
theorem spec_l1Most.calls (a0:Int) (a1:Int) (r:Int) (w:World) (h:spec_l1Most.f a0 a1=some r):
  Calls Try.prog 101 #[.int .i64 a0,.int .i64 a1] w fun e w'=>e= .returned (.int .i64 r)∧Drawn0 w w':=by
 unfold spec_l1Most.f at h
 have H:=h
 clear h
 by_cases c3:a0>a1
 ·rw[if_pos c3]at H
  have c3b0:decide (a1<a0)=true:=decide_eq_true c3
  clear c3
  obtain rfl:=Option.some.inj H
  go_enter Try.func101,Try.ntmps101
  go_wp2
  go_ret
  exact⟨by first|rfl|(simp;done)|(simp[*];done),by repeat(first|exact Drawn0.refl _|apply Drawn0.step)⟩
 rw[if_neg c3]at H
 have c3b0:decide (a1<a0)=false:=decide_eq_false c3
 clear c3
 obtain rfl:=Option.some.inj H
 go_enter Try.func101,Try.ntmps101
 go_wp2
 go_ret
 exact⟨by first|rfl|(simp;done)|(simp[*];done),by repeat(first|exact Drawn0.refl _|apply Drawn0.step)⟩
def spec_l1Least.f (a0:Int) (a1:Int):Option (Int):=if a0<a1 then(some a0)else(some a1)
set_option maxHeartbeats 8000000 in
set_option maxRecDepth 100000 in
theorem spec_l1Least.calls (a0:Int) (a1:Int) (r:Int) (w:World) (h:spec_l1Least.f a0 a1=some r):
  Calls Try.prog 108 #[.int .i64 a0,.int .i64 a1] w fun e w'=>e= .returned (.int .i64 r)∧Drawn0 w w':=by
 unfold spec_l1Least.f at h
 have H:=h
 clear h
 by_cases c3:a0<a1
 ·rw[if_pos c3]at H
  have c3b0:decide (a0<a1)=true:=decide_eq_true c3
  clear c3
  obtain rfl:=Option.some.inj H
  go_enter Try.func108,Try.ntmps108
  go_wp2
  go_ret
  exact⟨by first|rfl|(simp;done)|(simp[*];done),by repeat(first|exact Drawn0.refl _|apply Drawn0.step)⟩
 rw[if_neg c3]at H
 have c3b0:decide (a0<a1)=false:=decide_eq_false c3
 clear c3
 obtain rfl:=Option.some.inj H
 go_enter Try.func108,Try.ntmps108
 go_wp2
 go_ret
 exact⟨by first|rfl|(simp;done)|(simp[*];done),by repeat(first|exact Drawn0.refl _|apply Drawn0.step)⟩
def spec_l2Gap.f (a0_0:Int) (a0_1:Bool) (a1:Int) (a2:Int):Option (Int):=(spec_l1Most.f (wrap64 (a1-a2)) (wrap64 (a2-a1))).bind fun t207=>(if a0_1=true then((spec_l1Least.f t207 (wrap64 (a0_0-t207))).bind fun t208=>(some t208))else(some t207))
set_option maxHeartbeats 8000000 in
set_option maxRecDepth 100000 in
theorem spec_l2Gap.calls (a0_0:Int) (a0_1:Bool) (a1:Int) (a2:Int) (r:Int) (w:World) (h:spec_l2Gap.f a0_0 a0_1 a1 a2=some r):
  Calls Try.prog 103 #[.agg #[.int .i64 a0_0,.bool a0_1],.int .i64 a1,.int .i64 a2] w fun e w'=>e= .returned (.int .i64 r)∧Below w.heap.size w w':=by
 have hu28:=Try.underlying28
 have HB:=Aside0.mk (Below.refl w.heap.size w)
 unfold spec_l2Gap.f at h
 have H:=h
 clear h
 obtain⟨t207,A4,H⟩:=bd H;(try dsimp only at H)
 by_cases c5:a0_1=true
 rotate_left
 ·replace c5:=Bool.eq_false_iff.mpr c5
  subst c5
  rw[if_neg (show ¬(false=true)by decide)]at H
  obtain rfl:=Option.some.inj H
  go_enter Try.func103,Try.ntmps103
  go_wp2_with (first|(refine bx 3 #[.int .i64 a0_0,.bool false] 28 ?_;intro gb206 hg w9 hbox hb;have BK206:=ak hbox;have GW206:=gw HB hg;have GE206:=gw HB hg;replace HB:=bs HB hb;clear hb hbox hg)|(refine gs 14 Try.func101 #[.int .i64 (wrap64 (a1-a2)),.int .i64 (wrap64 (a2-a1))] ?_;(with_reducible refine(spec_l1Most.calls (wrap64 (a1-a2)) (wrap64 (a2-a1)) t207 _ A4.out).mono ?_);rintro e w' ⟨rfl,⟨nd,rfl⟩⟩;refine⟨_,rfl,?_⟩;have hcz10_0:=bc BK206 0 rfl;have hcz10_1:=bc BK206 1 rfl;have hfz10_0:=bf BK206 0;have hfz10_1:=bf BK206 1))
  go_ret
  exact⟨fe,h1 HB.out GE206.out⟩
 subst c5
 rw[if_pos rfl]at H
 obtain⟨t208,A6,H⟩:=bd H;(try dsimp only at H)
 obtain rfl:=Option.some.inj H
 go_enter Try.func103,Try.ntmps103
 go_wp2_with (first|(refine bx 3 #[.int .i64 a0_0,.bool true] 28 ?_;intro gb206 hg w7 hbox hb;have BK206:=ak hbox;have GW206:=gw HB hg;have GE206:=gw HB hg;replace HB:=bs HB hb;clear hb hbox hg)|(refine gs 14 Try.func101 #[.int .i64 (wrap64 (a1-a2)),.int .i64 (wrap64 (a2-a1))] ?_;(with_reducible refine(spec_l1Most.calls (wrap64 (a1-a2)) (wrap64 (a2-a1)) t207 _ A4.out).mono ?_);rintro e w' ⟨rfl,⟨nd,rfl⟩⟩;refine⟨_,rfl,?_⟩;have hcz8_0:=bc BK206 0 rfl;have hcz8_1:=bc BK206 1 rfl;have hfz8_0:=bf BK206 0;have hfz8_1:=bf BK206 1)|(refine gs 22 Try.func108 #[.int .i64 t207,.int .i64 (wrap64 (a0_0-t207))] ?_;(with_reducible refine(spec_l1Least.calls t207 (wrap64 (a0_0-t207)) t208 _ A6.out).mono ?_);rintro e w' ⟨rfl,⟨nd,rfl⟩⟩;refine⟨_,rfl,?_⟩))
 go_ret
 exact⟨fe,h1 HB.out GE206.out⟩
def spec_l7Steps.f (a0_0:Int) (a0_1:Bool) (a1_0:Int) (a1_1:Int) (a1_2:Int) (a2:Int) (a3:Int):Option (Int):=(spec_l2Gap.f a0_0 a0_1 a1_0 a2).bind fun t211=>(some (wrap64 ((wrap64 (t211+a3))-a2)))
set_option maxHeartbeats 8000000 in
set_option maxRecDepth 100000 in
theorem spec_l7Steps.calls (a0_0:Int) (a0_1:Bool) (a1_0:Int) (a1_1:Int) (a1_2:Int) (a2:Int) (a3:Int) (r:Int) (w:World) (h:spec_l7Steps.f a0_0 a0_1 a1_0 a1_1 a1_2 a2 a3=some r):
  Calls Try.prog 61 #[.agg #[.int .i64 a0_0,.bool a0_1],.agg #[.int .i64 a1_0,.int .i64 a1_1,.int .i64 a1_2],.int .i64 a2,.int .i64 a3] w fun e w'=>e= .returned (.int .i64 r)∧Below w.heap.size w w':=by
 have hu28:=Try.underlying28
 have hu63:=Try.underlying63
 have HB:=Aside0.mk (Below.refl w.heap.size w)
 unfold spec_l7Steps.f at h
 have H:=h
 clear h
 obtain⟨t211,A5,H⟩:=bd H;(try dsimp only at H)
 obtain rfl:=Option.some.inj H
 go_enter Try.func61,Try.ntmps61
 go_wp2_with (first|(refine bx 4 #[.int .i64 a0_0,.bool a0_1] 28 ?_;intro gb209 hg w6 hbox hb;have BK209:=ak hbox;have GW209:=gw HB hg;have GE209:=gw HB hg;replace HB:=bs HB hb;clear hb hbox hg)|(refine bx 5 #[.int .i64 a1_0,.int .i64 a1_1,.int .i64 a1_2] 63 ?_;intro gb210 hg w7 hbox hb;have BK210:=ak hbox;have GW210:=ak ((by rw[hg];exact(below_size (h1 HB.out GE209.out)):w.heap.size≤gb210));have GE210:=ak ((by rw[hg];exact(below_size (h1 HB.out GE209.out)):w.heap.size≤gb210));replace HB:=ak (below_step (h1 HB.out GE209.out) hb);have NB209_210:=nl BK209 hg;have NB210_209:=ng BK209 hg;replace BK209:=kb BK209 hb;clear hb hbox hg;have hnb8:=NB209_210.out;have hnc8:=NB210_209.out;have hcz9_0:=bc BK209 0 rfl;have hcz9_1:=bc BK209 1 rfl;have hfz9_0:=bf BK209 0;have hfz9_1:=bf BK209 1;have hcz10_0:=bc BK210 0 rfl;have hcz10_1:=bc BK210 1 rfl;have hcz10_2:=bc BK210 2 rfl;have hfz10_0:=bf BK210 0;have hfz10_1:=bf BK210 1;have hfz10_2:=bf BK210 2)|(refine gs 13 Try.func103 #[.agg #[.int .i64 a0_0,.bool a0_1],.int .i64 a1_0,.int .i64 a2] ?_;(with_reducible refine(spec_l2Gap.calls a0_0 a0_1 a1_0 a2 t211 _ A5.out).mono ?_);rintro e w11 ⟨rfl,hb⟩;refine⟨_,rfl,?_⟩;replace BK209:=kb BK209 hb;replace BK210:=kb BK210 hb;replace HB:=ak (below_step (h2 HB.out GE209.out GE210.out) hb);(try clear hb);(try clear hk);(try clear hi)))
 go_ret
 exact⟨fe,h2 HB.out GE209.out GE210.out⟩
def spec_l1Has.l0:Nat→List Int→Int→Int→Option (Bool)
 | 0,_,_,_=>none
 | k+1,x0,x1,x5=>if x5<(x0.length:Int)then(if 0≤x5 then(if(rd x0 x5)=x1 then(some true)else(spec_l1Has.l0 k x0 x1 (wrap64 (x5+1))))else(none))else(some false)
def spec_l1Has.f (k:Nat) (l0:List Int) (a1:Int):Option (Bool):=spec_l1Has.l0 k l0 a1 0
theorem spec_l1Has.mono_l:∀ k,(∀ y0 y1 y2,LeO (spec_l1Has.l0 k y0 y1 y2) (spec_l1Has.l0 (k+1) y0 y1 y2))
 | 0=>by
  refine ?_<;>(intros;intro r h;simp[spec_l1Has.l0]at h)
 | k+1=>by
  have ih0:=spec_l1Has.mono_l k
  refine ?_<;>intros<;>unfold spec_l1Has.l0<;>(repeat' (with_reducible first|exact ih0 ..|exact LeO.refl _|exact LeO.none _|refine LeO.ite ?_ ?_|refine LeO.bind ?_ (fun _=>?_)))
theorem spec_l1Has.mono:∀ a0 a1 k,LeO (spec_l1Has.f k a0 a1) (spec_l1Has.f (k+1) a0 a1):=by
 intro a0 a1 k
 have ih0:=spec_l1Has.mono_l k
 unfold spec_l1Has.f
 repeat' (with_reducible first|exact ih0 ..|exact LeO.refl _|exact LeO.none _|refine LeO.ite ?_ ?_|refine LeO.bind ?_ (fun _=>?_))
set_option maxHeartbeats 8000000 in
set_option maxRecDepth 100000 in
theorem spec_l1Has.calls (k:Nat) (A0:Option Addr) (c0:Nat) (l0:List Int) (a1:Int) (r:Bool) (w:World) (hr0:Kd.C (Kd.int .i64) w A0 l0.length l0) (hc0:l0.length≤c0) (h:spec_l1Has.f k l0 a1=some r):
  Calls Try.prog 102 #[.slice A0 l0.length c0,.int .i64 a1] w fun e w'=>e= .returned (.bool r)∧Drawn0 w w':=by
 have HR0:=Aside0.mk hr0
 have HC0:=Aside0.mk hc0
 clear hr0 hc0
 unfold spec_l1Has.f at h
 have H:=h
 clear h
 have H':=Aside0.mk H
 clear H
 go_enter Try.func102,Try.ntmps102
 go_wp2
 go_loopg [5] k (fun kq v5 w'=>∃ (x5_1:Int),v5= .int .i64 x5_1∧Aside0 (spec_l1Has.l0 kq l0 a1 x5_1=some r)∧Aside0 (kq≤k)∧Drawn0 w w')
 case atStart=>exact⟨(0),fd,H',⟨Nat.le_refl _⟩,by repeat(first|exact Drawn0.refl _|apply Drawn0.step)⟩
 clear H'
 try clear c1
 try clear p2
 obtain⟨x5_1,rfl,HA,HK1,⟨m1,rfl⟩⟩:=hrel
 obtain _|k1:=gk;·cases HA.out
 obtain⟨H⟩:=HA
 simp only[spec_l1Has.l0]at H
 by_cases c3:x5_1<(l0.length:Int)
 rotate_left
 ·rw[if_neg c3]at H
  have c3b0:decide (x5_1<(l0.length:Int))=false:=decide_eq_false c3
  clear c3
  obtain rfl:=Option.some.inj H
  go_wp2
  go_ret
  exact⟨by first|rfl|(simp;done)|(simp[*];done),by repeat(first|exact Drawn0.refl _|apply Drawn0.step)⟩
 rw[if_pos c3]at H
 have c3b0:decide (x5_1<(l0.length:Int))=true:=decide_eq_true c3
 clear c3
 obtain⟨c4,H⟩:=gi H
 have c4b0:decide (0≤x5_1)=true:=decide_eq_true c4
 clear c4
 by_cases c5: (rd l0 x5_1)=a1
 ·rw[if_pos c5]at H
  have c5b0: ((rd l0 x5_1)==a1)=true:=beq_iff_eq.mpr c5
  have c5b1: ((rd l0 x5_1) !=a1)=false:=bne_eq_false_iff_eq.mpr c5
  clear c5
  obtain rfl:=Option.some.inj H
  have p212:0≤(x5_1:Int):=od
  have q212:x5_1<(l0.length:Int):=od
  obtain⟨ad212,e212,hx212_0⟩:=Kd.at_int HR0.out x5_1 p212 q212
  cases e212
  replace p212:=eq_true p212
  replace q212:=eq_true q212
  go_wp2
  go_ret
  exact⟨by first|rfl|(simp;done)|(simp[*];done),by repeat(first|exact Drawn0.refl _|apply Drawn0.step)⟩
 rw[if_neg c5]at H
 have c5b0: ((rd l0 x5_1)==a1)=false:=beq_eq_false_iff_ne.mpr c5
 have c5b1: ((rd l0 x5_1) !=a1)=true:=bne_iff_ne.mpr c5
 have H':=Aside0.mk H
 clear H
 have p212:0≤(x5_1:Int):=od
 have q212:x5_1<(l0.length:Int):=od
 obtain⟨ad212,e212,hx212_0⟩:=Kd.at_int HR0.out x5_1 p212 q212
 cases e212
 replace p212:=eq_true p212
 replace q212:=eq_true q212
 go_wp2
 go_roundg k1
 case measure=>have:=HK1.out;omega
 case rel=>exact⟨(wrap64 (x5_1+1)),fd,H',⟨by have:=HK1.out;omega⟩,by repeat(first|exact Drawn0.refl _|apply Drawn0.step)⟩
end
end Go.Proofs.Ythagkpoinjpmfaa.QFnRelays
