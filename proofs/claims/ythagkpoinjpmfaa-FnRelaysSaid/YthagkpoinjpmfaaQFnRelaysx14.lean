/- Functions that the law FnRelays comes to, and their walks: no condition but those named. -/
import Derived.Test.YthagkpoinjpmfaaQFnRelaysx0
import Derived.Test.YthagkpoinjpmfaaQFnRelaysx4
namespace Go.Proofs.Ythagkpoinjpmfaa.QFnRelays
open Go.RowKit Go.Proofs.YthagkpoinjpmfaaW.PrintWords Go.Proofs.YthagkpoinjpmfaaW.PrintLast Go.Proofs.YthagkpoinjpmfaaW.PrintMore Go.Proofs.Ythagkpoinjpmfaa.Short
attribute [local go_sem] max2_int min2_int max_two min_two max_three min_three max_four min_four
set_option linter.unusedVariables false
set_option linter.unusedSimpArgs false
section
open Kd
def spec_l7End.f (a0_0:Int) (a0_1:Bool) (a1_0:Int) (a1_1:Int) (a1_2:Int) (a2:Int):Option (Int):=(spec_l2Gap.f a0_0 a0_1 a1_0 a2).bind fun t494=>(if(wrap64 (a1_1-t494))<0 then(some (-1))else((spec_l1Least.f (wrap64 (a0_0-1)) (wrap64 (a2+(wrap64 (a1_1-t494))))).bind fun t495=>(some t495)))
def spec_l7End.T1:Bool × List (List Nat × List Nat):=(true,[([],[]),([0],[0]),([],[]),([],[]),([3],[3]),([],[]),([2,4,5],[2,4,5]),([1,6],[1,6]),([7,6,0,1,2,3,4,5,6,7],[7])])
def spec_l7End.B1:List Nat:=[0,1,0,0,8,0,60,127,255]
theorem spec_l7End.tab1:rtab .any (opsOf Try.f98 1)=spec_l7End.T1:=by kernel_rfl
theorem spec_l7End.bits1:waitsOk spec_l7End.T1.2 spec_l7End.B1=true:=by kernel_rfl
set_option maxHeartbeats 8000000 in
set_option maxRecDepth 100000 in
theorem spec_l7End.calls (a0_0:Int) (a0_1:Bool) (a1_0:Int) (a1_1:Int) (a1_2:Int) (a2:Int) (r:Int) (w:World) (h:spec_l7End.f a0_0 a0_1 a1_0 a1_1 a1_2 a2=some r):
  Calls Try.prog 98 #[.agg #[.int .i64 a0_0,.bool a0_1],.agg #[.int .i64 a1_0,.int .i64 a1_1,.int .i64 a1_2],.int .i64 a2] w fun e w'=>e= .returned (.int .i64 r)∧Below w.heap.size w w':=by
 have hu28:=Try.underlying28
 have hu63:=Try.underlying63
 have HB:=Aside0.mk (Below.refl w.heap.size w)
 unfold spec_l7End.f at h
 have H:=h
 clear h
 obtain⟨t494,A4,H⟩:=bd H;(try dsimp only at H)
 by_cases c5: (wrap64 (a1_1-t494))<0
 ·rw[if_pos c5]at H
  have c5b0:decide ((wrap64 (a1_1-t494))<0)=true:=decide_eq_true c5
  clear c5
  obtain rfl:=Option.some.inj H
  go_enter Try.func98,Try.ntmps98
  try go_wp2_with (first|(refine bx 3 #[.int .i64 a0_0,.bool a0_1] 28 ?_;intro gb492 hg w6 hbox hb;have BK492:=ak hbox;have GW492:=gw HB hg;have GE492:=gw HB hg;replace HB:=bs HB hb;clear hb hbox hg)|(refine bx 4 #[.int .i64 a1_0,.int .i64 a1_1,.int .i64 a1_2] 63 ?_;intro gb493 hg w7 hbox hb;have BK493:=ak hbox;have GW493:=ak ((by rw[hg];exact(below_size (h1 HB.out GE492.out)):w.heap.size≤gb493));have GE493:=ak ((by rw[hg];exact(below_size (h1 HB.out GE492.out)):w.heap.size≤gb493));replace HB:=ak (below_step (h1 HB.out GE492.out) hb);have NB492_493:=nl BK492 hg;have NB493_492:=ng BK492 hg;replace BK492:=kb BK492 hb;clear hb hbox hg))
  replace BK492:=ak (blk_drew BK492.out)
  replace BK493:=ak (blk_drew BK493.out)
  replace HB:=ak (below_drew1 HB.out)
  refine start_ (n:=9) (S:=fun w'=>w'.cell? ⟨gb493,0,none⟩=some (.int .i64 a1_0)∧w'.cell? ⟨gb493,1,none⟩=some (.int .i64 a1_1)∧w'.cell? ⟨gb493,2,none⟩=some (.int .i64 a1_2)∧w'.cell? ⟨gb492,0,none⟩=some (.int .i64 a0_0)∧w'.cell? ⟨gb492,1,none⟩=some (.bool a0_1)) (ds:=[]) (lb 9 0) (by kernel_rfl) rfl rfl ⟨bc BK493 0 rfl,bc BK493 1 rfl,bc BK493 2 rfl,bc BK492 0 rfl,bc BK492 1 rfl⟩ (fun hHeld=>?_);refine with_tabW spec_l7End.tab1 spec_l7End.bits1 (fun HT_ HW_=>?_)
  generalize w7.drew=w8 at BK492 BK493 HB hHeld⊢
  refine pq 0 (N:=some 8) (lb 9 1) HT_ ?_
  refine pq 3 (N:=some 11) (lb 9 9) HT_ ?_
  refine pq 5 (N:=some 13) (lb 9 41) HT_ ?_
  refine tq 1 (N:=some 9) (lb 9 43) HT_ HW_ hHeld ?_
  refine tq 2 (N:=some 10) (lb 9 47) HT_ HW_ hHeld ?_
  refine tq 4 (N:=some 12) (lb 9 63) HT_ HW_ hHeld ?_
  refine one_ (i:=6) (N:=some 14) (lb 9 127) rfl rfl (one_of HT_.out (by kernel_rfl)) (by decide) (fun K hK=>?_)
  refine goes_ Try.func103 (by kernel_rfl) rfl #[.agg #[.int .i64 a0_0,.bool a0_1],.int .i64 a1_0,.int .i64 a2] (by rfl) rfl rfl gl ?_
  with_reducible refine(spec_l2Gap.calls a0_0 a0_1 a1_0 a2 t494 _ A4.out).mono ?_
  rintro e w9 ⟨rfl,hb⟩
  refine⟨_,rfl,?_⟩
  replace BK492:=kb BK492 hb
  replace BK493:=kb BK493 hb
  replace HB:=ak (below_step (h2 HB.out GE492.out GE493.out) hb)
  (try clear hb)
  (try clear hb2)
  (try clear hk)
  (try clear hi)
  refine hK.out _ _ ⟨bc BK493 0 rfl,bc BK493 1 rfl,bc BK493 2 rfl,bc BK492 0 rfl,bc BK492 1 rfl⟩ (fun hHeld=>?_)
  clear hK K
  refine norm_ (a':=?_) ?_ ?_
  rotate_left
  ·show Act.put _ (some 14) _=_
   simp only[ap]
   rfl
  refine pq 7 (N:=some 15) (lb 9 255) HT_ ?_
  refine pq 8 (N:=some 7) (lb 9 511) HT_ ?_
  refine done_ (done_of HT_.out (by kernel_rfl)) ?_
  try go_wp2
  go_ret
  exact⟨fe,h2 HB.out GE492.out GE493.out⟩
 rw[if_neg c5]at H
 have c5b0:decide ((wrap64 (a1_1-t494))<0)=false:=decide_eq_false c5
 clear c5
 obtain⟨t495,A10,H⟩:=bd H;(try dsimp only at H)
 obtain rfl:=Option.some.inj H
 go_enter Try.func98,Try.ntmps98
 try go_wp2_with (first|(refine bx 3 #[.int .i64 a0_0,.bool a0_1] 28 ?_;intro gb492 hg w11 hbox hb;have BK492:=ak hbox;have GW492:=gw HB hg;have GE492:=gw HB hg;replace HB:=bs HB hb;clear hb hbox hg)|(refine bx 4 #[.int .i64 a1_0,.int .i64 a1_1,.int .i64 a1_2] 63 ?_;intro gb493 hg w12 hbox hb;have BK493:=ak hbox;have GW493:=ak ((by rw[hg];exact(below_size (h1 HB.out GE492.out)):w.heap.size≤gb493));have GE493:=ak ((by rw[hg];exact(below_size (h1 HB.out GE492.out)):w.heap.size≤gb493));replace HB:=ak (below_step (h1 HB.out GE492.out) hb);have NB492_493:=nl BK492 hg;have NB493_492:=ng BK492 hg;replace BK492:=kb BK492 hb;clear hb hbox hg))
 replace BK492:=ak (blk_drew BK492.out)
 replace BK493:=ak (blk_drew BK493.out)
 replace HB:=ak (below_drew1 HB.out)
 refine start_ (n:=9) (S:=fun w'=>w'.cell? ⟨gb493,0,none⟩=some (.int .i64 a1_0)∧w'.cell? ⟨gb493,1,none⟩=some (.int .i64 a1_1)∧w'.cell? ⟨gb493,2,none⟩=some (.int .i64 a1_2)∧w'.cell? ⟨gb492,0,none⟩=some (.int .i64 a0_0)∧w'.cell? ⟨gb492,1,none⟩=some (.bool a0_1)) (ds:=[]) (lb 9 0) (by kernel_rfl) rfl rfl ⟨bc BK493 0 rfl,bc BK493 1 rfl,bc BK493 2 rfl,bc BK492 0 rfl,bc BK492 1 rfl⟩ (fun hHeld=>?_);refine with_tabW spec_l7End.tab1 spec_l7End.bits1 (fun HT_ HW_=>?_)
 generalize w12.drew=w13 at BK492 BK493 HB hHeld⊢
 refine pq 0 (N:=some 8) (lb 9 1) HT_ ?_
 refine pq 3 (N:=some 11) (lb 9 9) HT_ ?_
 refine pq 5 (N:=some 13) (lb 9 41) HT_ ?_
 refine tq 1 (N:=some 9) (lb 9 43) HT_ HW_ hHeld ?_
 refine tq 2 (N:=some 10) (lb 9 47) HT_ HW_ hHeld ?_
 refine tq 4 (N:=some 12) (lb 9 63) HT_ HW_ hHeld ?_
 refine one_ (i:=6) (N:=some 14) (lb 9 127) rfl rfl (one_of HT_.out (by kernel_rfl)) (by decide) (fun K hK=>?_)
 refine goes_ Try.func103 (by kernel_rfl) rfl #[.agg #[.int .i64 a0_0,.bool a0_1],.int .i64 a1_0,.int .i64 a2] (by rfl) rfl rfl gl ?_
 with_reducible refine(spec_l2Gap.calls a0_0 a0_1 a1_0 a2 t494 _ A4.out).mono ?_
 rintro e w14 ⟨rfl,hb⟩
 refine⟨_,rfl,?_⟩
 replace BK492:=kb BK492 hb
 replace BK493:=kb BK493 hb
 replace HB:=ak (below_step (h2 HB.out GE492.out GE493.out) hb)
 (try clear hb)
 (try clear hb2)
 (try clear hk)
 (try clear hi)
 refine hK.out _ _ ⟨bc BK493 0 rfl,bc BK493 1 rfl,bc BK493 2 rfl,bc BK492 0 rfl,bc BK492 1 rfl⟩ (fun hHeld=>?_)
 clear hK K
 refine norm_ (a':=?_) ?_ ?_
 rotate_left
 ·show Act.put _ (some 14) _=_
  simp only[ap]
  rfl
 refine pq 7 (N:=some 15) (lb 9 255) HT_ ?_
 refine pq 8 (N:=some 7) (lb 9 511) HT_ ?_
 refine done_ (done_of HT_.out (by kernel_rfl)) ?_
 have hnb15:=NB492_493.out
 have hnc15:=NB493_492.out
 have hcz16_0:=bc BK492 0 rfl
 have hcz16_1:=bc BK492 1 rfl
 have hfz16_0:=bf BK492 0
 have hfz16_1:=bf BK492 1
 try go_wp2_with (first|(refine gs 24 Try.func108 #[.int .i64 (wrap64 (a0_0-1)),.int .i64 (wrap64 (a2+(wrap64 (a1_1-t494))))] ?_;(with_reducible refine(spec_l1Least.calls (wrap64 (a0_0-1)) (wrap64 (a2+(wrap64 (a1_1-t494)))) t495 _ A10.out).mono ?_);rintro e w' ⟨rfl,⟨nd,rfl⟩⟩;refine⟨_,rfl,?_⟩))
 go_ret
 exact⟨fe,h2 HB.out GE492.out GE493.out⟩
end
end Go.Proofs.Ythagkpoinjpmfaa.QFnRelays
