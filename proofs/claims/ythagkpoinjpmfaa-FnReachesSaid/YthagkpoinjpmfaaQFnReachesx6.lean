/- Functions that the law FnReaches comes to, and their walks: no condition but those named. -/
import Derived.Test.YthagkpoinjpmfaaQFnReachesx0
import Derived.Test.YthagkpoinjpmfaaQFnReachesx4
import Derived.Test.YthagkpoinjpmfaaQFnReachesx5
namespace Go.Proofs.Ythagkpoinjpmfaa.QFnReaches
open Go.RowKit Go.Proofs.YthagkpoinjpmfaaW.PrintWords Go.Proofs.YthagkpoinjpmfaaW.PrintLast Go.Proofs.YthagkpoinjpmfaaW.PrintMore Go.Proofs.Ythagkpoinjpmfaa.Short
attribute [local go_sem] run_neq_slice_nil_any max2_int min2_int max_two min_two max_three min_three max_four min_four
set_option linter.unusedVariables false
set_option linter.unusedSimpArgs false
section
open Kd
mutual
def impl_Road_reachOrder.l0:Nat→List (S63)→Int→Int→Int→List (List Int)→Int→Bool→Option (List Int × Int)
 | 0,_,_,_,_,_,_,_=>none
 | k+1,x1,x2,x3,x10,x11,x201000,x201001=>if(x11.length:Int)>0 then(impl_Road_reachOrder.l1 k x1 x2 x3 x10 (([]:List (List Int))) x11 (x11.length:Int) 0 x201000 x201001)else(some (([]:List Int),x10))
def impl_Road_reachOrder.l1:Nat→List (S63)→Int→Int→Int→List (List Int)→List (List Int)→Int→Int→Int→Bool→Option (List Int × Int)
 | 0,_,_,_,_,_,_,_,_,_,_=>none
 | k+1,x1,x2,x3,x10,x12,x24,x25,x26,x201000,x201001=>if x26<x25 then(if 0≤x26 then(if x26<(x24.length:Int)then((impl_Road_orderReach.f k x201000 x201001 x1 (rd_L2 x24 x26) x2).bind fun t211=>(if t211≥x3 then((impl_copied.f (rd_L2 x24 x26)).bind fun t212=>(some (t212,t211)))else(impl_Road_reachOrder.l2 k x1 x2 x3 (mx x10 t211) x12 (rd_L2 x24 x26) x24 x25 x26 (x1.length:Int) 0 x201000 x201001)))else(none))else(none))else(impl_Road_reachOrder.l0 k x1 x2 x3 x10 x12 x201000 x201001)
def impl_Road_reachOrder.l2:Nat→List (S63)→Int→Int→Int→List (List Int)→List Int→List (List Int)→Int→Int→Int→Int→Int→Bool→Option (List Int × Int)
 | 0,_,_,_,_,_,_,_,_,_,_,_,_,_=>none
 | k+1,x1,x2,x3,x10,x12,x14,x24,x25,x26,x44,x45,x201000,x201001=>if x45<x44 then((slices_Contains_int_int.f k x14 x45).bind fun t215=>(if t215=true then(impl_Road_reachOrder.l2 k x1 x2 x3 x10 x12 x14 x24 x25 x26 x44 (wrap64 (x45+1)) x201000 x201001)else((impl_copied.f x14).bind fun t216=>(if t216.length<17592186044416 then(if x12.length<5864062014805 then(impl_Road_reachOrder.l2 k x1 x2 x3 x10 (x12++[(t216++[x45])]) x14 x24 x25 x26 x44 (wrap64 (x45+1)) x201000 x201001)else(none))else(none)))))else(impl_Road_reachOrder.l1 k x1 x2 x3 x10 x12 x24 x25 (wrap64 (x26+1)) x201000 x201001)
end
def impl_Road_reachOrder.f (k:Nat) (a0_0:Int) (a0_1:Bool) (l1:List (S63)) (a2:Int) (a3:Int):Option (List Int × Int):=impl_Road_reachOrder.l0 k l1 a2 a3 a2 (([[]]:List (List Int))) a0_0 a0_1
theorem impl_Road_reachOrder.mono_l:∀ k,(∀ y0 y1 y2 y3 y4 y5 y6,LeO (impl_Road_reachOrder.l0 k y0 y1 y2 y3 y4 y5 y6) (impl_Road_reachOrder.l0 (k+1) y0 y1 y2 y3 y4 y5 y6))∧(∀ y0 y1 y2 y3 y4 y5 y6 y7 y8 y9,LeO (impl_Road_reachOrder.l1 k y0 y1 y2 y3 y4 y5 y6 y7 y8 y9) (impl_Road_reachOrder.l1 (k+1) y0 y1 y2 y3 y4 y5 y6 y7 y8 y9))∧(∀ y0 y1 y2 y3 y4 y5 y6 y7 y8 y9 y10 y11 y12,LeO (impl_Road_reachOrder.l2 k y0 y1 y2 y3 y4 y5 y6 y7 y8 y9 y10 y11 y12) (impl_Road_reachOrder.l2 (k+1) y0 y1 y2 y3 y4 y5 y6 y7 y8 y9 y10 y11 y12))
 | 0=>by
  refine⟨?_,?_,?_⟩<;>(intros;intro r h;simp[impl_Road_reachOrder.l0,impl_Road_reachOrder.l1,impl_Road_reachOrder.l2]at h)
 | k+1=>by
  obtain⟨ih0,ih1,ih2⟩:=impl_Road_reachOrder.mono_l k
  refine⟨?_,?_,?_⟩<;>intros<;>(first|unfold impl_Road_reachOrder.l0|unfold impl_Road_reachOrder.l1|unfold impl_Road_reachOrder.l2)<;>(repeat' (with_reducible first|exact ih0 ..|exact ih1 ..|exact ih2 ..|exact impl_Road_orderReach.mono ..|exact slices_Contains_int_int.mono ..|exact LeO.refl _|exact LeO.none _|refine LeO.ite ?_ ?_|refine LeO.bind ?_ (fun _=>?_)))
theorem impl_Road_reachOrder.mono:∀ a0 a1 a2 a3 a4 k,LeO (impl_Road_reachOrder.f k a0 a1 a2 a3 a4) (impl_Road_reachOrder.f (k+1) a0 a1 a2 a3 a4):=by
 intro a0 a1 a2 a3 a4 k
 obtain⟨ih0,ih1,ih2⟩:=impl_Road_reachOrder.mono_l k
 unfold impl_Road_reachOrder.f
 repeat' (with_reducible first|exact ih0 ..|exact ih1 ..|exact ih2 ..|exact impl_Road_orderReach.mono ..|exact slices_Contains_int_int.mono ..|exact LeO.refl _|exact LeO.none _|refine LeO.ite ?_ ?_|refine LeO.bind ?_ (fun _=>?_))
theorem reach_nil {k:Nat} {a0:Int} {a1:Bool} {l:List (S63)} {o:List Int} {a t:Int} (hn:o=[]) (h:impl_Road_orderReach.f k a0 a1 l o a=some t):t=a:=by
 subst hn
 cases k with
 | zero=>simp[impl_Road_orderReach.f,impl_Road_orderReach.l0]at h
 | succ k=>simp[impl_Road_orderReach.f,impl_Road_orderReach.l0]at h;exact h.symm
theorem copied_same {l r:List Int} (h:impl_copied.f l=some r):r=l:=by
 unfold impl_copied.f at h
 simp only[Option.bind_some]at h
 split at h
 ·simpa using h.symm
 exact absurd h (by simp)
theorem S_lit1 {P:Program} {ops:Array Oper} {rest:List Oper} {o:Oper} {a:Act} {Q:Exit→Act→World→Prop} {α:Type} (d:Kd α) {W:World} (base e:Nat) (hgd:o.guard=none) {N:Tmp} (_hd:o.dst=some N) {x:α} {inner:List Value} {ok okp:Nat→Prop}
  (hrun: (execOp a.eval o).run P W= .ok (.value (.slice (some ⟨W.heap.size,0,none⟩) 1 1)) (W.alloc (.cells inner.toArray e)))
  (hrep:Reps (d.M W base okp) d.sz [x] inner) (hok:∀ k,okp k→ok k) (hfresh:ok W.heap.size) (hbase:base≤W.heap.size)
  (h:∀ v1 w1,Kd.S d e w1 base ok v1 [x]→Below W.heap.size W w1→W.grownBy w1 none→(∃ b,v1.ownBlock=some b∧W.heap.size≤b)→wpList P ops Q rest (a.put o.dst v1) w1):wpList P ops Q (o::rest) a W:=by
 refine Kd.event_run hgd hrun (h _ _ ⟨fun _=>0,fun k hk=>?_,inner,?_,?_⟩ (below_alloc (Below.refl _ _) _) (World.grownBy_alloc W _ none) ⟨W.heap.size,by simp[Value.ownBlock],Nat.le_refl _⟩)
 ·have:W.heap.size=k:=by simpa [Value.ownBlock]using hk
  subst this
  exact hfresh
 ·have h2:=World.ownsRow_lit (base:=base) (e:=e) (size:=d.sz) W inner.toArray 1 hbase (by simp[maxLen]) (by simpa using hrep.1)
  simpa [Kd.tag]using h2
 ·refine⟨by simpa [Kd.tag]using hrep.1,fun j p hj=>?_⟩
  cases j with
  | zero=>
   simp at hj
   subst hj
   have h3:=d.M_bound (hrep.2 0 x rfl)
   refine d.M_mono (fun k hk=>?_) (Kd.M_below h3 (below_alloc (Below.refl _ _) _))
   refine⟨⟨hok k hk.1,fun he=>?_⟩,rfl⟩
   have h4:k=W.heap.size:=by simpa [Value.ownBlock]using he
   have:=hk.2.2.1
   omega
  | succ j=>simp at hj
set_option maxHeartbeats 8000000 in
set_option maxRecDepth 100000 in
theorem impl_Road_reachOrder.calls (k:Nat) (a0_0:Int) (a0_1:Bool) (A1:Option Addr) (c1:Nat) (l1:List (S63)) (a2:Int) (a3:Int) (r1:List Int) (r2:Int) (w:World) (hr1:Kd.C k63 w A1 l1.length l1) (hc1:l1.length≤c1) (h:impl_Road_reachOrder.f k a0_0 a0_1 l1 a2 a3=some (r1,r2)):
  Calls Try.prog 68 #[.agg #[.int .i64 a0_0,.bool a0_1],.slice A1 l1.length c1,.int .i64 a2,.int .i64 a3] w fun e w'=>∃ v0_:Value,e= .returned (.tuple #[v0_,.int .i64 r2])∧Kd.R (Kd.int .i64) 3 w' w.heap.size (fun _=>True) v0_ r1∧(r1=[]→a2<a3→v0_= .slice none 0 0)∧Below w.heap.size w w':=by
 have hu28:=Try.underlying28
 have hu40:=Try.underlying40
 have HR1:=Aside0.mk hr1
 have HC1:=Aside0.mk hc1
 clear hr1 hc1
 have HB:=Aside0.mk (Below.refl w.heap.size w)
 unfold impl_Road_reachOrder.f at h
 have H:=h
 clear h
 obtain⟨y201,hy201⟩:∃ y_:List Int,y_=(([]:List Int)):=⟨_,rfl⟩
 replace H: (impl_Road_reachOrder.l0 k l1 a2 a3 a2 (([[]]:List (List Int))) a0_0 a0_1)=some (r1,r2):=by subst hy201;first|(with_reducible exact H)|exact H
 have Ny201:=Aside0.mk hy201
 clear hy201
 generalize hy204: ([[]]:List (List Int))=y204 at H
 have Ny204:=ak hy204.symm
 clear hy204
 have H':=Aside0.mk H
 clear H
 go_enter Try.func68,Try.ntmps68
 go_wp2_with (first|(refine bx 4 #[.int .i64 a0_0,.bool a0_1] 28 ?_;intro gb200 hg w5 hbox hb;have BK200:=ak hbox;have GW200:=gw HB hg;have GE200:=gw HB hg;replace HB:=bs HB hb;clear hb hbox hg)|((with_reducible refine gate_dst (N:=18) rfl ?_);refine R_lit (Kd.int .i64) _ 3 ?hg (N:=18) ?hd (xs:=([]:List Int)) (inner:=[]) (ok:=fun _=>True) (okp:=fun _=>True) ?hr ?hp (fun _ hk=>hk) trivial (Below.refl _ _) (Nat.le_refl _) (by simp) ?_;(case hd=>rfl);(case hg=>rfl);(case hr=>first|(go_simp;done)|(go_simp;rfl));(case hp=>exact(Reps.none _ _));intro v202 w6 ho7 hb hg_ hnew_;clear hg_ hnew_;(first|rw[←Ny201.out]at ho7|(simp only[Int.reduceToNat]at ho7;rw[←Ny201.out]at ho7));have HO203:=ak (R_lower ho7 (below_size (h1 HB.out GE200.out)));replace BK200:=kb BK200 hb;replace HB:=ak (below_step (h1 HB.out GE200.out) hb);clear hb ho7;have e_:=Ny201.out;clear Ny201;subst e_;obtain⟨Ao8,co8,eo8⟩:=R_slice HO203.out;subst eo8)|((with_reducible refine gate_dst (N:=19) rfl ?_);refine S_lit1 (Kd.slice 3 (Kd.int .i64)) w.heap.size 40 ?hg (N:=19) ?hd (x:=([]:List Int)) (inner:=[.slice Ao8 ([]:List Int).length co8]) (ok:=fun _=>True) (okp:=fun _=>True) ?hr ?hp (fun _ hk=>hk) trivial (below_size (h1 HB.out GE200.out)) ?_;(case hd=>rfl);(case hg=>rfl);(case hr=>first|(go_simp;done)|(go_simp;rfl));(case hp=>exact(Reps.one (show Kd.M (Kd.slice 3 (Kd.int .i64)) _ _ _ [] [.slice Ao8 ([]:List Int).length co8]from⟨_,rfl,HO203.out⟩) (Reps.none _ _)));intro v205 w8 ho9 hb hg_ hnew_;clear hg_ hnew_;(first|rw[←Ny204.out]at ho9|(simp only[Int.reduceToNat]at ho9;rw[←Ny204.out]at ho9));have n0_:=Aside0.mk True.intro;have n1_:=Aside0.mk ho9;have n2_:=Aside0.mk (blk_below (g:=gb200) (o:=.cells #[.int .i64 a0_0,.bool a0_1] 28 (0,0)) (bm BK200.out) hb);have n3_:=Aside0.mk (below_step (h1 HB.out GE200.out) hb);clear HO203;clear BK200;clear HB;have HO206:=n1_;have BK200:=n2_;have HB:=n3_;clear n0_ n1_ n2_ n3_;clear hb ho9))
 go_loopg [10,11] k (fun kq v10 v11 w'=>∃ (x10_1:Int) (x11_1:List (List Int)),v10= .int .i64 x10_1∧Aside0 (impl_Road_reachOrder.l0 kq l1 a2 a3 x10_1 x11_1 a0_0 a0_1=some (r1,r2))∧Aside0 (kq≤k)∧Aside0 (Kd.S (Kd.slice 3 (Kd.int .i64)) 40 w' w.heap.size (fun _=>True) v11 x11_1)∧Aside0 (w'.heap[gb200]? =some (.cells #[.int .i64 a0_0,.bool a0_1] 28 (0,0)))∧Aside0 (Below w.heap.size w w'))
 case atStart=>exact⟨(a2),(y204),fd,H',⟨Nat.le_refl _⟩,⟨sm (Kd.S_mono HO206.out (fun _ hk=>trivial))⟩,⟨bm BK200.out⟩,⟨h1 HB.out GE200.out⟩⟩
 clear H'
 try clear c1
 try clear p2
 try clear c6
 obtain⟨x10_1,x11_1,rfl,HA,HK1,HO_11,BK200,HB⟩:=hrel
 obtain _|k1:=gk;·cases HA.out
 obtain⟨H⟩:=HA
 simp only[impl_Road_reachOrder.l0]at H
 by_cases c10: (x11_1.length:Int)>0
 rotate_left
 ·rw[if_neg c10]at H
  have c10b0:decide (0<(x11_1.length:Int))=false:=decide_eq_false c10
  have c10b1:decide (0<x11_1.length)=false:=decide_eq_false (by omega)
  clear c10
  simp only[Option.some.injEq,Prod.mk.injEq]at H
  obtain⟨rfl,rfl⟩:=H
  obtain⟨Ao36,co36,eo36⟩:=Kd.S_slice HO_11.out
  subst eo36
  go_wp2
  go_ret2
  exact⟨_,fe,by first|exact R_nil _ _ _ _ _|exact Kd.N_nil _ _ _ _ _|exact Kd.V_nil _ _ _ _ _|exact Kd.Q_nil _ _ _ _ _|exact Kd.S_nil _ _ _ _ _,(by intros;rfl),h1 HB.out GE200.out⟩
 rw[if_pos c10]at H
 have c10b0:decide (0<(x11_1.length:Int))=true:=decide_eq_true c10
 have c10b1:decide (0<x11_1.length)=true:=decide_eq_true (by omega)
 clear c10
 generalize hy207: ([]:List (List Int))=y207 at H
 have Ny207:=ak hy207.symm
 clear hy207
 have H':=Aside0.mk H
 clear H
 obtain⟨Ao11,co11,eo11⟩:=Kd.S_slice HO_11.out
 subst eo11
 go_wp2_with (first|((with_reducible refine gate_dst (N:=23) rfl ?_);refine Kd.S_lit (Kd.slice 3 (Kd.int .i64)) _ 40 ?hg (N:=23) ?hd (xs:=([]:List (List Int))) (inner:=[]) (ok:=fun _=>True) (okp:=fun _=>True) ?hr ?hp (fun _ hk=>hk) trivial (Below.refl _ _) (Nat.le_refl _) (by simp) ?_;(case hd=>rfl);(case hg=>rfl);(case hr=>first|(go_simp;done)|(go_simp;rfl));(case hp=>exact(Reps.none _ _));intro v208 w12 ho13 hb hg_ hnew_;clear hg_ hnew_;(first|rw[←Ny207.out]at ho13|(simp only[Int.reduceToNat]at ho13;rw[←Ny207.out]at ho13));have HO209:=ak (Kd.S_lower (Kd.S_new' ho13 (Kd.S_lt (sm HO_11.out))) (below_size (h1 HB.out GE200.out)));replace HO_11:=ak (Kd.S_elder' (sm HO_11.out) (Kd.S_base ho13) hb);replace BK200:=kb BK200 hb;replace HB:=ak (below_step (h1 HB.out GE200.out) hb);clear hb ho13))
 go_loopg [10,12,26] k1 (fun kq v10 v12 v26 w'=>∃ (x10_2:Int) (x12_2:List (List Int)) (x26_2:Int),v10= .int .i64 x10_2∧v26= .int .i64 x26_2∧Aside0 (impl_Road_reachOrder.l1 kq l1 a2 a3 x10_2 x12_2 x11_1 (x11_1.length:Int) x26_2 a0_0 a0_1=some (r1,r2))∧Aside0 (kq≤k1)∧Aside0 (Kd.S (Kd.slice 3 (Kd.int .i64)) 40 w' w.heap.size (fun k_=>ob k_ (.slice Ao11 x11_1.length co11)) v12 x12_2)∧Aside0 (Kd.S (Kd.slice 3 (Kd.int .i64)) 40 w' w.heap.size (fun k_=>ob k_ v12) (.slice Ao11 x11_1.length co11) x11_1)∧Aside0 (w'.heap[gb200]? =some (.cells #[.int .i64 a0_0,.bool a0_1] 28 (0,0)))∧Aside0 (Below w.heap.size w w'))
 case atStart=>exact⟨(x10_1),(y207),(0),fd,fd,H',⟨Nat.le_refl _⟩,⟨sm (Kd.S_mono HO209.out (fun _ hk=>hk.2))⟩,⟨sm (Kd.S_mono HO_11.out (fun _ hk=>hk.2))⟩,⟨bm BK200.out⟩,⟨h1 HB.out GE200.out⟩⟩
 clear H'
 try clear c1
 try clear p2
 try clear c6
 try clear c10
 try clear c10b0
 try clear c10b1
 try clear p2
 obtain⟨x10_2,x12_2,x26_2,rfl,rfl,HA,HK2,HO_12,HO_24,BK200,HB⟩:=hrel
 obtain _|k2:=gk;·cases HA.out
 obtain⟨H⟩:=HA
 simp only[impl_Road_reachOrder.l1]at H
 by_cases c14:x26_2<(x11_1.length:Int)
 rotate_left
 ·rw[if_neg c14]at H
  have c14b0:decide (x26_2<(x11_1.length:Int))=false:=decide_eq_false c14
  clear c14
  have H':=Aside0.mk H
  clear H
  go_wp2
  go_roundg k2
  case measure=>have:=HK1.out;have:=HK2.out;omega
  case rel=>exact⟨(x10_2),(x12_2),fd,H',⟨by have:=HK1.out;have:=HK2.out;omega⟩,⟨sm (Kd.S_mono HO_12.out (fun _ hk=>trivial))⟩,⟨bm BK200.out⟩,⟨h1 HB.out GE200.out⟩⟩
 rw[if_pos c14]at H
 have c14b0:decide (x26_2<(x11_1.length:Int))=true:=decide_eq_true c14
 clear c14
 obtain⟨c15,H⟩:=gi H
 have c15b0:decide (0≤x26_2)=true:=decide_eq_true c15
 clear c15
 obtain⟨c16,H⟩:=gi H
 have c16b0:decide (x26_2<(x11_1.length:Int))=true:=decide_eq_true c16
 clear c16
 obtain⟨t211,A17,H⟩:=bd H;(try dsimp only at H)
 by_cases c18:t211≥a3
 ·rw[if_pos c18]at H
  have c18b0:decide (a3≤t211)=true:=decide_eq_true c18
  clear c18
  obtain⟨t212,A19,H⟩:=bd H;(try dsimp only at H)
  simp only[Option.some.injEq,Prod.mk.injEq]at H
  obtain⟨rfl,rfl⟩:=H
  have p210:0≤(x26_2:Int):=od
  have q210:x26_2<(x11_1.length:Int):=od
  obtain⟨ad210,A210_0,c210_0,e210,hx210_0,hl210_0,hi210_0⟩:=at_L2 (Kd.S_reads' HO_24.out).2.2 x26_2 p210 q210
  cases e210
  obtain⟨ce210,hce210,hMe210,hcc210⟩:=Kd.S_get HO_24.out [] x26_2 p210 (by first|exact q210|exact od|(have e_:=(Kd.S_reads' HO_24.out).1;omega))
  obtain⟨ve210_0,rfl,ge210_0⟩:=hMe210
  have hv210_0:=hcc210 0 _ rfl
  rw[Nat.add_zero,show((Kd.slice 3 (Kd.int .i64))).sz=1 from rfl,Nat.mul_one]at hv210_0
  replace hv210_0:=Option.some.inj (hv210_0.symm.trans hx210_0)
  rw[hv210_0]at ge210_0
  have HL210_0:=Aside0.mk (show Kd.R (Kd.int .i64) 3 _ _ _ _ (rd_L2 x11_1 x26_2)from ge210_0)
  clear hv210_0 ge210_0
  clear hcc210 hce210
  have HR210_0:=Aside0.mk hi210_0
  have HC210_0:=Aside0.mk hl210_0
  clear hi210_0 hl210_0
  replace p210:=eq_true p210
  replace q210:=eq_true q210
  have hcz20_0:=bc BK200 0 rfl
  have hcz20_1:=bc BK200 1 rfl
  have hfz20_0:=bf BK200 0
  have hfz20_1:=bf BK200 1
  go_wp2_with (first|(refine gs 34 Try.func85 #[.agg #[.int .i64 a0_0,.bool a0_1],.slice A1 l1.length c1,.slice A210_0 (rd_L2 x11_1 x26_2).length c210_0,.int .i64 a2] ?_;(with_reducible refine(impl_Road_orderReach.calls k2 a0_0 a0_1 _ _ l1 _ _ (rd_L2 x11_1 x26_2) a2 t211 _ ?side1 ?side2 ?side3 ?side4 A17.out).mono ?_);(case side1=>exact cm (C_below HR1.out HB.out));(case side2=>exact HC1.out);(case side3=>repeat(first|exact(by repeat(first|(with_reducible exact HR210_0.out)|(with_reducible refine C_alloc ?_ _)|(with_reducible refine C_drewN ?_ _)|(with_reducible refine C_drew ?_)|exact HR210_0.out))|(with_reducible refine C_alloc ?_ _)|(with_reducible refine C_drewN ?_ _)|(with_reducible refine C_drew ?_)));(case side4=>exact HC210_0.out);rintro e w21 ⟨rfl,hb⟩;refine⟨_,rfl,?_⟩;replace HO_12:=ak (Kd.S_below (sm HO_12.out) hb);replace HO_24:=ak (Kd.S_below (sm HO_24.out) hb);replace HL210_0:=rb HL210_0 hb;replace BK200:=kb BK200 hb;replace HR210_0:=ak (C_below (by repeat(first|(with_reducible exact HR210_0.out)|(with_reducible refine C_alloc ?_ _)|(with_reducible refine C_drewN ?_ _)|(with_reducible refine C_drew ?_)|exact HR210_0.out)) hb);replace HB:=ak (below_step (h1 HB.out GE200.out) hb);(try clear hb);(try clear hk);(try clear hi)))
  have es_:=copied_same A19.out
  subst es_
  go_ret2
  exact⟨_,fe,rm (R_mono HL210_0.out (fun _ _=>trivial)),(fun hn_ hlt_=>by have e_:=reach_nil hn_ A17.out;have h_:=of_decide_eq_true c18b0;exact absurd e_ (by omega)),h1 HB.out GE200.out⟩
 rw[if_neg c18]at H
 have c18b0:decide (a3≤t211)=false:=decide_eq_false c18
 clear c18
 generalize hji23: (mx x10_2 t211)=ji23 at H
 (try rw[hji23]at A17)
 have hji23_: (if x10_2<t211 then t211 else x10_2)=ji23:=hji23
 have H':=Aside0.mk H
 clear H
 have p210:0≤(x26_2:Int):=od
 have q210:x26_2<(x11_1.length:Int):=od
 obtain⟨ad210,A210_0,c210_0,e210,hx210_0,hl210_0,hi210_0⟩:=at_L2 (Kd.S_reads' HO_24.out).2.2 x26_2 p210 q210
 cases e210
 obtain⟨ce210,hce210,hMe210,hcc210⟩:=Kd.S_get HO_24.out [] x26_2 p210 (by first|exact q210|exact od|(have e_:=(Kd.S_reads' HO_24.out).1;omega))
 obtain⟨ve210_0,rfl,ge210_0⟩:=hMe210
 have hv210_0:=hcc210 0 _ rfl
 rw[Nat.add_zero,show((Kd.slice 3 (Kd.int .i64))).sz=1 from rfl,Nat.mul_one]at hv210_0
 replace hv210_0:=Option.some.inj (hv210_0.symm.trans hx210_0)
 rw[hv210_0]at ge210_0
 have HL210_0:=Aside0.mk (show Kd.R (Kd.int .i64) 3 _ _ _ _ (rd_L2 x11_1 x26_2)from ge210_0)
 clear hv210_0 ge210_0
 clear hcc210 hce210
 have HR210_0:=Aside0.mk hi210_0
 have HC210_0:=Aside0.mk hl210_0
 clear hi210_0 hl210_0
 replace p210:=eq_true p210
 replace q210:=eq_true q210
 have hcz24_0:=bc BK200 0 rfl
 have hcz24_1:=bc BK200 1 rfl
 have hfz24_0:=bf BK200 0
 have hfz24_1:=bf BK200 1
 go_wp2_with (first|(refine gs 34 Try.func85 #[.agg #[.int .i64 a0_0,.bool a0_1],.slice A1 l1.length c1,.slice A210_0 (rd_L2 x11_1 x26_2).length c210_0,.int .i64 a2] ?_;(with_reducible refine(impl_Road_orderReach.calls k2 a0_0 a0_1 _ _ l1 _ _ (rd_L2 x11_1 x26_2) a2 t211 _ ?side1 ?side2 ?side3 ?side4 A17.out).mono ?_);(case side1=>exact cm (C_below HR1.out HB.out));(case side2=>exact HC1.out);(case side3=>repeat(first|exact(by repeat(first|(with_reducible exact HR210_0.out)|(with_reducible refine C_alloc ?_ _)|(with_reducible refine C_drewN ?_ _)|(with_reducible refine C_drew ?_)|exact HR210_0.out))|(with_reducible refine C_alloc ?_ _)|(with_reducible refine C_drewN ?_ _)|(with_reducible refine C_drew ?_)));(case side4=>exact HC210_0.out);rintro e w25 ⟨rfl,hb⟩;refine⟨_,rfl,?_⟩;replace HO_12:=ak (Kd.S_below (sm HO_12.out) hb);replace HO_24:=ak (Kd.S_below (sm HO_24.out) hb);replace HL210_0:=rb HL210_0 hb;replace BK200:=kb BK200 hb;replace HR210_0:=ak (C_below (by repeat(first|(with_reducible exact HR210_0.out)|(with_reducible refine C_alloc ?_ _)|(with_reducible refine C_drewN ?_ _)|(with_reducible refine C_drew ?_)|exact HR210_0.out)) hb);replace HB:=ak (below_step (h1 HB.out GE200.out) hb);(try clear hb);(try clear hk);(try clear hi)))
 go_loopg [12,45] k2 (fun kq v12 v45 w'=>∃ (x12_3:List (List Int)) (x45_3:Int),v45= .int .i64 x45_3∧Aside0 (impl_Road_reachOrder.l2 kq l1 a2 a3 ji23 x12_3 (rd_L2 x11_1 x26_2) x11_1 (x11_1.length:Int) x26_2 (l1.length:Int) x45_3 a0_0 a0_1=some (r1,r2))∧Aside0 (kq≤k2)∧Aside0 (Kd.S (Kd.slice 3 (Kd.int .i64)) 40 w' w.heap.size (fun k_=>some k_≠((.slice (some ad210) x11_1.length co11):Value).ownBlock) v12 x12_3)∧Aside0 (Kd.S (Kd.slice 3 (Kd.int .i64)) 40 w' w.heap.size (fun k_=>ob k_ v12) (.slice (some ad210) x11_1.length co11) x11_1)∧Aside0 (Kd.V (Kd.int .i64) 3 w' w.heap.size (fun k_=>ob k_ v12) (.slice A210_0 (rd_L2 x11_1 x26_2).length c210_0) (rd_L2 x11_1 x26_2))∧Aside0 (w'.heap[gb200]? =some (.cells #[.int .i64 a0_0,.bool a0_1] 28 (0,0)))∧Aside0 (Below w.heap.size w w'))
 case atStart=>exact⟨(x12_2),(0),fd,H',⟨Nat.le_refl _⟩,⟨sm HO_12.out⟩,⟨sm HO_24.out⟩,⟨by(with_reducible repeat(first|apply Kd.V_alloc|apply Kd.V_drewN|apply Kd.V_drew));first|exact Kd.V_mono (R_V HL210_0.out) (fun _ hk=>hk.1)|exact Kd.V_mono (R_V HL210_0.out) (fun _ hk=>hk.1.1)|exact Kd.V_mono (R_V HL210_0.out) (fun _ hk=>hk.1.1.1)⟩,⟨bm BK200.out⟩,⟨h1 HB.out GE200.out⟩⟩
 clear H'
 try clear c1
 try clear c2
 try clear p2
 try clear q2
 try clear hx2
 try clear c6
 try clear c8
 try clear c10
 try clear c10b0
 try clear c10b1
 try clear c14
 try clear c14b0
 try clear c15
 try clear c15b0
 try clear c16
 try clear c16b0
 try clear c18
 try clear c18b0
 try clear c21
 try clear p21
 try clear q21
 try clear hx21
 try clear hcz20_0
 try clear hcz20_1
 try clear hcz24_0
 try clear hcz24_1
 try clear hfz20_0
 try clear hfz20_1
 try clear hfz24_0
 try clear hfz24_1
 try clear hx210_0
 try clear p2
 try clear p210
 try clear q210
 obtain⟨x12_3,x45_3,rfl,HA,HK3,HO_12,HO_24,HV210_0,BK200,HB⟩:=hrel
 obtain _|k3:=gk;·cases HA.out
 obtain⟨H⟩:=HA
 simp only[impl_Road_reachOrder.l2]at H
 by_cases c26:x45_3<(l1.length:Int)
 rotate_left
 ·rw[if_neg c26]at H
  have c26b0:decide (x45_3<(l1.length:Int))=false:=decide_eq_false c26
  clear c26
  have H':=Aside0.mk H
  clear H
  go_wp2
  go_roundg k3
  case measure=>have:=HK1.out;have:=HK2.out;have:=HK3.out;omega
  case rel=>exact⟨(ji23),(x12_3),(wrap64 (x26_2+1)),(by first|rfl|(simp;done)|(simp only[←hji23]<;>(first|rfl|simp))|(simp[*];done)),fd,H',⟨by have:=HK1.out;have:=HK2.out;have:=HK3.out;omega⟩,⟨sm HO_12.out⟩,⟨sm HO_24.out⟩,⟨bm BK200.out⟩,⟨h1 HB.out GE200.out⟩⟩
 rw[if_pos c26]at H
 have c26b0:decide (x45_3<(l1.length:Int))=true:=decide_eq_true c26
 clear c26
 obtain⟨t215,A27,H⟩:=bd H;(try dsimp only at H)
 by_cases c28:t215=true
 ·subst c28
  rw[if_pos rfl]at H
  have H':=Aside0.mk H
  clear H
  go_wp2_with (first|(refine gs 50 Try.func84 #[.slice A210_0 (rd_L2 x11_1 x26_2).length c210_0,.int .i64 x45_3] ?_;(with_reducible refine(slices_Contains_int_int.calls k3 _ _ (rd_L2 x11_1 x26_2) x45_3 true _ ?side1 ?side2 A27.out).mono ?_);(case side1=>exact cm (Kd.V_reads' HV210_0.out).2.2);(case side2=>exact HC210_0.out);rintro e w' ⟨rfl,⟨nd,rfl⟩⟩;refine⟨_,rfl,?_⟩))
  go_roundg k3
  case measure=>have:=HK1.out;have:=HK2.out;have:=HK3.out;omega
  case rel=>exact⟨(x12_3),(wrap64 (x45_3+1)),fd,H',⟨by have:=HK1.out;have:=HK2.out;have:=HK3.out;omega⟩,⟨sm HO_12.out⟩,⟨sm HO_24.out⟩,⟨by(with_reducible repeat(first|apply Kd.V_alloc|apply Kd.V_drewN|apply Kd.V_drew));first|exact HV210_0.out|exact Kd.V_mono HV210_0.out (fun _ hk=>hk.2)⟩,⟨bm BK200.out⟩,⟨h1 HB.out GE200.out⟩⟩
 replace c28:=Bool.eq_false_iff.mpr c28
 subst c28
 rw[if_neg (show ¬(false=true)by decide)]at H
 obtain⟨t216,A29,H⟩:=bd H;(try dsimp only at H)
 obtain⟨c30,H⟩:=gi H
 have LMc30:=Aside0.mk c30
 clear c30
 generalize hy219: (t216++[x45_3]:List Int)=y219 at H
 have Ny219:=ak hy219.symm
 clear hy219
 obtain⟨c31,H⟩:=gi H
 have LMc31:=Aside0.mk c31
 clear c31
 generalize hy222: (x12_3++[y219]:List (List Int))=y222 at H
 have Ny222:=ak hy222.symm
 clear hy222
 have H':=Aside0.mk H
 clear H
 go_wp2_with (first|(refine gs 50 Try.func84 #[.slice A210_0 (rd_L2 x11_1 x26_2).length c210_0,.int .i64 x45_3] ?_;(with_reducible refine(slices_Contains_int_int.calls k3 _ _ (rd_L2 x11_1 x26_2) x45_3 false _ ?side1 ?side2 A27.out).mono ?_);(case side1=>exact cm (Kd.V_reads' HV210_0.out).2.2);(case side2=>exact HC210_0.out);rintro e w' ⟨rfl,⟨nd,rfl⟩⟩;refine⟨_,rfl,?_⟩)|(refine gs 54 Try.func106 #[.slice A210_0 (rd_L2 x11_1 x26_2).length c210_0] ?_;(with_reducible refine(impl_copied.calls _ _ (rd_L2 x11_1 x26_2) t216 _ ?side1 ?side2 A29.out).mono ?_);(case side1=>exact cm (Kd.V_reads' HV210_0.out).2.2);(case side2=>exact HC210_0.out);rintro e w32 ⟨v217,rfl,ho0,hb⟩;refine⟨_,rfl,?_⟩;have nl_:=Aside0.mk (Kd.V_elder' (vm HV210_0.out) (R_base ho0) hb);clear HV210_0;have HV210_0:=nl_;clear nl_;replace HO_12:=ak (Kd.S_elder' (sm HO_12.out) (R_base ho0) hb);replace HO_24:=ak (Kd.S_elder' (sm HO_24.out) (R_base ho0) hb);have HO218:=ak (R_lower ho0 (below_size (h1 HB.out GE200.out)));replace BK200:=kb BK200 hb;replace HB:=ak (below_step (h1 HB.out GE200.out) hb);(try clear hb);(try clear hk);(try clear hi);(try clear ho0))|((with_reducible refine gate_builtin (b:=.append) (xs:=#[.tmp 54,.tmp 56]) rfl ?_);at_builtin;refine R_append (Kd.int .i64) (w0:=w) w.heap.size rfl (.tmp 54) (.tmp 56) 40 3 (.int .i64 0) 8 rfl Try.underlying40 info3 rfl (by decide) (by omega) v217 t216 x45_3 [.int .i64 x45_3] (fun _=>True) (fun _=>False) rfl rfl ?aP (fun _ hk=>hk.elim) ?aF ?aO ?aB ?aS ?aL ?_;(case aP=>exact rfl);(case aB=>exact(h1 HB.out GE200.out));(case aF=>exact(fun _ _=>trivial));(case aO=>exact(rm HO218.out));(case aS=>exact(below_size (h1 HB.out GE200.out)));(case aL=>have:=LMc30.out;omega);intro v220 w33 ho hb hg hat;rw[←Ny219.out]at ho;have nl_:=Aside0.mk (Kd.V_afterv (ok:=(fun k_=>ob k_ u12)) (vm HV210_0.out) hg hat);clear HV210_0;have HV210_0:=nl_;clear nl_;replace HO_12:=ak (Kd.S_after (ok:=(fun k_=>some k_≠(.slice (some ad210) x11_1.length co11:Value).ownBlock)) (sm HO_12.out) hg hat);replace HO_24:=ak (Kd.S_after (ok:=(fun k_=>ob k_ u12)) (sm HO_24.out) hg hat);replace BK200:=ak (blk_grown (g:=gb200) (o:=.cells #[.int .i64 a0_0,.bool a0_1] 28 (0,0)) (bm BK200.out) hg (R_ne HO218.out BK200.out (by decide)));replace HB:=ak hb;have HO221:=ak ho;clear HO218;clear ho hb hg hat;obtain⟨Ao35,co35,eo35⟩:=R_slice HO221.out;subst eo35)|((with_reducible refine gate_builtin (b:=.append) (xs:=#[.tmp 52,.tmp 58]) rfl ?_);at_builtin;refine Kd.S_append (Kd.slice 3 (Kd.int .i64)) (w0:=w) w.heap.size rfl (.tmp 52) (.tmp 58) 89 40 (.slice none 0 0) 24 rfl Try.underlying89 info40 rfl (by decide) (by omega) u12 x12_3 y219 [.slice Ao35 y219.length co35] (fun k_=>some k_≠(.slice (some ad210) x11_1.length co11:Value).ownBlock) (fun k_=>some k_=(.slice Ao35 y219.length co35:Value).ownBlock) rfl rfl ?aP (fun k_ hk_=>((R_mono (ok':=fun k_=>((fun k_=>some k_≠(.slice (some ad210) x11_1.length co11:Value).ownBlock)) k_∧ob k_ u12) (R_apart' (R_apart' (HO221.out) (Kd.S_typed HO_24.out) (by decide)) (Kd.S_typed HO_12.out) (by decide)) (fun k_ hk=>⟨hk.1.2,hk.2⟩))).1 k_ hk_.symm) ?aF ?aO ?aB ?aS ?aL ?_;(case aP=>exact Kd.M_row (R_mono (R_tight rfl (R_mono (ok':=fun k_=>((fun k_=>some k_≠(.slice (some ad210) x11_1.length co11:Value).ownBlock)) k_∧ob k_ u12) (R_apart' (R_apart' (HO221.out) (Kd.S_typed HO_24.out) (by decide)) (Kd.S_typed HO_12.out) (by decide)) (fun k_ hk=>⟨hk.1.2,hk.2⟩))) (fun _ h_=>h_)));(case aB=>exact(h1 HB.out GE200.out));(case aF=>exact(fun k_ hk=>Kd.fresh' (Kd.S_lt (sm HO_24.out)) k_ hk));(case aO=>exact(sm (Kd.S_mono HO_12.out (fun k_ hk=>⟨hk.1,fun e_=>hk.2 e_⟩))));(case aS=>exact(below_size (h1 HB.out GE200.out)));(case aL=>have:=LMc31.out;omega);intro v223 w34 ho hb hg hat;rw[←Ny222.out]at ho;have nl_:=Aside0.mk (Kd.V_afterv (ok:=(fun _=>True)) (vm (Kd.V_mono HV210_0.out (fun _ hk=>⟨trivial,hk.1⟩))) hg hat);clear HV210_0;have HV210_0:=nl_;clear nl_;replace HO_24:=ak (Kd.S_after (ok:=(fun k_=>ob k_ (.slice Ao35 y219.length co35))) (sm (Kd.S_mono HO_24.out (fun _ hk=>⟨hk.2,hk.1⟩))) hg hat);replace BK200:=ak (blk_grown (g:=gb200) (o:=.cells #[.int .i64 a0_0,.bool a0_1] 28 (0,0)) (bm BK200.out) hg (Kd.S_ne HO_12.out BK200.out (by decide)));replace HB:=ak hb;have HO224:=ak ho;clear HO_12 HO221;clear ho hb hg hat))
 go_roundg k3
 case measure=>have:=HK1.out;have:=HK2.out;have:=HK3.out;omega
 case rel=>exact⟨(y222),(wrap64 (x45_3+1)),fd,H',⟨by have:=HK1.out;have:=HK2.out;have:=HK3.out;omega⟩,⟨sm HO224.out⟩,⟨sm (Kd.S_mono HO_24.out (fun _ hk=>hk.2))⟩,⟨by(with_reducible repeat(first|apply Kd.V_alloc|apply Kd.V_drewN|apply Kd.V_drew));first|exact HV210_0.out|exact Kd.V_mono HV210_0.out (fun _ hk=>hk.2)⟩,⟨bm BK200.out⟩,⟨h1 HB.out GE200.out⟩⟩
theorem empty_C (W:World) (A:Option Addr):Kd.C (Kd.int .i64) W A 0 []:=⟨rfl,by omega,fun h=>absurd h (Nat.lt_irrefl 0)⟩
set_option maxHeartbeats 8000000 in
set_option maxRecDepth 100000 in
theorem impl_Road_reachOrder.first (a0_0:Int) (a0_1:Bool) (A1:Option Addr) (c1:Nat) (l1:List (S63)) (a2:Int) (a3:Int) (w:World) (hr1:Kd.C k63 w A1 l1.length l1) (hc1:l1.length≤c1) (hle:a3≤a2):
  Calls Try.prog 68 #[.agg #[.int .i64 a0_0,.bool a0_1],.slice A1 l1.length c1,.int .i64 a2,.int .i64 a3] w fun e w'=>∃ (ad:Addr),e= .returned (.tuple #[.slice (some ad) 0 0,.int .i64 a2])∧Kd.R (Kd.int .i64) 3 w' w.heap.size (fun _=>True) (.slice (some ad) 0 0) []∧Below w.heap.size w w':=by
 have hu28:=Try.underlying28
 have hu40:=Try.underlying40
 have HR1:=Aside0.mk hr1
 have HC1:=Aside0.mk hc1
 have c19b0:decide (a3≤a2)=true:=decide_eq_true hle
 clear hr1 hc1 hle
 have HB:=Aside0.mk (Below.refl w.heap.size w)
 have hq:impl_Road_orderReach.f 1 a0_0 a0_1 l1 [] a2=some a2:=by simp[impl_Road_orderReach.f,impl_Road_orderReach.l0]
 have HQ:=Aside0.mk hq
 clear hq
 go_enter Try.func68,Try.ntmps68
 go_wp2_with (first
  | (refine bx 4 #[.int .i64 a0_0,.bool a0_1] 28 ?_;intro gb1 hg w1 hbox hb;have n0_:=Aside0.mk (below_step HB.out hb);have BK1:=Aside0.mk hbox;clear HB;have HB:=n0_;clear n0_ hb hg hbox))
 have hs1: (w1.alloc (Obj.cells #[] 3)).heap.size=w1.heap.size+1:=by simp
 obtain⟨w3,hw3⟩:∃ w3,w3=((w1.alloc (Obj.cells #[] 3)).alloc (Obj.cells #[Value.slice (some {block:=w1.heap.size,off:=0}) 0 0] 40)):=⟨_,rfl⟩
 rw[←hw3]
 have BKB:=Aside0.mk (show w3.heap[w1.heap.size+1]? =some (.cells #[.slice (some {block:=w1.heap.size,off:=0}) 0 0] 40 (0,0))by rw[hw3,←hs1];exact blk_new _ _)
 have BK3:=Aside0.mk (show w3.heap[gb1]? =some (.cells #[.int .i64 a0_0,.bool a0_1] 28 (0,0))by rw[hw3];exact blk_alloc (blk_alloc BK1.out _) _)
 have HB3:=Aside0.mk (show Below w.heap.size w w3 by
  rw[hw3]
  exact below_alloc (below_alloc HB.out _) _)
 have HRA:=Aside0.mk (show Kd.R (Kd.int .i64) 3 (w1.alloc (Obj.cells #[] 3)) w.heap.size (fun _=>True) (.slice (some {block:=w1.heap.size,off:=0}) 0 0) []from⟨fun _ _=>trivial,[],by have h2: (w1.alloc (Obj.cells #[] 3)).ownsRow w.heap.size 3 1 (.slice (some {block:=w1.heap.size,off:=0}) 0 0) 0 []:=(by simpa using World.ownsRow_lit (base:=w.heap.size) (e:=3) (size:=1) w1 #[] 0 (below_size HB.out) (by simp[maxLen]) (by simp));exact h2,Reps.none _ _⟩)
 have HRA3:=Aside0.mk (show Kd.R (Kd.int .i64) 3 w3 w.heap.size (fun _=>True) (.slice (some {block:=w1.heap.size,off:=0}) 0 0) []by rw[hw3];exact R_below HRA.out (below_alloc (Below.refl _ _) _))
 clear HRA
 clear hw3 hs1 HB BK1
 obtain⟨gA,hgA⟩:∃ gA,gA=w1.heap.size:=⟨_,rfl⟩
 rw[←hgA]at BKB
 have HRA:=Aside0.mk HRA3.out
 clear HRA3
 replace HRA:=HRA.out
 rw[←hgA]at HRA
 replace HRA:=Aside0.mk HRA
 rw[←hgA]
 clear hgA
 refine wp_loop_once ?_
 go_wp2
 obtain⟨w4,hw4⟩:∃ w4,w4=w3.alloc (Obj.cells #[] 40):=⟨_,rfl⟩
 rw[←hw4]
 have BKB4:=Aside0.mk (show w4.heap[gA+1]? =some (.cells #[.slice (some {block:=gA,off:=0}) 0 0] 40 (0,0))by rw[hw4];exact blk_alloc BKB.out _)
 have BK4:=Aside0.mk (show w4.heap[gb1]? =some (.cells #[.int .i64 a0_0,.bool a0_1] 28 (0,0))by rw[hw4];exact blk_alloc BK3.out _)
 have HB4:=Aside0.mk (show Below w.heap.size w w4 by rw[hw4];exact below_alloc HB3.out _)
 have HRA4:=Aside0.mk (show Kd.R (Kd.int .i64) 3 w4 w.heap.size (fun _=>True) (.slice (some {block:=gA,off:=0}) 0 0) []by rw[hw4];exact R_below HRA.out (below_alloc (Below.refl _ _) _))
 clear hw4 BKB BK3 HB3 HRA
 have hz:w4.cell? ⟨gA+1,0,none⟩=some (.slice (some {block:=gA,off:=0}) 0 0):=(blk_cell BKB4.out 0).trans rfl
 have hcz0:=bc BK4 0 rfl
 have hcz1:=bc BK4 1 rfl
 have hfz0:=bf BK4 0
 have hfz1:=bf BK4 1
 refine wp_loop_once ?_
 go_wp2_with (first
  | (go_at_call 85;refine(impl_Road_orderReach.calls 1 a0_0 a0_1 A1 c1 l1 (some {block:=gA,off:=0}) 0 [] a2 a2 _ ?side1 ?side2 ?side3 ?side4 HQ.out).mono ?_;(case side1=>exact cm (C_below HR1.out HB4.out));(case side2=>exact HC1.out);(case side3=>exact empty_C _ _);(case side4=>exact Nat.le_refl 0);rintro e w5 ⟨rfl,hb⟩;have HB5:=Aside0.mk (below_step HB4.out hb);have HRA5:=Aside0.mk (R_below HRA4.out hb);clear hb))
 go_ret2
 exact⟨_,by first|rfl|(simp;done),HRA5.out,HB5.out⟩
theorem reach_first {k:Nat} {a0:Int} {a1:Bool} {l:List (S63)} {a b x2:Int} {x1:List Int} (hb:b≤a) (h:impl_Road_reachOrder.f k a0 a1 l a b=some (x1,x2)):x2=a:=by
 rcases k with _|_|_|k
 ·simp[impl_Road_reachOrder.f,impl_Road_reachOrder.l0]at h
 ·simp[impl_Road_reachOrder.f,impl_Road_reachOrder.l0,impl_Road_reachOrder.l1]at h
 ·simp[impl_Road_reachOrder.f,impl_Road_reachOrder.l0,impl_Road_reachOrder.l1,rd_L2,impl_Road_orderReach.f,impl_Road_orderReach.l0]at h
 ·simp[impl_Road_reachOrder.f,impl_Road_reachOrder.l0,impl_Road_reachOrder.l1,rd_L2,impl_Road_orderReach.f,impl_Road_orderReach.l0,hb,impl_copied.f]at h
  exact h.2.symm
def reachOrder3.f (k:Nat) (a0_0:Int) (a0_1:Bool) (l1:List (S63)) (a2:Int) (a3:Int):Option (List Int × Int × Bool):=(impl_Road_reachOrder.f k a0_0 a0_1 l1 a2 a3).bind fun t=>some (t.1,t.2,decide (t.1≠[]∨a3≤a2))
theorem reachOrder3.mono:∀ a0 a1 a2 a3 a4 k,LeO (reachOrder3.f k a0 a1 a2 a3 a4) (reachOrder3.f (k+1) a0 a1 a2 a3 a4):=fun a0 a1 a2 a3 a4 k=>LeO.bind (impl_Road_reachOrder.mono a0 a1 a2 a3 a4 k) (fun _=>LeO.refl _)
theorem reachOrder3.calls (k:Nat) (a0_0:Int) (a0_1:Bool) (A1:Option Addr) (c1:Nat) (l1:List (S63)) (a2:Int) (a3:Int) (r1:List Int) (r2:Int) (r3:Bool) (w:World) (hr1:Kd.C k63 w A1 l1.length l1) (hc1:l1.length≤c1) (h:reachOrder3.f k a0_0 a0_1 l1 a2 a3=some (r1,r2,r3)):
  Calls Try.prog 68 #[.agg #[.int .i64 a0_0,.bool a0_1],.slice A1 l1.length c1,.int .i64 a2,.int .i64 a3] w fun e w'=>∃ v0_:Value,e= .returned (.tuple #[v0_,.int .i64 r2])∧Kd.R (Kd.int .i64) 3 w' w.heap.size (fun _=>True) v0_ r1∧(∃ (A:Option Addr) (c:Nat),v0_= .slice A r1.length c∧(!A.isNone)=r3)∧Below w.heap.size w w':=by
 unfold reachOrder3.f at h
 obtain⟨⟨x1,x2⟩,hx,hh⟩:=Option.bind_eq_some_iff.mp h
 simp only[Option.some.injEq,Prod.mk.injEq]at hh
 obtain⟨rfl,rfl,rfl⟩:=hh
 by_cases hb:x1=[]∧a3≤a2
 ·obtain⟨rfl,hb⟩:=hb
  have e2:=reach_first hb hx
  subst e2
  refine(impl_Road_reachOrder.first a0_0 a0_1 A1 c1 l1 x2 a3 w hr1 hc1 hb).mono fun e w' hh=>?_
  obtain⟨ad,he,hv,hbel⟩:=hh
  exact⟨_,he,hv,⟨some ad,0,rfl,by simp[hb]⟩,hbel⟩
 refine(impl_Road_reachOrder.calls k a0_0 a0_1 A1 c1 l1 a2 a3 x1 x2 w hr1 hc1 hx).mono fun e w' hh=>?_
 obtain⟨v,he,hv,hn,hbel⟩:=hh
 obtain⟨A,c,rfl⟩:=R_slice hv
 refine⟨_,he,hv,⟨A,c,rfl,?_⟩,hbel⟩
 by_cases hx1:x1=[]
 rotate_left
 ·have hp:0<x1.length:=by cases x1 with|nil=>exact absurd rfl hx1|cons=>simp
  obtain⟨ad,e1,_⟩:=Kd.at_int (R_reads' hv).2.2 0 (by omega) (by omega)
  subst e1
  simp only[Option.isNone_some,Bool.not_false]
  exact(decide_eq_true (Or.inl hx1)).symm
 subst hx1
 have hlt:a2<a3:=by
  have:¬a3≤a2:=fun z=>hb ⟨rfl,z⟩
  omega
 have hnil:=hn rfl hlt
 injection hnil with hA
 subst hA
 simp only[Option.isNone_none,Bool.not_true]
 exact(decide_eq_false (fun z=>z.elim (fun q=>q rfl) (fun q=>by omega))).symm
def impl_ReachOrder.f (k:Nat) (a0_0:Int) (a0_1:Bool) (l1:List (S63)) (a2:Int) (a3:Int):Option (List Int × Bool):=(impl_isCarried.f k a0_0 a0_1 l1 (([a2,a3]:List Int))).bind fun t229=>(if t229=true then((reachOrder3.f k a0_0 a0_1 l1 a2 a3).bind fun bt230=>(some (bt230.1,bt230.2.2)))else(some (([]:List Int),false)))
theorem impl_ReachOrder.mono:∀ a0 a1 a2 a3 a4 k,LeO (impl_ReachOrder.f k a0 a1 a2 a3 a4) (impl_ReachOrder.f (k+1) a0 a1 a2 a3 a4):=by
 intro a0 a1 a2 a3 a4 k
 unfold impl_ReachOrder.f
 repeat' (with_reducible first|exact impl_isCarried.mono ..|exact reachOrder3.mono ..|exact LeO.refl _|exact LeO.none _|refine LeO.ite ?_ ?_|refine LeO.bind ?_ (fun _=>?_))
set_option maxHeartbeats 8000000 in
set_option maxRecDepth 100000 in
theorem impl_ReachOrder.calls (k:Nat) (a0_0:Int) (a0_1:Bool) (A1:Option Addr) (c1:Nat) (l1:List (S63)) (a2:Int) (a3:Int) (r1:List Int) (r2:Bool) (w:World) (hr1:Kd.C k63 w A1 l1.length l1) (hc1:l1.length≤c1) (h:impl_ReachOrder.f k a0_0 a0_1 l1 a2 a3=some (r1,r2)):
  Calls Try.prog 26 #[.agg #[.int .i64 a0_0,.bool a0_1],.slice A1 l1.length c1,.int .i64 a2,.int .i64 a3] w fun e w'=>∃ v0_:Value,e= .returned (.tuple #[v0_,.bool r2])∧Kd.R (Kd.int .i64) 3 w' w.heap.size (fun _=>True) v0_ r1∧Below w.heap.size w w':=by
 have hu28:=Try.underlying28
 have hu40:=Try.underlying40
 have HR1:=Aside0.mk hr1
 have HC1:=Aside0.mk hc1
 clear hr1 hc1
 have HB:=Aside0.mk (Below.refl w.heap.size w)
 unfold impl_ReachOrder.f at h
 have H:=h
 clear h
 generalize hy226: ([a2,a3]:List Int)=y226 at H
 have Ny226:=ak hy226.symm
 clear hy226
 obtain⟨t229,A5,H⟩:=bd H;(try dsimp only at H)
 by_cases c6:t229=true
 rotate_left
 ·replace c6:=Bool.eq_false_iff.mpr c6
  subst c6
  rw[if_neg (show ¬(false=true)by decide)]at H
  simp only[Option.some.injEq,Prod.mk.injEq]at H
  obtain⟨rfl,rfl⟩:=H
  go_enter Try.func26,Try.ntmps26
  go_wp2_with (first|(refine bx 4 #[.int .i64 a0_0,.bool a0_1] 28 ?_;intro gb225 hg w16 hbox hb;have BK225:=ak hbox;have GW225:=gw HB hg;have GE225:=gw HB hg;replace HB:=bs HB hb;clear hb hbox hg;have hcz17_0:=bc BK225 0 rfl;have hcz17_1:=bc BK225 1 rfl;have hfz17_0:=bf BK225 0;have hfz17_1:=bf BK225 1)|((with_reducible refine gate_dst (N:=16) rfl ?_);refine R_lit (Kd.int .i64) _ 3 ?hg (N:=16) ?hd (xs:=([a2,a3]:List Int)) (inner:=[.int .i64 a2,.int .i64 a3]) (ok:=fun _=>True) (okp:=fun _=>True) ?hr ?hp (fun _ hk=>hk) trivial (Below.refl _ _) (Nat.le_refl _) (by simp) ?_;(case hd=>rfl);(case hg=>rfl);(case hr=>first|(go_simp;done)|(go_simp;rfl));(case hp=>exact(Reps.one (show Kd.M (Kd.int .i64) _ _ _ a2 [.int .i64 a2]from rfl) (Reps.one (show Kd.M (Kd.int .i64) _ _ _ a3 [.int .i64 a3]from rfl) (Reps.none _ _))));intro v227 w18 ho19 hb hg_ hnew_;clear hg_ hnew_;(first|rw[←Ny226.out]at ho19|(simp only[Int.reduceToNat]at ho19;rw[←Ny226.out]at ho19));have HO228:=ak (R_lower ho19 (below_size (h1 HB.out GE225.out)));replace BK225:=kb BK225 hb;replace HB:=ak (below_step (h1 HB.out GE225.out) hb);clear hb ho19;obtain⟨Ao20,co20,eo20⟩:=R_slice HO228.out;subst eo20)|(refine gs 17 Try.func63 #[.agg #[.int .i64 a0_0,.bool a0_1],.slice A1 l1.length c1,.slice Ao20 y226.length co20] ?_;(with_reducible refine(impl_isCarried.calls k a0_0 a0_1 _ _ l1 _ _ y226 false _ ?side1 ?side2 ?side3 ?side4 A5.out).mono ?_);(case side1=>exact cm (C_below HR1.out HB.out));(case side2=>exact HC1.out);(case side3=>exact cm (R_reads' HO228.out).2.2);(case side4=>exact(R_reads' HO228.out).2.1);rintro e w21 ⟨rfl,hb⟩;refine⟨_,rfl,?_⟩;replace HO228:=rb HO228 hb;replace BK225:=kb BK225 hb;replace HB:=ak (below_step (h1 HB.out GE225.out) hb);(try clear hb);(try clear hk);(try clear hi)))
  go_ret2
  exact⟨_,fe,by first|exact R_nil _ _ _ _ _|exact Kd.N_nil _ _ _ _ _|exact Kd.V_nil _ _ _ _ _|exact Kd.Q_nil _ _ _ _ _|exact Kd.S_nil _ _ _ _ _,h1 HB.out GE225.out⟩
 subst c6
 rw[if_pos rfl]at H
 obtain⟨⟨t230,t233,t234⟩,A7,H⟩:=bd H;(try dsimp only at H)
 simp only[Option.some.injEq,Prod.mk.injEq]at H
 obtain⟨rfl,rfl⟩:=H
 go_enter Try.func26,Try.ntmps26
 go_wp2_with (first|(refine bx 4 #[.int .i64 a0_0,.bool a0_1] 28 ?_;intro gb225 hg w8 hbox hb;have BK225:=ak hbox;have GW225:=gw HB hg;have GE225:=gw HB hg;replace HB:=bs HB hb;clear hb hbox hg;have hcz9_0:=bc BK225 0 rfl;have hcz9_1:=bc BK225 1 rfl;have hfz9_0:=bf BK225 0;have hfz9_1:=bf BK225 1)|((with_reducible refine gate_dst (N:=16) rfl ?_);refine R_lit (Kd.int .i64) _ 3 ?hg (N:=16) ?hd (xs:=([a2,a3]:List Int)) (inner:=[.int .i64 a2,.int .i64 a3]) (ok:=fun _=>True) (okp:=fun _=>True) ?hr ?hp (fun _ hk=>hk) trivial (Below.refl _ _) (Nat.le_refl _) (by simp) ?_;(case hd=>rfl);(case hg=>rfl);(case hr=>first|(go_simp;done)|(go_simp;rfl));(case hp=>exact(Reps.one (show Kd.M (Kd.int .i64) _ _ _ a2 [.int .i64 a2]from rfl) (Reps.one (show Kd.M (Kd.int .i64) _ _ _ a3 [.int .i64 a3]from rfl) (Reps.none _ _))));intro v227 w10 ho11 hb hg_ hnew_;clear hg_ hnew_;(first|rw[←Ny226.out]at ho11|(simp only[Int.reduceToNat]at ho11;rw[←Ny226.out]at ho11));have HO228:=ak (R_lower ho11 (below_size (h1 HB.out GE225.out)));replace BK225:=kb BK225 hb;replace HB:=ak (below_step (h1 HB.out GE225.out) hb);clear hb ho11;obtain⟨Ao12,co12,eo12⟩:=R_slice HO228.out;subst eo12)|(refine gs 17 Try.func63 #[.agg #[.int .i64 a0_0,.bool a0_1],.slice A1 l1.length c1,.slice Ao12 y226.length co12] ?_;(with_reducible refine(impl_isCarried.calls k a0_0 a0_1 _ _ l1 _ _ y226 true _ ?side1 ?side2 ?side3 ?side4 A5.out).mono ?_);(case side1=>exact cm (C_below HR1.out HB.out));(case side2=>exact HC1.out);(case side3=>exact cm (R_reads' HO228.out).2.2);(case side4=>exact(R_reads' HO228.out).2.1);rintro e w13 ⟨rfl,hb⟩;refine⟨_,rfl,?_⟩;replace HO228:=rb HO228 hb;replace BK225:=kb BK225 hb;replace HB:=ak (below_step (h1 HB.out GE225.out) hb);(try clear hb);(try clear hk);(try clear hi);have hcz14_0:=bc BK225 0 rfl;have hcz14_1:=bc BK225 1 rfl;have hfz14_0:=bf BK225 0;have hfz14_1:=bf BK225 1)|(refine gs 24 Try.func68 #[.agg #[.int .i64 a0_0,.bool a0_1],.slice A1 l1.length c1,.int .i64 a2,.int .i64 a3] ?_;(with_reducible refine(reachOrder3.calls k a0_0 a0_1 _ _ l1 a2 a3 t230 t233 t234 _ ?side1 ?side2 A7.out).mono ?_);(case side1=>exact cm (C_below HR1.out HB.out));(case side2=>exact HC1.out);rintro e w15 ⟨v231,rfl,ho0,⟨Az_,cz_,ez_,hz_⟩,hb⟩;refine⟨_,rfl,?_⟩;have HO232:=ak (R_lower (R_new' ho0 (R_lt (rm HO228.out))) (below_size (h1 HB.out GE225.out)));replace HO228:=ak (R_elder' (rm HO228.out) (R_base ho0) hb);replace BK225:=kb BK225 hb;replace HB:=ak (below_step (h1 HB.out GE225.out) hb);(try clear hb);(try clear hk);(try clear hi);(try clear ho0);subst ez_;subst hz_))
 go_ret2
 exact⟨_,fe,rm (R_mono HO232.out (fun _ hk=>trivial)),h1 HB.out GE225.out⟩
def impl_FewestCarriers.f (k:Nat) (a0_0:Int) (a0_1:Bool) (l1:List (S63)) (a2:Int) (a3:Int):Option (Int × Bool):=(impl_ReachOrder.f k a0_0 a0_1 l1 a2 a3).bind fun bt236=>(some ((bt236.1.length:Int),bt236.2))
theorem impl_FewestCarriers.mono:∀ a0 a1 a2 a3 a4 k,LeO (impl_FewestCarriers.f k a0 a1 a2 a3 a4) (impl_FewestCarriers.f (k+1) a0 a1 a2 a3 a4):=by
 intro a0 a1 a2 a3 a4 k
 unfold impl_FewestCarriers.f
 repeat' (with_reducible first|exact impl_ReachOrder.mono ..|exact LeO.refl _|exact LeO.none _|refine LeO.ite ?_ ?_|refine LeO.bind ?_ (fun _=>?_))
set_option maxHeartbeats 8000000 in
set_option maxRecDepth 100000 in
theorem impl_FewestCarriers.calls (k:Nat) (a0_0:Int) (a0_1:Bool) (A1:Option Addr) (c1:Nat) (l1:List (S63)) (a2:Int) (a3:Int) (r1:Int) (r2:Bool) (w:World) (hr1:Kd.C k63 w A1 l1.length l1) (hc1:l1.length≤c1) (h:impl_FewestCarriers.f k a0_0 a0_1 l1 a2 a3=some (r1,r2)):
  Calls Try.prog 14 #[.agg #[.int .i64 a0_0,.bool a0_1],.slice A1 l1.length c1,.int .i64 a2,.int .i64 a3] w fun e w'=>e= .returned (.tuple #[.int .i64 r1,.bool r2])∧Below w.heap.size w w':=by
 have hu28:=Try.underlying28
 have hu40:=Try.underlying40
 have HR1:=Aside0.mk hr1
 have HC1:=Aside0.mk hc1
 clear hr1 hc1
 have HB:=Aside0.mk (Below.refl w.heap.size w)
 unfold impl_FewestCarriers.f at h
 have H:=h
 clear h
 obtain⟨⟨t236,t239⟩,A5,H⟩:=bd H;(try dsimp only at H)
 simp only[Option.some.injEq,Prod.mk.injEq]at H
 obtain⟨rfl,rfl⟩:=H
 go_enter Try.func14,Try.ntmps14
 go_wp2_with (first|(refine bx 4 #[.int .i64 a0_0,.bool a0_1] 28 ?_;intro gb235 hg w6 hbox hb;have BK235:=ak hbox;have GW235:=gw HB hg;have GE235:=gw HB hg;replace HB:=bs HB hb;clear hb hbox hg;have hcz7_0:=bc BK235 0 rfl;have hcz7_1:=bc BK235 1 rfl;have hfz7_0:=bf BK235 0;have hfz7_1:=bf BK235 1)|(refine gs 17 Try.func26 #[.agg #[.int .i64 a0_0,.bool a0_1],.slice A1 l1.length c1,.int .i64 a2,.int .i64 a3] ?_;(with_reducible refine(impl_ReachOrder.calls k a0_0 a0_1 _ _ l1 a2 a3 t236 t239 _ ?side1 ?side2 A5.out).mono ?_);(case side1=>exact cm (C_below HR1.out HB.out));(case side2=>exact HC1.out);rintro e w8 ⟨v237,rfl,ho0,hb⟩;refine⟨_,rfl,?_⟩;have HO238:=ak (R_lower ho0 (below_size (h1 HB.out GE235.out)));replace BK235:=kb BK235 hb;replace HB:=ak (below_step (h1 HB.out GE235.out) hb);(try clear hb);(try clear hk);(try clear hi);(try clear ho0);obtain⟨Ao9,co9,eo9⟩:=R_slice HO238.out;subst eo9))
 go_ret2
 exact⟨fe,h1 HB.out GE235.out⟩
end
end Go.Proofs.Ythagkpoinjpmfaa.QFnReaches
