/- Functions that the law FnMoves comes to, and their walks: no condition but those named. -/
import Derived.Test.YtanfamfgdgcjpaaQFnMovesx0
namespace Go.Proofs.Ytanfamfgdgcjpaa.QFnMoves
open Go.RowKit Go.Proofs.YtanfamfgdgcjpaaW.PrintWords Go.Proofs.YtanfamfgdgcjpaaW.PrintLast Go.Proofs.YtanfamfgdgcjpaaW.PrintMore Go.Proofs.Ytanfamfgdgcjpaa.Short
attribute [local go_sem] max2_int min2_int max_two min_two max_three min_three max_four min_four
set_option linter.unusedVariables false
set_option linter.unusedSimpArgs false
def IsS88 (w0 W:World) (g:Nat) (f0:List Int) (f1:Int) (f2:Int):Prop:=∃ A0 c0,W.heap[g]? =some (.cells #[.slice A0 f0.length c0, .int .i64 f1, .int .u64 f2] 88 (0,0))∧w0.heap.size≤g∧Kd.C (Kd.int .u8) w0 A0 f0.length f0
theorem IsS88.grown {w0 W:World} {g:Nat} {f0:List Int} {f1:Int} {f2:Int} {W1:World} {row:Option Nat} (h:IsS88 w0 W g f0 f1 f2) (hw:W.grownBy W1 row) (hne:some g≠row):IsS88 w0 W1 g f0 f1 f2:=by
 obtain⟨A0,c0,hb,hg,hr0⟩:=h
 exact⟨A0,c0,blk_grown hb hw hne,hg,hr0⟩
theorem IsS88.own_neN {w0 W:World} {g:Nat} {f0:List Int} {f1:Int} {f2:Int} {α:Type} {d:Kd α} {e:Nat} {base:Nat} {ok:Nat→Prop} {v:Value} {xs:List α} (h:IsS88 w0 W g f0 f1 f2) (ho:Kd.N d e W base ok v xs) (ht:e≠88):some g≠v.ownBlock:=by
 obtain⟨A0,c0,hb,hg,hr0⟩:=h
 exact Kd.N_ne ho hb ht
theorem IsS88.fresh {w0 W:World} {g:Nat} {f0:List Int} {f1:Int} {f2:Int} (h:IsS88 w0 W g f0 f1 f2):∀ k,W.heap.size≤k→k≠g:=by
 obtain⟨A0,c0,hb,hg,hr0⟩:=h
 exact Kd.freshB hb
theorem IsS88.kept {w0 W:World} {g:Nat} {f0:List Int} {f1:Int} {f2:Int} {W1:World} {S:Nat→Prop} (h:IsS88 w0 W g f0 f1 f2) (hk:Kept W W1 S) (hne:¬S g):IsS88 w0 W1 g f0 f1 f2:=by
 obtain⟨A0,c0,hb,hg,hr0⟩:=h
 exact⟨A0,c0,blk_kept hb hk hne,hg,hr0⟩
theorem IsS88.below {w0 W:World} {g:Nat} {f0:List Int} {f1:Int} {f2:Int} {W1:World} (h:IsS88 w0 W g f0 f1 f2) (hw:Below W.heap.size W W1):IsS88 w0 W1 g f0 f1 f2:=h.grown (grown_of_below hw none) (by simp)
theorem IsS88.alloc {w0 W:World} {g:Nat} {f0:List Int} {f1:Int} {f2:Int} (h:IsS88 w0 W g f0 f1 f2) (o:Obj):IsS88 w0 (W.alloc o) g f0 f1 f2:=h.below (below_alloc (Below.refl _ _) o)
theorem IsS88.drewN {w0 W:World} {g:Nat} {f0:List Int} {f1:Int} {f2:Int} (h:IsS88 w0 W g f0 f1 f2) (m:Nat):IsS88 w0 (W.drewN m) g f0 f1 f2:=h
theorem IsS88.drew {w0 W:World} {g:Nat} {f0:List Int} {f1:Int} {f2:Int} (h:IsS88 w0 W g f0 f1 f2):IsS88 w0 W.drew g f0 f1 f2:=h
theorem IsS88.at_ {w0 W:World} {g:Nat} {f0:List Int} {f1:Int} {f2:Int} {w':World} {m:Nat} (hq:W.drewN m=w') (h:IsS88 w0 W g f0 f1 f2):IsS88 w0 w' g f0 f1 f2:=by subst hq;exact IsS88.drewN h m
theorem IsS88.apart {w0 W:World} {g:Nat} {f0:List Int} {f1:Int} {f2:Int} {α:Type} {d:Kd α} {e:Nat} {base:Nat} {ok:Nat→Prop} {v:Value} {xs:List α} (h:IsS88 w0 W g f0 f1 f2) (ho:d.R e W base ok v xs) (ht:∀ q,q∈e::d.E→q≠88):d.R e W base (fun k=>ok k∧k≠g) v xs:=by
 obtain⟨A0,c0,hb,hg,hr0⟩:=h
 exact Kd.R_types ho hb ht
theorem IsS88.own_ne {w0 W:World} {g:Nat} {f0:List Int} {f1:Int} {f2:Int} {α:Type} {d:Kd α} {e:Nat} {base:Nat} {ok:Nat→Prop} {v:Value} {xs:List α} (h:IsS88 w0 W g f0 f1 f2) (ho:d.R e W base ok v xs) (ht:e≠88):some g≠v.ownBlock:=by
 obtain⟨A0,c0,hb,hg,hr0⟩:=h
 exact Kd.R_ne ho hb ht
theorem IsS88.apartQ {w0 W:World} {g:Nat} {f0:List Int} {f1:Int} {f2:Int} {α:Type} {d:Kd α} {e:Nat} {base:Nat} {ok:Nat→Prop} {v:Value} {xs:List α} (h:IsS88 w0 W g f0 f1 f2) (ho:d.Q e W base ok v xs) (ht:∀ q,q∈e::d.E→q≠88):d.Q e W base (fun k=>ok k∧k≠g) v xs:=by
 obtain⟨A0,c0,hb,hg,hr0⟩:=h
 exact Kd.Q_types ho hb ht
theorem IsS88.own_neQ {w0 W:World} {g:Nat} {f0:List Int} {f1:Int} {f2:Int} {α:Type} {d:Kd α} {e:Nat} {base:Nat} {ok:Nat→Prop} {v:Value} {xs:List α} (h:IsS88 w0 W g f0 f1 f2) (ho:d.Q e W base ok v xs) (ht:e≠88):some g≠v.ownBlock:=by
 obtain⟨A0,c0,hb,hg,hr0⟩:=h
 exact Kd.Q_ne ho hb ht
theorem IsS88.apartS {w0 W:World} {g:Nat} {f0:List Int} {f1:Int} {f2:Int} {α:Type} {d:Kd α} {e:Nat} {base:Nat} {ok:Nat→Prop} {v:Value} {xs:List α} (h:IsS88 w0 W g f0 f1 f2) (ho:d.S e W base ok v xs) (ht:∀ q,q∈e::d.E→q≠88):d.S e W base (fun k=>ok k∧k≠g) v xs:=by
 obtain⟨A0,c0,hb,hg,hr0⟩:=h
 exact Kd.S_types ho hb ht
theorem IsS88.own_neS {w0 W:World} {g:Nat} {f0:List Int} {f1:Int} {f2:Int} {α:Type} {d:Kd α} {e:Nat} {base:Nat} {ok:Nat→Prop} {v:Value} {xs:List α} (h:IsS88 w0 W g f0 f1 f2) (ho:d.S e W base ok v xs) (ht:e≠88):some g≠v.ownBlock:=by
 obtain⟨A0,c0,hb,hg,hr0⟩:=h
 exact Kd.S_ne ho hb ht
theorem IsS88.lt {w0 W:World} {g:Nat} {f0:List Int} {f1:Int} {f2:Int} (h:IsS88 w0 W g f0 f1 f2):g<W.heap.size:=by
 obtain⟨A0,c0,hb,hg,hr0⟩:=h
 exact blk_lt hb
theorem IsS88.ge {w0 W:World} {g:Nat} {f0:List Int} {f1:Int} {f2:Int} (h:IsS88 w0 W g f0 f1 f2):w0.heap.size≤g:=by
 obtain⟨A0,c0,hb,hg,hr0⟩:=h
 exact hg
theorem IsS88.ne_blk {w0 W:World} {g:Nat} {f0:List Int} {f1:Int} {f2:Int} {a:Nat} {cs:Array Value} {t:TypeId} {fr:Nat × Nat} (h:IsS88 w0 W g f0 f1 f2) (hb2:W.heap[a]? =some (.cells cs t fr)) (ht:t≠88):g≠a:=by
 obtain⟨A0,c0,hb,hg,hr0⟩:=h
 rintro rfl
 rw[hb]at hb2
 injection hb2 with hb2
 injection hb2 with _ ht2
 exact ht ht2.symm
theorem IsS88.far {w0 W:World} {g:Nat} {f0:List Int} {f1:Int} {f2:Int} {p:Addr} (h:IsS88 w0 W g f0 f1 f2) (hne:g≠p.block) (u:Value):IsS88 w0 (W.setCell p u) g f0 f1 f2:=by
 obtain⟨A0,c0,hb,hg,hr0⟩:=h
 exact⟨A0,c0,blk_far hb hne u,hg,hr0⟩
theorem cellS88_0 {W:World} {g:Nat} {A0:Option Addr} {c0:Nat} {f0:List Int} {f1:Int} {f2:Int} (h:W.heap[g]? =some (.cells #[.slice A0 f0.length c0, .int .i64 f1, .int .u64 f2] 88 (0,0))):W.cell? ⟨g,0,none⟩=some (.slice A0 f0.length c0):=(blk_cell h 0).trans rfl
theorem cellS88_1 {W:World} {g:Nat} {A0:Option Addr} {c0:Nat} {f0:List Int} {f1:Int} {f2:Int} (h:W.heap[g]? =some (.cells #[.slice A0 f0.length c0, .int .i64 f1, .int .u64 f2] 88 (0,0))):W.cell? ⟨g,1,none⟩=some (.int .i64 f1):=(blk_cell h 1).trans rfl
theorem IsS88.set_1 {w0 W:World} {g:Nat} {f0:List Int} {f1:Int} {f2:Int} (h:IsS88 w0 W g f0 f1 f2) (x:Int):IsS88 w0 (W.setCell ⟨g,1,none⟩ (.int .i64 x)) g f0 x f2:=by
 obtain⟨A0,c0,hb,hg,hr0⟩:=h
 exact⟨A0,c0,by simpa using blk_set hb 1 (.int .i64 x),hg,hr0⟩
theorem cellS88_2 {W:World} {g:Nat} {A0:Option Addr} {c0:Nat} {f0:List Int} {f1:Int} {f2:Int} (h:W.heap[g]? =some (.cells #[.slice A0 f0.length c0, .int .i64 f1, .int .u64 f2] 88 (0,0))):W.cell? ⟨g,2,none⟩=some (.int .u64 f2):=(blk_cell h 2).trans rfl
theorem IsS88.set_2 {w0 W:World} {g:Nat} {f0:List Int} {f1:Int} {f2:Int} (h:IsS88 w0 W g f0 f1 f2) (x:Int):IsS88 w0 (W.setCell ⟨g,2,none⟩ (.int .u64 x)) g f0 f1 x:=by
 obtain⟨A0,c0,hb,hg,hr0⟩:=h
 exact⟨A0,c0,by simpa using blk_set hb 2 (.int .u64 x),hg,hr0⟩
theorem IsS88.now {w0 W:World} {g:Nat} {f0:List Int} {f1:Int} {f2:Int} {f0':List Int} {f1':Int} {f2':Int} {W':World} (h:IsS88 w0 W g f0 f1 f2) (k:IsS88 w0 W' g f0' f1' f2':=by(try simp only[Int.add_zero]);repeat(first|(with_reducible first|exact Aside0.out (by assumption)|apply IsS88.alloc|apply IsS88.drewN|apply IsS88.drew|apply IsS88.set_1|apply IsS88.set_2|refine IsS88.far ?_ (Aside0.out (by assumption)) _)|exact Aside0.out (by assumption))):IsS88 w0 W' g f0' f1' f2':=k
theorem IsS88.new (w0 W:World) (A0:Option Addr) (c0:Nat) (f0:List Int) (f1:Int) (f2:Int) (hB:Below w0.heap.size w0 W) (hr0:Kd.C (Kd.int .u8) w0 A0 f0.length f0):IsS88 w0 (W.alloc (.cells #[.slice A0 f0.length c0, .int .i64 f1, .int .u64 f2] 88)) W.heap.size f0 f1 f2:=⟨A0,c0,by simpa using heap_alloc_new W _,hB.size,hr0⟩
section
open Kd
def spec_l1Cur_next.f (s0_0:List Int) (s0_1:Int) (s0_2:Int):Option (Int × Int × Int):=if s0_1<(s0_0.length:Int)then(if 0≤s0_1 then(if(wrap64 (s0_1+1))≤(s0_0.length:Int)then(some (wrap64 (rd s0_0 s0_1),wrap64 (s0_1+1),IntKind.u64.wrap ((IntKind.u64.wrap ((IntKind.u64.wrap (s0_2*6364136223846793005))+(IntKind.u64.wrap (wrap64 (rd s0_0 s0_1)))))+462197)))else(some (wrap64 (Go.bits .and .u64 ((IntKind.u64.wrap ((IntKind.u64.wrap ((IntKind.u64.wrap (s0_2*6364136223846793005))+(IntKind.u64.wrap (wrap64 (rd s0_0 s0_1)))))+462197))/ 1099511627776) 255),wrap64 (s0_1+1),IntKind.u64.wrap ((IntKind.u64.wrap ((IntKind.u64.wrap (s0_2*6364136223846793005))+(IntKind.u64.wrap (wrap64 (rd s0_0 s0_1)))))+462197))))else(none))else(if(wrap64 (s0_1+1))≤(s0_0.length:Int)then(some (0,wrap64 (s0_1+1),IntKind.u64.wrap ((IntKind.u64.wrap ((IntKind.u64.wrap (s0_2*6364136223846793005))+0))+462197)))else(some (wrap64 (Go.bits .and .u64 ((IntKind.u64.wrap ((IntKind.u64.wrap ((IntKind.u64.wrap (s0_2*6364136223846793005))+0))+462197))/ 1099511627776) 255),wrap64 (s0_1+1),IntKind.u64.wrap ((IntKind.u64.wrap ((IntKind.u64.wrap (s0_2*6364136223846793005))+0))+462197))))
set_option maxHeartbeats 8000000 in
set_option maxRecDepth 100000 in
theorem spec_l1Cur_next.calls (g:Nat) (s0_0:List Int) (s0_1:Int) (s0_2:Int) (r1:Int) (r2:Int) (r3:Int) (w0 w:World) (hI:IsS88 w0 w g s0_0 s0_1 s0_2) (hB:Below w0.heap.size w0 w) (h:spec_l1Cur_next.f s0_0 s0_1 s0_2=some (r1,r2,r3)):
  Calls Try.prog 86 #[.pointer (some ⟨g,0,none⟩)] w fun e w'=>e= .returned (.int .i64 r1)∧IsS88 w0 w' g s0_0 r2 r3∧Below w0.heap.size w0 w'∧KeepBut w w' g none:=by
 have HI0:=Aside0.mk hI
 have HK:=Aside0.mk (KeepBut.refl w g none)
 clear hI
 have HB:=Aside0.mk hB
 clear hB
 unfold spec_l1Cur_next.f at h
 have H:=h
 clear h
 by_cases c2:s0_1<(s0_0.length:Int)
 rotate_left
 ·rw[if_neg c2]at H
  have c2b0:decide (s0_1<(s0_0.length:Int))=false:=decide_eq_false c2
  clear c2
  by_cases c7: (wrap64 (s0_1+1))≤(s0_0.length:Int)
  ·rw[if_pos c7]at H
   have c7b0:decide ((wrap64 (s0_1+1))≤(s0_0.length:Int))=true:=decide_eq_true c7
   clear c7
   simp only[Option.some.injEq,Prod.mk.injEq]at H
   obtain⟨rfl,rfl,rfl⟩:=H
   obtain⟨ASz8_0,cSz8_0,HGz8,hgz8,HSz8_0⟩:=HI0.out
   have hcz8_0:=cellS88_0 HGz8
   have hcz8_1:=cellS88_1 HGz8
   have hcz8_2:=cellS88_2 HGz8
   have hfz8_1:=blk_frozen HGz8 1
   have hfz8_2:=blk_frozen HGz8 2
   clear HGz8 hgz8
   go_enter Try.func86,Try.ntmps86
   go_wp2
   repeat(go_quiet (fail);try go_wp2)
   go_ret
   exact⟨fe,(IsS88.now HI0.out),h1 HB.out (IsS88.ge HI0.out),(kn HK.out)⟩
  rw[if_neg c7]at H
  have c7b0:decide ((wrap64 (s0_1+1))≤(s0_0.length:Int))=false:=decide_eq_false c7
  clear c7
  simp only[Option.some.injEq,Prod.mk.injEq]at H
  obtain⟨rfl,rfl,rfl⟩:=H
  obtain⟨ASz9_0,cSz9_0,HGz9,hgz9,HSz9_0⟩:=HI0.out
  have hcz9_0:=cellS88_0 HGz9
  have hcz9_1:=cellS88_1 HGz9
  have hcz9_2:=cellS88_2 HGz9
  have hfz9_1:=blk_frozen HGz9 1
  have hfz9_2:=blk_frozen HGz9 2
  clear HGz9 hgz9
  go_enter Try.func86,Try.ntmps86
  go_wp2
  repeat(go_quiet (fail);try go_wp2)
  go_ret
  exact⟨fe,(IsS88.now HI0.out),h1 HB.out (IsS88.ge HI0.out),(kn HK.out)⟩
 rw[if_pos c2]at H
 have c2b0:decide (s0_1<(s0_0.length:Int))=true:=decide_eq_true c2
 clear c2
 obtain⟨c3,H⟩:=gi H
 have c3b0:decide (0≤s0_1)=true:=decide_eq_true c3
 clear c3
 by_cases c4: (wrap64 (s0_1+1))≤(s0_0.length:Int)
 ·rw[if_pos c4]at H
  have c4b0:decide ((wrap64 (s0_1+1))≤(s0_0.length:Int))=true:=decide_eq_true c4
  clear c4
  simp only[Option.some.injEq,Prod.mk.injEq]at H
  obtain⟨rfl,rfl,rfl⟩:=H
  obtain⟨ASz5_0,cSz5_0,HGz5,hgz5,HSz5_0⟩:=HI0.out
  have hcz5_0:=cellS88_0 HGz5
  have hcz5_1:=cellS88_1 HGz5
  have hcz5_2:=cellS88_2 HGz5
  have hfz5_1:=blk_frozen HGz5 1
  have hfz5_2:=blk_frozen HGz5 2
  clear HGz5 hgz5
  have p408:0≤(s0_1:Int):=od
  have q408:s0_1<(s0_0.length:Int):=od
  obtain⟨ad408,e408,hx408_0⟩:=Kd.at_int HSz5_0 s0_1 p408 q408
  cases e408
  replace hx408_0:=pw_cell_below HB.out hx408_0
  replace p408:=eq_true p408
  replace q408:=eq_true q408
  go_enter Try.func86,Try.ntmps86
  go_wp2
  repeat(go_quiet (fail);try go_wp2)
  go_ret
  exact⟨fe,(IsS88.now HI0.out),h1 HB.out (IsS88.ge HI0.out),(kn HK.out)⟩
 rw[if_neg c4]at H
 have c4b0:decide ((wrap64 (s0_1+1))≤(s0_0.length:Int))=false:=decide_eq_false c4
 clear c4
 simp only[Option.some.injEq,Prod.mk.injEq]at H
 obtain⟨rfl,rfl,rfl⟩:=H
 obtain⟨ASz6_0,cSz6_0,HGz6,hgz6,HSz6_0⟩:=HI0.out
 have hcz6_0:=cellS88_0 HGz6
 have hcz6_1:=cellS88_1 HGz6
 have hcz6_2:=cellS88_2 HGz6
 have hfz6_1:=blk_frozen HGz6 1
 have hfz6_2:=blk_frozen HGz6 2
 clear HGz6 hgz6
 have p408:0≤(s0_1:Int):=od
 have q408:s0_1<(s0_0.length:Int):=od
 obtain⟨ad408,e408,hx408_0⟩:=Kd.at_int HSz6_0 s0_1 p408 q408
 cases e408
 replace hx408_0:=pw_cell_below HB.out hx408_0
 replace p408:=eq_true p408
 replace q408:=eq_true q408
 go_enter Try.func86,Try.ntmps86
 go_wp2
 repeat(go_quiet (fail);try go_wp2)
 go_ret
 exact⟨fe,(IsS88.now HI0.out),h1 HB.out (IsS88.ge HI0.out),(kn HK.out)⟩
def spec_l1Cur_pick.f (s0_0:List Int) (s0_1:Int) (s0_2:Int) (a1:Int):Option (Int × Int × Int):=if a1≤1 then(some (0,s0_1,s0_2))else((spec_l1Cur_next.f s0_0 s0_1 s0_2).bind fun bt409=>(if a1>200 then((spec_l1Cur_next.f s0_0 bt409.2.1 bt409.2.2).bind fun bt412=>(if a1=0 then(none)else(some (Int.tmod (wrap64 ((wrap64 (bt409.1*256))+bt412.1)) a1,bt412.2.1,bt412.2.2))))else(if a1=0 then(none)else(some (Int.tmod bt409.1 a1,bt409.2.1,bt409.2.2)))))
set_option maxHeartbeats 8000000 in
set_option maxRecDepth 100000 in
theorem spec_l1Cur_pick.calls (g:Nat) (s0_0:List Int) (s0_1:Int) (s0_2:Int) (a1:Int) (r1:Int) (r2:Int) (r3:Int) (w0 w:World) (hI:IsS88 w0 w g s0_0 s0_1 s0_2) (hB:Below w0.heap.size w0 w) (h:spec_l1Cur_pick.f s0_0 s0_1 s0_2 a1=some (r1,r2,r3)):
  Calls Try.prog 71 #[.pointer (some ⟨g,0,none⟩),.int .i64 a1] w fun e w'=>e= .returned (.int .i64 r1)∧IsS88 w0 w' g s0_0 r2 r3∧Below w0.heap.size w0 w'∧KeepBut w w' g none:=by
 have HI0:=Aside0.mk hI
 have HK:=Aside0.mk (KeepBut.refl w g none)
 clear hI
 have HB:=Aside0.mk hB
 clear hB
 unfold spec_l1Cur_pick.f at h
 have H:=h
 clear h
 by_cases c3:a1≤1
 ·rw[if_pos c3]at H
  have c3b0:decide (a1≤1)=true:=decide_eq_true c3
  clear c3
  simp only[Option.some.injEq,Prod.mk.injEq]at H
  obtain⟨rfl,rfl,rfl⟩:=H
  go_enter Try.func71,Try.ntmps71
  go_wp2
  go_ret
  exact⟨fe,(IsS88.now HI0.out),h1 HB.out (IsS88.ge HI0.out),(kn HK.out)⟩
 rw[if_neg c3]at H
 have c3b0:decide (a1≤1)=false:=decide_eq_false c3
 clear c3
 obtain⟨⟨t409,t410,t411⟩,A4,H⟩:=bd H;(try dsimp only at H)
 by_cases c5:a1>200
 rotate_left
 ·rw[if_neg c5]at H
  have c5b0:decide (200<a1)=false:=decide_eq_false c5
  clear c5
  by_cases c10:a1=0
  ·rw[if_pos c10]at H
   exact absurd H (by simp)
  rw[if_neg c10]at H
  simp only[Option.some.injEq,Prod.mk.injEq]at H
  obtain⟨rfl,rfl,rfl⟩:=H
  go_enter Try.func71,Try.ntmps71
  go_wp2_with (first|(refine gs 9 Try.func86 #[.pointer (some ⟨g,0,none⟩)] ?_;(with_reducible refine(spec_l1Cur_next.calls g s0_0 s0_1 s0_2 t409 t410 t411 w0 _ ?side1 ?side2 A4.out).mono ?_);(case side1=>exact IsS88.now HI0.out);(case side2=>exact h1 HB.out (IsS88.ge HI0.out));rintro e w11 ⟨rfl,hi,hb,hk⟩;refine⟨_,rfl,?_⟩;replace HK:=ak (KeepBut.trans (kn HK.out) hk (.inl rfl));replace HB:=ak hb;replace HI0:=ak hi;(try clear hb);(try clear hk);(try clear hi)))
  go_ret
  exact⟨fe,(IsS88.now HI0.out),h1 HB.out (IsS88.ge HI0.out),(kn HK.out)⟩
 rw[if_pos c5]at H
 have c5b0:decide (200<a1)=true:=decide_eq_true c5
 clear c5
 obtain⟨⟨t412,t413,t414⟩,A6,H⟩:=bd H;(try dsimp only at H)
 by_cases c7:a1=0
 ·rw[if_pos c7]at H
  exact absurd H (by simp)
 rw[if_neg c7]at H
 simp only[Option.some.injEq,Prod.mk.injEq]at H
 obtain⟨rfl,rfl,rfl⟩:=H
 go_enter Try.func71,Try.ntmps71
 go_wp2_with (first|(refine gs 9 Try.func86 #[.pointer (some ⟨g,0,none⟩)] ?_;(with_reducible refine(spec_l1Cur_next.calls g s0_0 s0_1 s0_2 t409 t410 t411 w0 _ ?side1 ?side2 A4.out).mono ?_);(case side1=>exact IsS88.now HI0.out);(case side2=>exact h1 HB.out (IsS88.ge HI0.out));rintro e w8 ⟨rfl,hi,hb,hk⟩;refine⟨_,rfl,?_⟩;replace HK:=ak (KeepBut.trans (kn HK.out) hk (.inl rfl));replace HB:=ak hb;replace HI0:=ak hi;(try clear hb);(try clear hk);(try clear hi))|(refine gs 15 Try.func86 #[.pointer (some ⟨g,0,none⟩)] ?_;(with_reducible refine(spec_l1Cur_next.calls g s0_0 t410 t411 t412 t413 t414 w0 _ ?side1 ?side2 A6.out).mono ?_);(case side1=>exact IsS88.now HI0.out);(case side2=>exact h1 HB.out (IsS88.ge HI0.out));rintro e w9 ⟨rfl,hi,hb,hk⟩;refine⟨_,rfl,?_⟩;replace HK:=ak (KeepBut.trans (kn HK.out) hk (.inl rfl));replace HB:=ak hb;replace HI0:=ak hi;(try clear hb);(try clear hk);(try clear hi)))
 go_ret
 exact⟨fe,(IsS88.now HI0.out),h1 HB.out (IsS88.ge HI0.out),(kn HK.out)⟩
def spec_l1Cur_among.f (s0_0:List Int) (s0_1:Int) (s0_2:Int) (l1:List Int):Option (Int × Int × Int):=(spec_l1Cur_pick.f s0_0 s0_1 s0_2 (l1.length:Int)).bind fun bt415=>(if 0≤bt415.1 then(if bt415.1<(l1.length:Int)then(some (rd l1 bt415.1,bt415.2.1,bt415.2.2))else(none))else(none))
set_option maxHeartbeats 8000000 in
set_option maxRecDepth 100000 in
theorem spec_l1Cur_among.calls (g:Nat) (s0_0:List Int) (s0_1:Int) (s0_2:Int) (A1:Option Addr) (c1:Nat) (l1:List Int) (r1:Int) (r2:Int) (r3:Int) (w0 w:World) (hI:IsS88 w0 w g s0_0 s0_1 s0_2) (hB:Below w0.heap.size w0 w) (hr1:Kd.C (Kd.int .i64) w A1 l1.length l1) (hc1:l1.length≤c1) (hf1:∀ ad,A1=some ad→0<l1.length→ad.block≠g) (h:spec_l1Cur_among.f s0_0 s0_1 s0_2 l1=some (r1,r2,r3)):
  Calls Try.prog 70 #[.pointer (some ⟨g,0,none⟩),.slice A1 l1.length c1] w fun e w'=>e= .returned (.int .i64 r1)∧IsS88 w0 w' g s0_0 r2 r3∧Below w0.heap.size w0 w'∧KeepBut w w' g none:=by
 have HR1:=Aside0.mk hr1
 clear hr1 hc1
 have HI0:=Aside0.mk hI
 have HK:=Aside0.mk (KeepBut.refl w g none)
 clear hI
 have HB:=Aside0.mk hB
 clear hB
 unfold spec_l1Cur_among.f at h
 have H:=h
 clear h
 obtain⟨⟨t415,t416,t417⟩,A3,H⟩:=bd H;(try dsimp only at H)
 obtain⟨c4,H⟩:=gi H
 have c4b0:decide (0≤t415)=true:=decide_eq_true c4
 clear c4
 obtain⟨c5,H⟩:=gi H
 have c5b0:decide (t415<(l1.length:Int))=true:=decide_eq_true c5
 clear c5
 simp only[Option.some.injEq,Prod.mk.injEq]at H
 obtain⟨rfl,rfl,rfl⟩:=H
 go_enter Try.func70,Try.ntmps70
 go_wp2_with (first|(refine gs 9 Try.func71 #[.pointer (some ⟨g,0,none⟩),.int .i64 (l1.length:Int)] ?_;(with_reducible refine(spec_l1Cur_pick.calls g s0_0 s0_1 s0_2 (l1.length:Int) t415 t416 t417 w0 _ ?side1 ?side2 A3.out).mono ?_);(case side1=>exact IsS88.now HI0.out);(case side2=>exact h1 HB.out (IsS88.ge HI0.out));rintro e w6 ⟨rfl,hi,hb,hk⟩;refine⟨_,rfl,?_⟩;replace HK:=ak (KeepBut.trans (kn HK.out) hk (.inl rfl));replace HB:=ak hb;replace HI0:=ak hi;(try clear hb);(try clear hk);(try clear hi);have p418:0≤(t415:Int):=od;have q418:t415<(l1.length:Int):=od;obtain⟨ad418,e418,hx418_0⟩:=Kd.at_int HR1.out t415 p418 q418;cases e418;replace hx418_0:=keep_cell HK.out hx418_0 (by first|(rw[add_block];exact hf1 _ rfl (by omega))|exact hf1 _ rfl (by omega)|exact hf1 ad418 rfl (by omega));replace p418:=eq_true p418;replace q418:=eq_true q418))
 go_ret
 exact⟨fe,(IsS88.now HI0.out),h1 HB.out (IsS88.ge HI0.out),(kn HK.out)⟩
def spec_l1Cur_one.f (s0_0:List Int) (s0_1:Int) (s0_2:Int) (a1:Int):Option (Bool × Int × Int):=(spec_l1Cur_pick.f s0_0 s0_1 s0_2 a1).bind fun bt419=>(some ((bt419.1==0),bt419.2.1,bt419.2.2))
set_option maxHeartbeats 8000000 in
set_option maxRecDepth 100000 in
theorem spec_l1Cur_one.calls (g:Nat) (s0_0:List Int) (s0_1:Int) (s0_2:Int) (a1:Int) (r1:Bool) (r2:Int) (r3:Int) (w0 w:World) (hI:IsS88 w0 w g s0_0 s0_1 s0_2) (hB:Below w0.heap.size w0 w) (h:spec_l1Cur_one.f s0_0 s0_1 s0_2 a1=some (r1,r2,r3)):
  Calls Try.prog 72 #[.pointer (some ⟨g,0,none⟩),.int .i64 a1] w fun e w'=>e= .returned (.bool r1)∧IsS88 w0 w' g s0_0 r2 r3∧Below w0.heap.size w0 w'∧KeepBut w w' g none:=by
 have HI0:=Aside0.mk hI
 have HK:=Aside0.mk (KeepBut.refl w g none)
 clear hI
 have HB:=Aside0.mk hB
 clear hB
 unfold spec_l1Cur_one.f at h
 have H:=h
 clear h
 obtain⟨⟨t419,t420,t421⟩,A3,H⟩:=bd H;(try dsimp only at H)
 simp only[Option.some.injEq,Prod.mk.injEq]at H
 obtain⟨rfl,rfl,rfl⟩:=H
 go_enter Try.func72,Try.ntmps72
 go_wp2_with (first|(refine gs 7 Try.func71 #[.pointer (some ⟨g,0,none⟩),.int .i64 a1] ?_;(with_reducible refine(spec_l1Cur_pick.calls g s0_0 s0_1 s0_2 a1 t419 t420 t421 w0 _ ?side1 ?side2 A3.out).mono ?_);(case side1=>exact IsS88.now HI0.out);(case side2=>exact h1 HB.out (IsS88.ge HI0.out));rintro e w4 ⟨rfl,hi,hb,hk⟩;refine⟨_,rfl,?_⟩;replace HK:=ak (KeepBut.trans (kn HK.out) hk (.inl rfl));replace HB:=ak hb;replace HI0:=ak hi;(try clear hb);(try clear hk);(try clear hi)))
 go_ret
 exact⟨fe,(IsS88.now HI0.out),h1 HB.out (IsS88.ge HI0.out),(kn HK.out)⟩
def spec_l1Cur_size.f (s0_0:List Int) (s0_1:Int) (s0_2:Int):Option (Int × Int × Int):=(spec_l1Cur_one.f s0_0 s0_1 s0_2 40).bind fun bt422=>(if bt422.1=true then((spec_l1Cur_among.f s0_0 bt422.2.1 bt422.2.2 (([1,2,24,25,0,(-1),4611686018427387904]:List Int))).bind fun bt428=>(some (bt428.1,bt428.2.1,bt428.2.2)))else((spec_l1Cur_among.f s0_0 bt422.2.1 bt422.2.2 (([5,6,4,8,3,10,7,13,24,2]:List Int))).bind fun bt434=>(some (bt434.1,bt434.2.1,bt434.2.2))))
set_option maxHeartbeats 8000000 in
set_option maxRecDepth 100000 in
theorem spec_l1Cur_size.calls (g:Nat) (s0_0:List Int) (s0_1:Int) (s0_2:Int) (r1:Int) (r2:Int) (r3:Int) (w0 w:World) (hI:IsS88 w0 w g s0_0 s0_1 s0_2) (hB:Below w0.heap.size w0 w) (h:spec_l1Cur_size.f s0_0 s0_1 s0_2=some (r1,r2,r3)):
  Calls Try.prog 94 #[.pointer (some ⟨g,0,none⟩)] w fun e w'=>e= .returned (.int .i64 r1)∧IsS88 w0 w' g s0_0 r2 r3∧Below w0.heap.size w0 w'∧KeepBut w w' g none:=by
 have HI0:=Aside0.mk hI
 have HK:=Aside0.mk (KeepBut.refl w g none)
 clear hI
 have HB:=Aside0.mk hB
 clear hB
 unfold spec_l1Cur_size.f at h
 have H:=h
 clear h
 obtain⟨⟨t422,t423,t424⟩,A2,H⟩:=bd H;(try dsimp only at H)
 by_cases c3:t422=true
 ·subst c3
  rw[if_pos rfl]at H
  generalize hy425: ([1,2,24,25,0,(-1),4611686018427387904]:List Int)=y425 at H
  have Ny425:=ak hy425.symm
  clear hy425
  obtain⟨⟨t428,t429,t430⟩,A4,H⟩:=bd H;(try dsimp only at H)
  simp only[Option.some.injEq,Prod.mk.injEq]at H
  obtain⟨rfl,rfl,rfl⟩:=H
  go_enter Try.func94,Try.ntmps94
  go_wp2_with (first|(refine gs 4 Try.func72 #[.pointer (some ⟨g,0,none⟩),.int .i64 40] ?_;(with_reducible refine(spec_l1Cur_one.calls g s0_0 s0_1 s0_2 40 true t423 t424 w0 _ ?side1 ?side2 A2.out).mono ?_);(case side1=>exact IsS88.now HI0.out);(case side2=>exact h1 HB.out (IsS88.ge HI0.out));rintro e w5 ⟨rfl,hi,hb,hk⟩;refine⟨_,rfl,?_⟩;replace HK:=ak (KeepBut.trans (kn HK.out) hk (.inl rfl));replace HB:=ak hb;replace HI0:=ak hi;(try clear hb);(try clear hk);(try clear hi))|((with_reducible refine gate_dst (N:=6) rfl ?_);refine R_lit (Kd.int .i64) _ 3 ?hg (N:=6) ?hd (xs:=([1,2,24,25,0,(-1),4611686018427387904]:List Int)) (inner:=[.int .i64 1,.int .i64 2,.int .i64 24,.int .i64 25,.int .i64 0,.int .i64 (-1),.int .i64 4611686018427387904]) (ok:=fun _=>True) (okp:=fun _=>True) ?hr ?hp (fun _ hk=>hk) trivial (Below.refl _ _) (Nat.le_refl _) (by simp) ?_;(case hd=>rfl);(case hg=>rfl);(case hr=>first|(go_simp;done)|(go_simp;rfl));(case hp=>exact(Reps.one (show Kd.M (Kd.int .i64) _ _ _ 1 [.int .i64 1]from rfl) (Reps.one (show Kd.M (Kd.int .i64) _ _ _ 2 [.int .i64 2]from rfl) (Reps.one (show Kd.M (Kd.int .i64) _ _ _ 24 [.int .i64 24]from rfl) (Reps.one (show Kd.M (Kd.int .i64) _ _ _ 25 [.int .i64 25]from rfl) (Reps.one (show Kd.M (Kd.int .i64) _ _ _ 0 [.int .i64 0]from rfl) (Reps.one (show Kd.M (Kd.int .i64) _ _ _ (-1) [.int .i64 (-1)]from rfl) (Reps.one (show Kd.M (Kd.int .i64) _ _ _ 4611686018427387904 [.int .i64 4611686018427387904]from rfl) (Reps.none _ _)))))))));intro v426 w6 ho7 hb hg_ hnew_;clear hg_ hnew_;(first|rw[←Ny425.out]at ho7|(simp only[Int.reduceToNat]at ho7;rw[←Ny425.out]at ho7));have HO427:=ak (R_lower ho7 (keep_size (w:=w) (g:=g) (row:=none) (kn HK.out)));replace HK:=ak (KeepBut.trans (kn HK.out) (KeepBut.of_below hb g none) (.inl rfl));replace HB:=ak (below_step (h1 HB.out (IsS88.ge HI0.out)) hb);replace HI0:=ak (IsS88.below (g:=g) (IsS88.now HI0.out) hb);clear hb ho7;obtain⟨Ao8,co8,eo8⟩:=R_slice HO427.out;subst eo8)|(refine gs 7 Try.func70 #[.pointer (some ⟨g,0,none⟩),.slice Ao8 y425.length co8] ?_;(with_reducible refine(spec_l1Cur_among.calls g s0_0 t423 t424 _ _ y425 t428 t429 t430 w0 _ ?side1 ?side2 ?side3 ?side4 ?side5 A4.out).mono ?_);(case side1=>exact IsS88.now HI0.out);(case side2=>exact h1 HB.out (IsS88.ge HI0.out));(case side3=>exact cm (R_reads' HO427.out).2.2);(case side4=>exact(R_reads' HO427.out).2.1);(case side5=>exact far_slice (IsS88.own_ne HI0.out HO427.out (by decide)));rintro e w9 ⟨rfl,hi,hb,hk⟩;refine⟨_,rfl,?_⟩;replace HO427:=ak (R_mono (R_keep (IsS88.apart (show IsS88 w0 _ g s0_0 t423 t424 from(IsS88.now HI0.out)) (rm HO427.out) (by decide)) hk (fun _ h=>h.2)) (fun _ h=>h.1));replace HK:=ak (KeepBut.trans (kn HK.out) hk (.inl rfl));replace HB:=ak hb;replace HI0:=ak hi;(try clear hb);(try clear hk);(try clear hi)))
  go_ret
  exact⟨fe,(IsS88.now HI0.out),h1 HB.out (IsS88.ge HI0.out),(kn HK.out)⟩
 replace c3:=Bool.eq_false_iff.mpr c3
 subst c3
 rw[if_neg (show ¬(false=true)by decide)]at H
 generalize hy431: ([5,6,4,8,3,10,7,13,24,2]:List Int)=y431 at H
 have Ny431:=ak hy431.symm
 clear hy431
 obtain⟨⟨t434,t435,t436⟩,A10,H⟩:=bd H;(try dsimp only at H)
 simp only[Option.some.injEq,Prod.mk.injEq]at H
 obtain⟨rfl,rfl,rfl⟩:=H
 go_enter Try.func94,Try.ntmps94
 go_wp2_with (first|(refine gs 4 Try.func72 #[.pointer (some ⟨g,0,none⟩),.int .i64 40] ?_;(with_reducible refine(spec_l1Cur_one.calls g s0_0 s0_1 s0_2 40 false t423 t424 w0 _ ?side1 ?side2 A2.out).mono ?_);(case side1=>exact IsS88.now HI0.out);(case side2=>exact h1 HB.out (IsS88.ge HI0.out));rintro e w11 ⟨rfl,hi,hb,hk⟩;refine⟨_,rfl,?_⟩;replace HK:=ak (KeepBut.trans (kn HK.out) hk (.inl rfl));replace HB:=ak hb;replace HI0:=ak hi;(try clear hb);(try clear hk);(try clear hi))|((with_reducible refine gate_dst (N:=9) rfl ?_);refine R_lit (Kd.int .i64) _ 3 ?hg (N:=9) ?hd (xs:=([5,6,4,8,3,10,7,13,24,2]:List Int)) (inner:=[.int .i64 5,.int .i64 6,.int .i64 4,.int .i64 8,.int .i64 3,.int .i64 10,.int .i64 7,.int .i64 13,.int .i64 24,.int .i64 2]) (ok:=fun _=>True) (okp:=fun _=>True) ?hr ?hp (fun _ hk=>hk) trivial (Below.refl _ _) (Nat.le_refl _) (by simp) ?_;(case hd=>rfl);(case hg=>rfl);(case hr=>first|(go_simp;done)|(go_simp;rfl));(case hp=>exact(Reps.one (show Kd.M (Kd.int .i64) _ _ _ 5 [.int .i64 5]from rfl) (Reps.one (show Kd.M (Kd.int .i64) _ _ _ 6 [.int .i64 6]from rfl) (Reps.one (show Kd.M (Kd.int .i64) _ _ _ 4 [.int .i64 4]from rfl) (Reps.one (show Kd.M (Kd.int .i64) _ _ _ 8 [.int .i64 8]from rfl) (Reps.one (show Kd.M (Kd.int .i64) _ _ _ 3 [.int .i64 3]from rfl) (Reps.one (show Kd.M (Kd.int .i64) _ _ _ 10 [.int .i64 10]from rfl) (Reps.one (show Kd.M (Kd.int .i64) _ _ _ 7 [.int .i64 7]from rfl) (Reps.one (show Kd.M (Kd.int .i64) _ _ _ 13 [.int .i64 13]from rfl) (Reps.one (show Kd.M (Kd.int .i64) _ _ _ 24 [.int .i64 24]from rfl) (Reps.one (show Kd.M (Kd.int .i64) _ _ _ 2 [.int .i64 2]from rfl) (Reps.none _ _))))))))))));intro v432 w12 ho13 hb hg_ hnew_;clear hg_ hnew_;(first|rw[←Ny431.out]at ho13|(simp only[Int.reduceToNat]at ho13;rw[←Ny431.out]at ho13));have HO433:=ak (R_lower ho13 (keep_size (w:=w) (g:=g) (row:=none) (kn HK.out)));replace HK:=ak (KeepBut.trans (kn HK.out) (KeepBut.of_below hb g none) (.inl rfl));replace HB:=ak (below_step (h1 HB.out (IsS88.ge HI0.out)) hb);replace HI0:=ak (IsS88.below (g:=g) (IsS88.now HI0.out) hb);clear hb ho13;obtain⟨Ao14,co14,eo14⟩:=R_slice HO433.out;subst eo14)|(refine gs 10 Try.func70 #[.pointer (some ⟨g,0,none⟩),.slice Ao14 y431.length co14] ?_;(with_reducible refine(spec_l1Cur_among.calls g s0_0 t423 t424 _ _ y431 t434 t435 t436 w0 _ ?side1 ?side2 ?side3 ?side4 ?side5 A10.out).mono ?_);(case side1=>exact IsS88.now HI0.out);(case side2=>exact h1 HB.out (IsS88.ge HI0.out));(case side3=>exact cm (R_reads' HO433.out).2.2);(case side4=>exact(R_reads' HO433.out).2.1);(case side5=>exact far_slice (IsS88.own_ne HI0.out HO433.out (by decide)));rintro e w15 ⟨rfl,hi,hb,hk⟩;refine⟨_,rfl,?_⟩;replace HO433:=ak (R_mono (R_keep (IsS88.apart (show IsS88 w0 _ g s0_0 t423 t424 from(IsS88.now HI0.out)) (rm HO433.out) (by decide)) hk (fun _ h=>h.2)) (fun _ h=>h.1));replace HK:=ak (KeepBut.trans (kn HK.out) hk (.inl rfl));replace HB:=ak hb;replace HI0:=ak hi;(try clear hb);(try clear hk);(try clear hi)))
 go_ret
 exact⟨fe,(IsS88.now HI0.out),h1 HB.out (IsS88.ge HI0.out),(kn HK.out)⟩
def spec_l1Cur_line.f (s0_0:List Int) (s0_1:Int) (s0_2:Int):Option (Int × Bool × Int × Int):=(spec_l1Cur_size.f s0_0 s0_1 s0_2).bind fun bt438=>(some (bt438.1,false,bt438.2.1,bt438.2.2))
set_option maxHeartbeats 8000000 in
set_option maxRecDepth 100000 in
theorem spec_l1Cur_line.calls (g:Nat) (s0_0:List Int) (s0_1:Int) (s0_2:Int) (r1:Int) (r2:Bool) (r3:Int) (r4:Int) (w0 w:World) (hI:IsS88 w0 w g s0_0 s0_1 s0_2) (hB:Below w0.heap.size w0 w) (h:spec_l1Cur_line.f s0_0 s0_1 s0_2=some (r1,r2,r3,r4)):
  Calls Try.prog 91 #[.pointer (some ⟨g,0,none⟩)] w fun e w'=>e= .returned (.agg #[.int .i64 r1,.bool r2])∧IsS88 w0 w' g s0_0 r3 r4∧Below w0.heap.size w0 w'∧KeepBut w w' g none:=by
 have HI0:=Aside0.mk hI
 have HK:=Aside0.mk (KeepBut.refl w g none)
 clear hI
 have HW0:=Aside0.mk hB.size
 have HB:=Aside0.mk hB
 clear hB
 unfold spec_l1Cur_line.f at h
 have H:=h
 clear h
 obtain⟨⟨t438,t439,t440⟩,A2,H⟩:=bd H;(try dsimp only at H)
 simp only[Option.some.injEq,Prod.mk.injEq]at H
 obtain⟨rfl,rfl,rfl,rfl⟩:=H
 go_enter Try.func91,Try.ntmps91
 go_wp2_with (first|(refine bx 2 #[.int .i64 0,.bool false] 27 ?_;intro gb437 hg w3 hbox hb;replace HB:=ak (below_step (h1 HB.out (IsS88.ge HI0.out)) hb);have BK437:=ak hbox;have GW437:=ak ((by rw[hg];exact(keep_size (w:=w) (g:=g) (row:=none) (kn HK.out)):w.heap.size≤gb437));have GE437:=ak ((Nat.le_trans HW0.out (by rw[hg];exact(keep_size (w:=w) (g:=g) (row:=none) (kn HK.out)):w.heap.size≤gb437):w0.heap.size≤gb437));replace HK:=ak (KeepBut.trans (kn HK.out) (KeepBut.of_below hb g none) (.inl rfl));have NB0_437:=ak ((by rw[hg];exact Nat.ne_of_lt (IsS88.lt (show IsS88 w0 _ g s0_0 s0_1 s0_2 from(IsS88.now HI0.out))):g≠gb437));have NB437_0:=ak ((by rw[hg];exact Nat.ne_of_gt (IsS88.lt (show IsS88 w0 _ g s0_0 s0_1 s0_2 from(IsS88.now HI0.out))):gb437≠g));replace HI0:=ak (IsS88.below (g:=g) (IsS88.now HI0.out) hb);clear hb hbox hg)|(refine gs 4 Try.func94 #[.pointer (some ⟨g,0,none⟩)] ?_;(with_reducible refine(spec_l1Cur_size.calls g s0_0 s0_1 s0_2 t438 t439 t440 w0 _ ?side1 ?side2 A2.out).mono ?_);(case side1=>exact IsS88.now HI0.out);(case side2=>exact h2 HB.out (IsS88.ge HI0.out) GE437.out);rintro e w4 ⟨rfl,hi,hb,hk⟩;refine⟨_,rfl,?_⟩;replace BK437:=kk BK437 hk NB437_0;replace HK:=ak (KeepBut.trans (kn HK.out) hk (.inl rfl));replace HB:=ak hb;replace HI0:=ak hi;(try clear hb);(try clear hk);(try clear hi);have hcz6_0:=bc BK437 0 rfl;have hcz6_1:=bc BK437 1 rfl;have hfz6_0:=bf BK437 0;have hfz6_1:=bf BK437 1))
 refine bodyPost_ret (results_cell_row rfl _ _ gb437 27 #[.int .i64 t438,.bool false] (0,0) _ rfl (by(with_reducible repeat(first|apply blk_drewN|apply blk_drew|apply blk_alloc));refine blk_put (cs:=#[.int .i64 t438,.bool false]) ?_ 1 _ rfl;(with_reducible repeat(first|apply blk_drewN|apply blk_drew|apply blk_alloc));refine blk_put (cs:=#[.int .i64 0,.bool false]) ?_ 0 _ rfl;exact bm BK437.out) Try.underlying27 rfl (by kernel_rfl)) rfl ?_
 exact⟨fe,(IsS88.now HI0.out),h2 HB.out (IsS88.ge HI0.out) GE437.out,(kn HK.out)⟩
def spec_l1Cur_ring.f (s0_0:List Int) (s0_1:Int) (s0_2:Int):Option (Int × Bool × Int × Int):=(spec_l1Cur_size.f s0_0 s0_1 s0_2).bind fun bt442=>(if bt442.1=2 then((spec_l1Cur_one.f s0_0 bt442.2.1 bt442.2.2 4).bind fun bt446=>(if bt446.1=true then(some (bt442.1,true,bt446.2.1,bt446.2.2))else(some (3,true,bt446.2.1,bt446.2.2))))else(some (bt442.1,true,bt442.2.1,bt442.2.2)))
set_option maxHeartbeats 8000000 in
set_option maxRecDepth 100000 in
theorem spec_l1Cur_ring.calls (g:Nat) (s0_0:List Int) (s0_1:Int) (s0_2:Int) (r1:Int) (r2:Bool) (r3:Int) (r4:Int) (w0 w:World) (hI:IsS88 w0 w g s0_0 s0_1 s0_2) (hB:Below w0.heap.size w0 w) (h:spec_l1Cur_ring.f s0_0 s0_1 s0_2=some (r1,r2,r3,r4)):
  Calls Try.prog 92 #[.pointer (some ⟨g,0,none⟩)] w fun e w'=>e= .returned (.agg #[.int .i64 r1,.bool r2])∧IsS88 w0 w' g s0_0 r3 r4∧Below w0.heap.size w0 w'∧KeepBut w w' g none:=by
 have HI0:=Aside0.mk hI
 have HK:=Aside0.mk (KeepBut.refl w g none)
 clear hI
 have HW0:=Aside0.mk hB.size
 have HB:=Aside0.mk hB
 clear hB
 unfold spec_l1Cur_ring.f at h
 have H:=h
 clear h
 obtain⟨⟨t442,t443,t444⟩,A2,H⟩:=bd H;(try dsimp only at H)
 by_cases c3:t442=2
 rotate_left
 ·rw[if_neg c3]at H
  have c3b0: (t442==2)=false:=beq_eq_false_iff_ne.mpr c3
  simp only[Option.some.injEq,Prod.mk.injEq]at H
  obtain⟨rfl,rfl,rfl,rfl⟩:=H
  go_enter Try.func92,Try.ntmps92
  go_wp2_with (first|(refine bx 2 #[.int .i64 0,.bool false] 27 ?_;intro gb441 hg w26 hbox hb;replace HB:=ak (below_step (h1 HB.out (IsS88.ge HI0.out)) hb);have BK441:=ak hbox;have GW441:=ak ((by rw[hg];exact(keep_size (w:=w) (g:=g) (row:=none) (kn HK.out)):w.heap.size≤gb441));have GE441:=ak ((Nat.le_trans HW0.out (by rw[hg];exact(keep_size (w:=w) (g:=g) (row:=none) (kn HK.out)):w.heap.size≤gb441):w0.heap.size≤gb441));replace HK:=ak (KeepBut.trans (kn HK.out) (KeepBut.of_below hb g none) (.inl rfl));have NB0_441:=ak ((by rw[hg];exact Nat.ne_of_lt (IsS88.lt (show IsS88 w0 _ g s0_0 s0_1 s0_2 from(IsS88.now HI0.out))):g≠gb441));have NB441_0:=ak ((by rw[hg];exact Nat.ne_of_gt (IsS88.lt (show IsS88 w0 _ g s0_0 s0_1 s0_2 from(IsS88.now HI0.out))):gb441≠g));replace HI0:=ak (IsS88.below (g:=g) (IsS88.now HI0.out) hb);clear hb hbox hg)|(refine gs 5 Try.func94 #[.pointer (some ⟨g,0,none⟩)] ?_;(with_reducible refine(spec_l1Cur_size.calls g s0_0 s0_1 s0_2 t442 t443 t444 w0 _ ?side1 ?side2 A2.out).mono ?_);(case side1=>exact IsS88.now HI0.out);(case side2=>exact h2 HB.out (IsS88.ge HI0.out) GE441.out);rintro e w27 ⟨rfl,hi,hb,hk⟩;refine⟨_,rfl,?_⟩;replace BK441:=kk BK441 hk NB441_0;replace HK:=ak (KeepBut.trans (kn HK.out) hk (.inl rfl));replace HB:=ak hb;replace HI0:=ak hi;(try clear hb);(try clear hk);(try clear hi))|(refine bx 3 #[.int .i64 0,.bool false] 27 ?_;intro gb445 hg w28 hbox hb;replace HB:=ak (below_step (h2 HB.out (IsS88.ge HI0.out) GE441.out) hb);have BK445:=ak hbox;have GW445:=ak ((by rw[hg];exact(keep_size (w:=w) (g:=g) (row:=none) (kn HK.out)):w.heap.size≤gb445));have GE445:=ak ((Nat.le_trans HW0.out (by rw[hg];exact(keep_size (w:=w) (g:=g) (row:=none) (kn HK.out)):w.heap.size≤gb445):w0.heap.size≤gb445));replace HK:=ak (KeepBut.trans (kn HK.out) (KeepBut.of_below hb g none) (.inl rfl));have NB441_445:=nl BK441 hg;have NB445_441:=ng BK441 hg;replace BK441:=kb BK441 hb;have NB0_445:=ak ((by rw[hg];exact Nat.ne_of_lt (IsS88.lt (show IsS88 w0 _ g s0_0 t443 t444 from(IsS88.now HI0.out))):g≠gb445));have NB445_0:=ak ((by rw[hg];exact Nat.ne_of_gt (IsS88.lt (show IsS88 w0 _ g s0_0 t443 t444 from(IsS88.now HI0.out))):gb445≠g));replace HI0:=ak (IsS88.below (g:=g) (IsS88.now HI0.out) hb);clear hb hbox hg;have hnc29:=NB441_445.out;have hnb30:=NB445_0.out;have hnc30:=NB0_445.out;have hcz31_0:=bc BK445 0 rfl;have hcz31_1:=bc BK445 1 rfl;have hfz31_0:=bf BK445 0;have hfz31_1:=bf BK445 1;have hnb32:=NB441_0.out;have hnc32:=NB0_441.out;have hcz33_0:=bc BK441 0 rfl;have hcz33_1:=bc BK441 1 rfl;have hfz33_0:=bf BK441 0;have hfz33_1:=bf BK441 1))
  refine bodyPost_ret (results_cell_row rfl _ _ gb441 27 #[.int .i64 t442,.bool true] (0,0) _ rfl (by(with_reducible repeat(first|apply blk_drewN|apply blk_drew|apply blk_alloc));refine blk_put (cs:=#[.int .i64 t442,.bool false]) ?_ 1 _ rfl;(with_reducible repeat(first|apply blk_drewN|apply blk_drew|apply blk_alloc));refine blk_put (cs:=#[.int .i64 0,.bool false]) ?_ 0 _ rfl;(with_reducible repeat(first|apply blk_drewN|apply blk_drew|apply blk_alloc));refine blk_far ?_ NB441_445.out _;(with_reducible repeat(first|apply blk_drewN|apply blk_drew|apply blk_alloc));refine blk_far ?_ NB441_445.out _;exact bm BK441.out) Try.underlying27 rfl (by kernel_rfl)) rfl ?_
  exact⟨fe,(IsS88.now HI0.out),h3 HB.out (IsS88.ge HI0.out) GE441.out GE445.out,(kn HK.out)⟩
 rw[if_pos c3]at H
 have c3b0: (t442==2)=true:=beq_iff_eq.mpr c3
 clear c3
 obtain⟨⟨t446,t447,t448⟩,A4,H⟩:=bd H;(try dsimp only at H)
 by_cases c5:t446=true
 ·subst c5
  rw[if_pos rfl]at H
  simp only[Option.some.injEq,Prod.mk.injEq]at H
  obtain⟨rfl,rfl,rfl,rfl⟩:=H
  go_enter Try.func92,Try.ntmps92
  go_wp2_with (first|(refine bx 2 #[.int .i64 0,.bool false] 27 ?_;intro gb441 hg w6 hbox hb;replace HB:=ak (below_step (h1 HB.out (IsS88.ge HI0.out)) hb);have BK441:=ak hbox;have GW441:=ak ((by rw[hg];exact(keep_size (w:=w) (g:=g) (row:=none) (kn HK.out)):w.heap.size≤gb441));have GE441:=ak ((Nat.le_trans HW0.out (by rw[hg];exact(keep_size (w:=w) (g:=g) (row:=none) (kn HK.out)):w.heap.size≤gb441):w0.heap.size≤gb441));replace HK:=ak (KeepBut.trans (kn HK.out) (KeepBut.of_below hb g none) (.inl rfl));have NB0_441:=ak ((by rw[hg];exact Nat.ne_of_lt (IsS88.lt (show IsS88 w0 _ g s0_0 s0_1 s0_2 from(IsS88.now HI0.out))):g≠gb441));have NB441_0:=ak ((by rw[hg];exact Nat.ne_of_gt (IsS88.lt (show IsS88 w0 _ g s0_0 s0_1 s0_2 from(IsS88.now HI0.out))):gb441≠g));replace HI0:=ak (IsS88.below (g:=g) (IsS88.now HI0.out) hb);clear hb hbox hg)|(refine gs 5 Try.func94 #[.pointer (some ⟨g,0,none⟩)] ?_;(with_reducible refine(spec_l1Cur_size.calls g s0_0 s0_1 s0_2 t442 t443 t444 w0 _ ?side1 ?side2 A2.out).mono ?_);(case side1=>exact IsS88.now HI0.out);(case side2=>exact h2 HB.out (IsS88.ge HI0.out) GE441.out);rintro e w7 ⟨rfl,hi,hb,hk⟩;refine⟨_,rfl,?_⟩;replace BK441:=kk BK441 hk NB441_0;replace HK:=ak (KeepBut.trans (kn HK.out) hk (.inl rfl));replace HB:=ak hb;replace HI0:=ak hi;(try clear hb);(try clear hk);(try clear hi))|(refine bx 3 #[.int .i64 0,.bool false] 27 ?_;intro gb445 hg w8 hbox hb;replace HB:=ak (below_step (h2 HB.out (IsS88.ge HI0.out) GE441.out) hb);have BK445:=ak hbox;have GW445:=ak ((by rw[hg];exact(keep_size (w:=w) (g:=g) (row:=none) (kn HK.out)):w.heap.size≤gb445));have GE445:=ak ((Nat.le_trans HW0.out (by rw[hg];exact(keep_size (w:=w) (g:=g) (row:=none) (kn HK.out)):w.heap.size≤gb445):w0.heap.size≤gb445));replace HK:=ak (KeepBut.trans (kn HK.out) (KeepBut.of_below hb g none) (.inl rfl));have NB441_445:=nl BK441 hg;have NB445_441:=ng BK441 hg;replace BK441:=kb BK441 hb;have NB0_445:=ak ((by rw[hg];exact Nat.ne_of_lt (IsS88.lt (show IsS88 w0 _ g s0_0 t443 t444 from(IsS88.now HI0.out))):g≠gb445));have NB445_0:=ak ((by rw[hg];exact Nat.ne_of_gt (IsS88.lt (show IsS88 w0 _ g s0_0 t443 t444 from(IsS88.now HI0.out))):gb445≠g));replace HI0:=ak (IsS88.below (g:=g) (IsS88.now HI0.out) hb);clear hb hbox hg;have hcz11_0:=bc BK445 0 rfl;have hcz11_1:=bc BK445 1 rfl;have hfz11_0:=bf BK445 0;have hfz11_1:=bf BK445 1)|(go_at_call 72;(with_reducible refine(spec_l1Cur_one.calls g s0_0 t443 t444 4 true t447 t448 w0 _ ?side1 ?side2 A4.out).mono ?_);(case side1=>exact IsS88.now HI0.out);(case side2=>exact h3 HB.out (IsS88.ge HI0.out) GE441.out GE445.out);rintro e w12 ⟨rfl,hi,hb,hk⟩;replace BK441:=ak (KeepBut.blk hk (g':=gb441) (o:=.cells #[.int .i64 0,.bool false] 27 (0,0)) (by(with_reducible repeat(first|apply blk_drewN|apply blk_drew|apply blk_alloc));refine blk_far ?_ NB441_445.out _;(with_reducible repeat(first|apply blk_drewN|apply blk_drew|apply blk_alloc));refine blk_far ?_ NB441_445.out _;exact bm BK441.out) NB441_0.out (by simp));replace BK445:=ak (KeepBut.blk hk (g':=gb445) (o:=.cells #[.int .i64 t442,.bool true] 27 (0,0)) (by(with_reducible repeat(first|apply blk_drewN|apply blk_drew|apply blk_alloc));refine blk_put (cs:=#[.int .i64 t442,.bool false]) ?_ 1 _ rfl;(with_reducible repeat(first|apply blk_drewN|apply blk_drew|apply blk_alloc));refine blk_put (cs:=#[.int .i64 0,.bool false]) ?_ 0 _ rfl;exact bm BK445.out) NB445_0.out (by simp));replace HK:=ak (KeepBut.trans (kn HK.out) hk (.inl rfl));replace HB:=ak hb;replace HI0:=ak hi;(try clear hb);(try clear hk);(try clear hi);have hcz13_0:=bc BK445 0 rfl;have hcz13_1:=bc BK445 1 rfl;have hcz15_0:=bc BK441 0 rfl;have hcz15_1:=bc BK441 1 rfl;have hfz15_0:=bf BK441 0;have hfz15_1:=bf BK441 1))
  refine bodyPost_ret (results_cell_row rfl _ _ gb441 27 #[.int .i64 t442,.bool true] (0,0) _ rfl (by(with_reducible repeat(first|apply blk_drewN|apply blk_drew|apply blk_alloc));refine blk_put (cs:=#[.int .i64 t442,.bool false]) ?_ 1 _ rfl;(with_reducible repeat(first|apply blk_drewN|apply blk_drew|apply blk_alloc));refine blk_put (cs:=#[.int .i64 0,.bool false]) ?_ 0 _ rfl;exact bm BK441.out) Try.underlying27 rfl (by kernel_rfl)) rfl ?_
  exact⟨fe,(IsS88.now HI0.out),h3 HB.out (IsS88.ge HI0.out) GE441.out GE445.out,(kn HK.out)⟩
 replace c5:=Bool.eq_false_iff.mpr c5
 subst c5
 rw[if_neg (show ¬(false=true)by decide)]at H
 simp only[Option.some.injEq,Prod.mk.injEq]at H
 obtain⟨rfl,rfl,rfl,rfl⟩:=H
 go_enter Try.func92,Try.ntmps92
 go_wp2_with (first|(refine bx 2 #[.int .i64 0,.bool false] 27 ?_;intro gb441 hg w16 hbox hb;replace HB:=ak (below_step (h1 HB.out (IsS88.ge HI0.out)) hb);have BK441:=ak hbox;have GW441:=ak ((by rw[hg];exact(keep_size (w:=w) (g:=g) (row:=none) (kn HK.out)):w.heap.size≤gb441));have GE441:=ak ((Nat.le_trans HW0.out (by rw[hg];exact(keep_size (w:=w) (g:=g) (row:=none) (kn HK.out)):w.heap.size≤gb441):w0.heap.size≤gb441));replace HK:=ak (KeepBut.trans (kn HK.out) (KeepBut.of_below hb g none) (.inl rfl));have NB0_441:=ak ((by rw[hg];exact Nat.ne_of_lt (IsS88.lt (show IsS88 w0 _ g s0_0 s0_1 s0_2 from(IsS88.now HI0.out))):g≠gb441));have NB441_0:=ak ((by rw[hg];exact Nat.ne_of_gt (IsS88.lt (show IsS88 w0 _ g s0_0 s0_1 s0_2 from(IsS88.now HI0.out))):gb441≠g));replace HI0:=ak (IsS88.below (g:=g) (IsS88.now HI0.out) hb);clear hb hbox hg)|(refine gs 5 Try.func94 #[.pointer (some ⟨g,0,none⟩)] ?_;(with_reducible refine(spec_l1Cur_size.calls g s0_0 s0_1 s0_2 t442 t443 t444 w0 _ ?side1 ?side2 A2.out).mono ?_);(case side1=>exact IsS88.now HI0.out);(case side2=>exact h2 HB.out (IsS88.ge HI0.out) GE441.out);rintro e w17 ⟨rfl,hi,hb,hk⟩;refine⟨_,rfl,?_⟩;replace BK441:=kk BK441 hk NB441_0;replace HK:=ak (KeepBut.trans (kn HK.out) hk (.inl rfl));replace HB:=ak hb;replace HI0:=ak hi;(try clear hb);(try clear hk);(try clear hi))|(refine bx 3 #[.int .i64 0,.bool false] 27 ?_;intro gb445 hg w18 hbox hb;replace HB:=ak (below_step (h2 HB.out (IsS88.ge HI0.out) GE441.out) hb);have BK445:=ak hbox;have GW445:=ak ((by rw[hg];exact(keep_size (w:=w) (g:=g) (row:=none) (kn HK.out)):w.heap.size≤gb445));have GE445:=ak ((Nat.le_trans HW0.out (by rw[hg];exact(keep_size (w:=w) (g:=g) (row:=none) (kn HK.out)):w.heap.size≤gb445):w0.heap.size≤gb445));replace HK:=ak (KeepBut.trans (kn HK.out) (KeepBut.of_below hb g none) (.inl rfl));have NB441_445:=nl BK441 hg;have NB445_441:=ng BK441 hg;replace BK441:=kb BK441 hb;have NB0_445:=ak ((by rw[hg];exact Nat.ne_of_lt (IsS88.lt (show IsS88 w0 _ g s0_0 t443 t444 from(IsS88.now HI0.out))):g≠gb445));have NB445_0:=ak ((by rw[hg];exact Nat.ne_of_gt (IsS88.lt (show IsS88 w0 _ g s0_0 t443 t444 from(IsS88.now HI0.out))):gb445≠g));replace HI0:=ak (IsS88.below (g:=g) (IsS88.now HI0.out) hb);clear hb hbox hg;have hnc19:=NB441_445.out;have hnb20:=NB445_0.out;have hnc20:=NB0_445.out;have hcz21_0:=bc BK445 0 rfl;have hcz21_1:=bc BK445 1 rfl;have hfz21_0:=bf BK445 0;have hfz21_1:=bf BK445 1)|(go_at_call 72;(with_reducible refine(spec_l1Cur_one.calls g s0_0 t443 t444 4 false t447 t448 w0 _ ?side1 ?side2 A4.out).mono ?_);(case side1=>exact IsS88.now HI0.out);(case side2=>exact h3 HB.out (IsS88.ge HI0.out) GE441.out GE445.out);rintro e w22 ⟨rfl,hi,hb,hk⟩;replace BK441:=ak (KeepBut.blk hk (g':=gb441) (o:=.cells #[.int .i64 0,.bool false] 27 (0,0)) (by(with_reducible repeat(first|apply blk_drewN|apply blk_drew|apply blk_alloc));refine blk_far ?_ NB441_445.out _;(with_reducible repeat(first|apply blk_drewN|apply blk_drew|apply blk_alloc));refine blk_far ?_ NB441_445.out _;exact bm BK441.out) NB441_0.out (by simp));replace BK445:=ak (KeepBut.blk hk (g':=gb445) (o:=.cells #[.int .i64 t442,.bool true] 27 (0,0)) (by(with_reducible repeat(first|apply blk_drewN|apply blk_drew|apply blk_alloc));refine blk_put (cs:=#[.int .i64 t442,.bool false]) ?_ 1 _ rfl;(with_reducible repeat(first|apply blk_drewN|apply blk_drew|apply blk_alloc));refine blk_put (cs:=#[.int .i64 0,.bool false]) ?_ 0 _ rfl;exact bm BK445.out) NB445_0.out (by simp));replace HK:=ak (KeepBut.trans (kn HK.out) hk (.inl rfl));replace HB:=ak hb;replace HI0:=ak hi;(try clear hb);(try clear hk);(try clear hi);have hcz23_0:=bc BK445 0 rfl;have hcz23_1:=bc BK445 1 rfl;have hfz23_0:=bf BK445 0;have hnb24:=NB441_0.out;have hnc24:=NB0_441.out;have hcz25_0:=bc BK441 0 rfl;have hcz25_1:=bc BK441 1 rfl;have hfz25_0:=bf BK441 0;have hfz25_1:=bf BK441 1))
 refine bodyPost_ret (results_cell_row rfl _ _ gb441 27 #[.int .i64 3,.bool true] (0,0) _ rfl (by(with_reducible repeat(first|apply blk_drewN|apply blk_drew|apply blk_alloc));refine blk_put (cs:=#[.int .i64 3,.bool false]) ?_ 1 _ rfl;(with_reducible repeat(first|apply blk_drewN|apply blk_drew|apply blk_alloc));refine blk_put (cs:=#[.int .i64 0,.bool false]) ?_ 0 _ rfl;(with_reducible repeat(first|apply blk_drewN|apply blk_drew|apply blk_alloc));refine blk_far ?_ NB441_445.out _;exact bm BK441.out) Try.underlying27 rfl (by kernel_rfl)) rfl ?_
 exact⟨fe,(IsS88.now HI0.out),h3 HB.out (IsS88.ge HI0.out) GE441.out GE445.out,(kn HK.out)⟩
def spec_l1Cur_road.f (s0_0:List Int) (s0_1:Int) (s0_2:Int):Option (Int × Bool × Int × Int):=(spec_l1Cur_one.f s0_0 s0_1 s0_2 2).bind fun bt450=>(if bt450.1=true then((spec_l1Cur_line.f s0_0 bt450.2.1 bt450.2.2).bind fun bt453=>(some (bt453.1,bt453.2.1,bt453.2.2.1,bt453.2.2.2)))else((spec_l1Cur_ring.f s0_0 bt450.2.1 bt450.2.2).bind fun bt457=>(some (bt457.1,bt457.2.1,bt457.2.2.1,bt457.2.2.2))))
set_option maxHeartbeats 8000000 in
set_option maxRecDepth 100000 in
theorem spec_l1Cur_road.calls (g:Nat) (s0_0:List Int) (s0_1:Int) (s0_2:Int) (r1:Int) (r2:Bool) (r3:Int) (r4:Int) (w0 w:World) (hI:IsS88 w0 w g s0_0 s0_1 s0_2) (hB:Below w0.heap.size w0 w) (h:spec_l1Cur_road.f s0_0 s0_1 s0_2=some (r1,r2,r3,r4)):
  Calls Try.prog 85 #[.pointer (some ⟨g,0,none⟩)] w fun e w'=>e= .returned (.agg #[.int .i64 r1,.bool r2])∧IsS88 w0 w' g s0_0 r3 r4∧Below w0.heap.size w0 w'∧KeepBut w w' g none:=by
 have HI0:=Aside0.mk hI
 have HK:=Aside0.mk (KeepBut.refl w g none)
 clear hI
 have HW0:=Aside0.mk hB.size
 have HB:=Aside0.mk hB
 clear hB
 unfold spec_l1Cur_road.f at h
 have H:=h
 clear h
 obtain⟨⟨t450,t451,t452⟩,A2,H⟩:=bd H;(try dsimp only at H)
 by_cases c3:t450=true
 ·subst c3
  rw[if_pos rfl]at H
  obtain⟨⟨t453,t454,t455,t456⟩,A4,H⟩:=bd H;(try dsimp only at H)
  simp only[Option.some.injEq,Prod.mk.injEq]at H
  obtain⟨rfl,rfl,rfl,rfl⟩:=H
  go_enter Try.func85,Try.ntmps85
  go_wp2_with (first|(refine bx 2 #[.int .i64 0,.bool false] 27 ?_;intro gb449 hg w5 hbox hb;replace HB:=ak (below_step (h1 HB.out (IsS88.ge HI0.out)) hb);have BK449:=ak hbox;have GW449:=ak ((by rw[hg];exact(keep_size (w:=w) (g:=g) (row:=none) (kn HK.out)):w.heap.size≤gb449));have GE449:=ak ((Nat.le_trans HW0.out (by rw[hg];exact(keep_size (w:=w) (g:=g) (row:=none) (kn HK.out)):w.heap.size≤gb449):w0.heap.size≤gb449));replace HK:=ak (KeepBut.trans (kn HK.out) (KeepBut.of_below hb g none) (.inl rfl));have NB0_449:=ak ((by rw[hg];exact Nat.ne_of_lt (IsS88.lt (show IsS88 w0 _ g s0_0 s0_1 s0_2 from(IsS88.now HI0.out))):g≠gb449));have NB449_0:=ak ((by rw[hg];exact Nat.ne_of_gt (IsS88.lt (show IsS88 w0 _ g s0_0 s0_1 s0_2 from(IsS88.now HI0.out))):gb449≠g));replace HI0:=ak (IsS88.below (g:=g) (IsS88.now HI0.out) hb);clear hb hbox hg)|(refine gs 4 Try.func72 #[.pointer (some ⟨g,0,none⟩),.int .i64 2] ?_;(with_reducible refine(spec_l1Cur_one.calls g s0_0 s0_1 s0_2 2 true t451 t452 w0 _ ?side1 ?side2 A2.out).mono ?_);(case side1=>exact IsS88.now HI0.out);(case side2=>exact h2 HB.out (IsS88.ge HI0.out) GE449.out);rintro e w6 ⟨rfl,hi,hb,hk⟩;refine⟨_,rfl,?_⟩;replace BK449:=kk BK449 hk NB449_0;replace HK:=ak (KeepBut.trans (kn HK.out) hk (.inl rfl));replace HB:=ak hb;replace HI0:=ak hi;(try clear hb);(try clear hk);(try clear hi))|(refine gs 6 Try.func91 #[.pointer (some ⟨g,0,none⟩)] ?_;(with_reducible refine(spec_l1Cur_line.calls g s0_0 t451 t452 t453 t454 t455 t456 w0 _ ?side1 ?side2 A4.out).mono ?_);(case side1=>exact IsS88.now HI0.out);(case side2=>exact h2 HB.out (IsS88.ge HI0.out) GE449.out);rintro e w7 ⟨rfl,hi,hb,hk⟩;refine⟨_,rfl,?_⟩;replace BK449:=kk BK449 hk NB449_0;replace HK:=ak (KeepBut.trans (kn HK.out) hk (.inl rfl));replace HB:=ak hb;replace HI0:=ak hi;(try clear hb);(try clear hk);(try clear hi);have hcz9_0:=bc BK449 0 rfl;have hcz9_1:=bc BK449 1 rfl;have hfz9_0:=bf BK449 0;have hfz9_1:=bf BK449 1))
  refine bodyPost_ret (results_cell_row rfl _ _ gb449 27 #[.int .i64 t453,.bool t454] (0,0) _ rfl (by(with_reducible repeat(first|apply blk_drewN|apply blk_drew|apply blk_alloc));refine blk_put (cs:=#[.int .i64 t453,.bool false]) ?_ 1 _ rfl;(with_reducible repeat(first|apply blk_drewN|apply blk_drew|apply blk_alloc));refine blk_put (cs:=#[.int .i64 0,.bool false]) ?_ 0 _ rfl;exact bm BK449.out) Try.underlying27 rfl (by kernel_rfl)) rfl ?_
  exact⟨fe,(IsS88.now HI0.out),h2 HB.out (IsS88.ge HI0.out) GE449.out,(kn HK.out)⟩
 replace c3:=Bool.eq_false_iff.mpr c3
 subst c3
 rw[if_neg (show ¬(false=true)by decide)]at H
 obtain⟨⟨t457,t458,t459,t460⟩,A10,H⟩:=bd H;(try dsimp only at H)
 simp only[Option.some.injEq,Prod.mk.injEq]at H
 obtain⟨rfl,rfl,rfl,rfl⟩:=H
 go_enter Try.func85,Try.ntmps85
 go_wp2_with (first|(refine bx 2 #[.int .i64 0,.bool false] 27 ?_;intro gb449 hg w11 hbox hb;replace HB:=ak (below_step (h1 HB.out (IsS88.ge HI0.out)) hb);have BK449:=ak hbox;have GW449:=ak ((by rw[hg];exact(keep_size (w:=w) (g:=g) (row:=none) (kn HK.out)):w.heap.size≤gb449));have GE449:=ak ((Nat.le_trans HW0.out (by rw[hg];exact(keep_size (w:=w) (g:=g) (row:=none) (kn HK.out)):w.heap.size≤gb449):w0.heap.size≤gb449));replace HK:=ak (KeepBut.trans (kn HK.out) (KeepBut.of_below hb g none) (.inl rfl));have NB0_449:=ak ((by rw[hg];exact Nat.ne_of_lt (IsS88.lt (show IsS88 w0 _ g s0_0 s0_1 s0_2 from(IsS88.now HI0.out))):g≠gb449));have NB449_0:=ak ((by rw[hg];exact Nat.ne_of_gt (IsS88.lt (show IsS88 w0 _ g s0_0 s0_1 s0_2 from(IsS88.now HI0.out))):gb449≠g));replace HI0:=ak (IsS88.below (g:=g) (IsS88.now HI0.out) hb);clear hb hbox hg)|(refine gs 4 Try.func72 #[.pointer (some ⟨g,0,none⟩),.int .i64 2] ?_;(with_reducible refine(spec_l1Cur_one.calls g s0_0 s0_1 s0_2 2 false t451 t452 w0 _ ?side1 ?side2 A2.out).mono ?_);(case side1=>exact IsS88.now HI0.out);(case side2=>exact h2 HB.out (IsS88.ge HI0.out) GE449.out);rintro e w12 ⟨rfl,hi,hb,hk⟩;refine⟨_,rfl,?_⟩;replace BK449:=kk BK449 hk NB449_0;replace HK:=ak (KeepBut.trans (kn HK.out) hk (.inl rfl));replace HB:=ak hb;replace HI0:=ak hi;(try clear hb);(try clear hk);(try clear hi))|(refine gs 8 Try.func92 #[.pointer (some ⟨g,0,none⟩)] ?_;(with_reducible refine(spec_l1Cur_ring.calls g s0_0 t451 t452 t457 t458 t459 t460 w0 _ ?side1 ?side2 A10.out).mono ?_);(case side1=>exact IsS88.now HI0.out);(case side2=>exact h2 HB.out (IsS88.ge HI0.out) GE449.out);rintro e w13 ⟨rfl,hi,hb,hk⟩;refine⟨_,rfl,?_⟩;replace BK449:=kk BK449 hk NB449_0;replace HK:=ak (KeepBut.trans (kn HK.out) hk (.inl rfl));replace HB:=ak hb;replace HI0:=ak hi;(try clear hb);(try clear hk);(try clear hi);have hcz15_0:=bc BK449 0 rfl;have hcz15_1:=bc BK449 1 rfl;have hfz15_0:=bf BK449 0;have hfz15_1:=bf BK449 1))
 refine bodyPost_ret (results_cell_row rfl _ _ gb449 27 #[.int .i64 t457,.bool t458] (0,0) _ rfl (by(with_reducible repeat(first|apply blk_drewN|apply blk_drew|apply blk_alloc));refine blk_put (cs:=#[.int .i64 t457,.bool false]) ?_ 1 _ rfl;(with_reducible repeat(first|apply blk_drewN|apply blk_drew|apply blk_alloc));refine blk_put (cs:=#[.int .i64 0,.bool false]) ?_ 0 _ rfl;exact bm BK449.out) Try.underlying27 rfl (by kernel_rfl)) rfl ?_
 exact⟨fe,(IsS88.now HI0.out),h2 HB.out (IsS88.ge HI0.out) GE449.out,(kn HK.out)⟩
def spec_l1Cur_line9.f (s0_0:List Int) (s0_1:Int) (s0_2:Int):Option (Int × Bool × Int × Int):=(spec_l1Cur_one.f s0_0 s0_1 s0_2 8).bind fun bt462=>(if bt462.1=true then((spec_l1Cur_road.f s0_0 bt462.2.1 bt462.2.2).bind fun bt465=>(some (bt465.1,bt465.2.1,bt465.2.2.1,bt465.2.2.2)))else((spec_l1Cur_among.f s0_0 bt462.2.1 bt462.2.2 (([6,8,5,10,4,12,3,2]:List Int))).bind fun bt472=>(some (bt472.1,false,bt472.2.1,bt472.2.2))))
set_option maxHeartbeats 8000000 in
set_option maxRecDepth 100000 in
theorem spec_l1Cur_line9.calls (g:Nat) (s0_0:List Int) (s0_1:Int) (s0_2:Int) (r1:Int) (r2:Bool) (r3:Int) (r4:Int) (w0 w:World) (hI:IsS88 w0 w g s0_0 s0_1 s0_2) (hB:Below w0.heap.size w0 w) (h:spec_l1Cur_line9.f s0_0 s0_1 s0_2=some (r1,r2,r3,r4)):
  Calls Try.prog 68 #[.pointer (some ⟨g,0,none⟩)] w fun e w'=>e= .returned (.agg #[.int .i64 r1,.bool r2])∧IsS88 w0 w' g s0_0 r3 r4∧Below w0.heap.size w0 w'∧KeepBut w w' g none:=by
 have HI0:=Aside0.mk hI
 have HK:=Aside0.mk (KeepBut.refl w g none)
 clear hI
 have HW0:=Aside0.mk hB.size
 have HB:=Aside0.mk hB
 clear hB
 unfold spec_l1Cur_line9.f at h
 have H:=h
 clear h
 obtain⟨⟨t462,t463,t464⟩,A2,H⟩:=bd H;(try dsimp only at H)
 by_cases c3:t462=true
 ·subst c3
  rw[if_pos rfl]at H
  obtain⟨⟨t465,t466,t467,t468⟩,A4,H⟩:=bd H;(try dsimp only at H)
  simp only[Option.some.injEq,Prod.mk.injEq]at H
  obtain⟨rfl,rfl,rfl,rfl⟩:=H
  go_enter Try.func68,Try.ntmps68
  go_wp2_with (first|(refine bx 2 #[.int .i64 0,.bool false] 27 ?_;intro gb461 hg w5 hbox hb;replace HB:=ak (below_step (h1 HB.out (IsS88.ge HI0.out)) hb);have BK461:=ak hbox;have GW461:=ak ((by rw[hg];exact(keep_size (w:=w) (g:=g) (row:=none) (kn HK.out)):w.heap.size≤gb461));have GE461:=ak ((Nat.le_trans HW0.out (by rw[hg];exact(keep_size (w:=w) (g:=g) (row:=none) (kn HK.out)):w.heap.size≤gb461):w0.heap.size≤gb461));replace HK:=ak (KeepBut.trans (kn HK.out) (KeepBut.of_below hb g none) (.inl rfl));have NB0_461:=ak ((by rw[hg];exact Nat.ne_of_lt (IsS88.lt (show IsS88 w0 _ g s0_0 s0_1 s0_2 from(IsS88.now HI0.out))):g≠gb461));have NB461_0:=ak ((by rw[hg];exact Nat.ne_of_gt (IsS88.lt (show IsS88 w0 _ g s0_0 s0_1 s0_2 from(IsS88.now HI0.out))):gb461≠g));replace HI0:=ak (IsS88.below (g:=g) (IsS88.now HI0.out) hb);clear hb hbox hg)|(refine gs 4 Try.func72 #[.pointer (some ⟨g,0,none⟩),.int .i64 8] ?_;(with_reducible refine(spec_l1Cur_one.calls g s0_0 s0_1 s0_2 8 true t463 t464 w0 _ ?side1 ?side2 A2.out).mono ?_);(case side1=>exact IsS88.now HI0.out);(case side2=>exact h2 HB.out (IsS88.ge HI0.out) GE461.out);rintro e w6 ⟨rfl,hi,hb,hk⟩;refine⟨_,rfl,?_⟩;replace BK461:=kk BK461 hk NB461_0;replace HK:=ak (KeepBut.trans (kn HK.out) hk (.inl rfl));replace HB:=ak hb;replace HI0:=ak hi;(try clear hb);(try clear hk);(try clear hi))|(refine gs 6 Try.func85 #[.pointer (some ⟨g,0,none⟩)] ?_;(with_reducible refine(spec_l1Cur_road.calls g s0_0 t463 t464 t465 t466 t467 t468 w0 _ ?side1 ?side2 A4.out).mono ?_);(case side1=>exact IsS88.now HI0.out);(case side2=>exact h2 HB.out (IsS88.ge HI0.out) GE461.out);rintro e w7 ⟨rfl,hi,hb,hk⟩;refine⟨_,rfl,?_⟩;replace BK461:=kk BK461 hk NB461_0;replace HK:=ak (KeepBut.trans (kn HK.out) hk (.inl rfl));replace HB:=ak hb;replace HI0:=ak hi;(try clear hb);(try clear hk);(try clear hi);have hcz9_0:=bc BK461 0 rfl;have hcz9_1:=bc BK461 1 rfl;have hfz9_0:=bf BK461 0;have hfz9_1:=bf BK461 1))
  refine bodyPost_ret (results_cell_row rfl _ _ gb461 27 #[.int .i64 t465,.bool t466] (0,0) _ rfl (by(with_reducible repeat(first|apply blk_drewN|apply blk_drew|apply blk_alloc));refine blk_put (cs:=#[.int .i64 t465,.bool false]) ?_ 1 _ rfl;(with_reducible repeat(first|apply blk_drewN|apply blk_drew|apply blk_alloc));refine blk_put (cs:=#[.int .i64 0,.bool false]) ?_ 0 _ rfl;exact bm BK461.out) Try.underlying27 rfl (by kernel_rfl)) rfl ?_
  exact⟨fe,(IsS88.now HI0.out),h2 HB.out (IsS88.ge HI0.out) GE461.out,(kn HK.out)⟩
 replace c3:=Bool.eq_false_iff.mpr c3
 subst c3
 rw[if_neg (show ¬(false=true)by decide)]at H
 generalize hy469: ([6,8,5,10,4,12,3,2]:List Int)=y469 at H
 have Ny469:=ak hy469.symm
 clear hy469
 obtain⟨⟨t472,t473,t474⟩,A10,H⟩:=bd H;(try dsimp only at H)
 simp only[Option.some.injEq,Prod.mk.injEq]at H
 obtain⟨rfl,rfl,rfl,rfl⟩:=H
 go_enter Try.func68,Try.ntmps68
 go_wp2_with (first|(refine bx 2 #[.int .i64 0,.bool false] 27 ?_;intro gb461 hg w11 hbox hb;replace HB:=ak (below_step (h1 HB.out (IsS88.ge HI0.out)) hb);have BK461:=ak hbox;have GW461:=ak ((by rw[hg];exact(keep_size (w:=w) (g:=g) (row:=none) (kn HK.out)):w.heap.size≤gb461));have GE461:=ak ((Nat.le_trans HW0.out (by rw[hg];exact(keep_size (w:=w) (g:=g) (row:=none) (kn HK.out)):w.heap.size≤gb461):w0.heap.size≤gb461));replace HK:=ak (KeepBut.trans (kn HK.out) (KeepBut.of_below hb g none) (.inl rfl));have NB0_461:=ak ((by rw[hg];exact Nat.ne_of_lt (IsS88.lt (show IsS88 w0 _ g s0_0 s0_1 s0_2 from(IsS88.now HI0.out))):g≠gb461));have NB461_0:=ak ((by rw[hg];exact Nat.ne_of_gt (IsS88.lt (show IsS88 w0 _ g s0_0 s0_1 s0_2 from(IsS88.now HI0.out))):gb461≠g));replace HI0:=ak (IsS88.below (g:=g) (IsS88.now HI0.out) hb);clear hb hbox hg)|(refine gs 4 Try.func72 #[.pointer (some ⟨g,0,none⟩),.int .i64 8] ?_;(with_reducible refine(spec_l1Cur_one.calls g s0_0 s0_1 s0_2 8 false t463 t464 w0 _ ?side1 ?side2 A2.out).mono ?_);(case side1=>exact IsS88.now HI0.out);(case side2=>exact h2 HB.out (IsS88.ge HI0.out) GE461.out);rintro e w12 ⟨rfl,hi,hb,hk⟩;refine⟨_,rfl,?_⟩;replace BK461:=kk BK461 hk NB461_0;replace HK:=ak (KeepBut.trans (kn HK.out) hk (.inl rfl));replace HB:=ak hb;replace HI0:=ak hi;(try clear hb);(try clear hk);(try clear hi))|((with_reducible refine gate_dst (N:=8) rfl ?_);refine R_lit (Kd.int .i64) _ 3 ?hg (N:=8) ?hd (xs:=([6,8,5,10,4,12,3,2]:List Int)) (inner:=[.int .i64 6,.int .i64 8,.int .i64 5,.int .i64 10,.int .i64 4,.int .i64 12,.int .i64 3,.int .i64 2]) (ok:=fun _=>True) (okp:=fun _=>True) ?hr ?hp (fun _ hk=>hk) trivial (Below.refl _ _) (Nat.le_refl _) (by simp) ?_;(case hd=>rfl);(case hg=>rfl);(case hr=>first|(go_simp;done)|(go_simp;rfl));(case hp=>exact(Reps.one (show Kd.M (Kd.int .i64) _ _ _ 6 [.int .i64 6]from rfl) (Reps.one (show Kd.M (Kd.int .i64) _ _ _ 8 [.int .i64 8]from rfl) (Reps.one (show Kd.M (Kd.int .i64) _ _ _ 5 [.int .i64 5]from rfl) (Reps.one (show Kd.M (Kd.int .i64) _ _ _ 10 [.int .i64 10]from rfl) (Reps.one (show Kd.M (Kd.int .i64) _ _ _ 4 [.int .i64 4]from rfl) (Reps.one (show Kd.M (Kd.int .i64) _ _ _ 12 [.int .i64 12]from rfl) (Reps.one (show Kd.M (Kd.int .i64) _ _ _ 3 [.int .i64 3]from rfl) (Reps.one (show Kd.M (Kd.int .i64) _ _ _ 2 [.int .i64 2]from rfl) (Reps.none _ _))))))))));intro v470 w13 ho14 hb hg_ hnew_;clear hg_ hnew_;(first|rw[←Ny469.out]at ho14|(simp only[Int.reduceToNat]at ho14;rw[←Ny469.out]at ho14));have HO471:=ak (R_lower ho14 (keep_size (w:=w) (g:=g) (row:=none) (kn HK.out)));replace BK461:=kb BK461 hb;replace HK:=ak (KeepBut.trans (kn HK.out) (KeepBut.of_below hb g none) (.inl rfl));replace HB:=ak (below_step (h2 HB.out (IsS88.ge HI0.out) GE461.out) hb);replace HI0:=ak (IsS88.below (g:=g) (IsS88.now HI0.out) hb);clear hb ho14;obtain⟨Ao15,co15,eo15⟩:=R_slice HO471.out;subst eo15)|(refine gs 9 Try.func70 #[.pointer (some ⟨g,0,none⟩),.slice Ao15 y469.length co15] ?_;(with_reducible refine(spec_l1Cur_among.calls g s0_0 t463 t464 _ _ y469 t472 t473 t474 w0 _ ?side1 ?side2 ?side3 ?side4 ?side5 A10.out).mono ?_);(case side1=>exact IsS88.now HI0.out);(case side2=>exact h2 HB.out (IsS88.ge HI0.out) GE461.out);(case side3=>exact cm (R_reads' HO471.out).2.2);(case side4=>exact(R_reads' HO471.out).2.1);(case side5=>exact far_slice (IsS88.own_ne HI0.out HO471.out (by decide)));rintro e w16 ⟨rfl,hi,hb,hk⟩;refine⟨_,rfl,?_⟩;replace BK461:=kk BK461 hk NB461_0;replace HO471:=ak (R_mono (R_keep (IsS88.apart (show IsS88 w0 _ g s0_0 t463 t464 from(IsS88.now HI0.out)) (rm HO471.out) (by decide)) hk (fun _ h=>h.2)) (fun _ h=>h.1));replace HK:=ak (KeepBut.trans (kn HK.out) hk (.inl rfl));replace HB:=ak hb;replace HI0:=ak hi;(try clear hb);(try clear hk);(try clear hi);have hcz18_0:=bc BK461 0 rfl;have hcz18_1:=bc BK461 1 rfl;have hfz18_0:=bf BK461 0;have hfz18_1:=bf BK461 1))
 refine bodyPost_ret (results_cell_row rfl _ _ gb461 27 #[.int .i64 t472,.bool false] (0,0) _ rfl (by(with_reducible repeat(first|apply blk_drewN|apply blk_drew|apply blk_alloc));refine blk_put (cs:=#[.int .i64 t472,.bool false]) ?_ 1 _ rfl;(with_reducible repeat(first|apply blk_drewN|apply blk_drew|apply blk_alloc));refine blk_put (cs:=#[.int .i64 0,.bool false]) ?_ 0 _ rfl;exact bm BK461.out) Try.underlying27 rfl (by kernel_rfl)) rfl ?_
 exact⟨fe,(IsS88.now HI0.out),h2 HB.out (IsS88.ge HI0.out) GE461.out,(kn HK.out)⟩
end
end Go.Proofs.Ytanfamfgdgcjpaa.QFnMoves
