/- Functions that the law FnExactRelayArrival comes to, as Lean functions, with the proof that the Go code does what they say: written by a program of this session over the kit's print. No condition but those named. -/
import Derived.Test.YthagkpoinjpmfaaQFnExactRelayArrivalx0
import Derived.Test.YthagkpoinjpmfaaQFnExactRelayArrivalx2
namespace Go.Proofs.Ythagkpoinjpmfaa.QFnExactRelayArrival
open Go.RowKit Go.Proofs.YthagkpoinjpmfaaW.PrintWords Go.Proofs.YthagkpoinjpmfaaW.PrintLast Go.Proofs.YthagkpoinjpmfaaW.PrintMore
attribute [local go_sem] max2_int min2_int max_two min_two max_three min_three max_four min_four   -- for this text's walks alone
set_option linter.unusedVariables false
set_option linter.unusedSimpArgs false

/-! ### spec_l7Carriers: function 77 -/
section
open Kd
def spec_l7Carriers.l0 : Nat → List (S63) → Int → Int → Bool → Option (Bool)
 | 0,_,_,_,_=>none
 | k + 1,x1,x5,x145000,x145001=>if x5 < (x1.length : Int) then (if 0 ≤ x5 then ((spec_l7Carrier.f x145000 x145001 ((rd_T63 x1 x5).f0) ((rd_T63 x1 x5).f1) ((rd_T63 x1 x5).f2)).bind fun t146=>(if t146 = true then (spec_l7Carriers.l0 k x1 (wrap64 (x5 + 1)) x145000 x145001) else (some false))) else (none)) else ((spec_l2Road.f x145000 x145001).bind fun t147=>(if t147 = true then (if x145001 = true then (some false) else (some (decide ((x1.length : Int) ≤ 6)))) else (some false)))
def spec_l7Carriers.f (k : Nat) (a0_0 : Int) (a0_1 : Bool) (l1 : List (S63)) : Option (Bool):=spec_l7Carriers.l0 k l1 0 a0_0 a0_1
theorem spec_l7Carriers.mono_l : ∀ k,(∀ y0 y1 y2 y3,LeO (spec_l7Carriers.l0 k y0 y1 y2 y3) (spec_l7Carriers.l0 (k + 1) y0 y1 y2 y3))
 | 0=>fun _ _ _ _ r h=>by simp [spec_l7Carriers.l0] at h
 | k + 1=>by
  have ih0:=spec_l7Carriers.mono_l k
  ·intro y0 y1 y2 y3
   unfold spec_l7Carriers.l0
   repeat' first
   | (with_reducible exact ih0 _ _ _ _)
   | (with_reducible exact LeO.refl _)
   | (with_reducible exact LeO.none _)
   | (with_reducible refine LeO.ite ?_ ?_)
   | (with_reducible refine LeO.bind ?_ (fun _=>?_))
   | exact ih0 _ _ _ _
   | exact LeO.none _
   | refine LeO.ite ?_ ?_
   | refine LeO.bind ?_ (fun _=>?_)
theorem spec_l7Carriers.mono : ∀ a0 a1 a2 k,LeO (spec_l7Carriers.f k a0 a1 a2) (spec_l7Carriers.f (k + 1) a0 a1 a2):=by
 intro a0 a1 a2 k
 have ih0:=spec_l7Carriers.mono_l k
 unfold spec_l7Carriers.f
 repeat' first
   | (with_reducible exact ih0 _ _ _ _)
   | (with_reducible exact LeO.refl _)
   | (with_reducible exact LeO.none _)
   | (with_reducible refine LeO.ite ?_ ?_)
   | (with_reducible refine LeO.bind ?_ (fun _=>?_))
   | exact ih0 _ _ _ _
   | exact LeO.none _
   | refine LeO.ite ?_ ?_
   | refine LeO.bind ?_ (fun _=>?_)
set_option maxHeartbeats 8000000 in
set_option maxRecDepth 100000 in
theorem spec_l7Carriers.calls (k : Nat) (a0_0 : Int) (a0_1 : Bool) (A1 : Option Addr) (c1 : Nat) (l1 : List (S63)) (r : Bool) (w : World) (hr1 : Kd.C k63 w A1 l1.length l1) (hc1 : l1.length ≤ c1) (h : spec_l7Carriers.f k a0_0 a0_1 l1 = some r) :
  Calls Try.prog 77 #[.agg #[.int .i64 a0_0,.bool a0_1],.slice A1 l1.length c1] w fun e w'=>e = .returned (.bool r) ∧ Below w.heap.size w w':=by
 have hu28:=Try.underlying28
 have hu63:=Try.underlying63
 have HR1:=Aside0.mk hr1
 have HC1:=Aside0.mk hc1
 clear hr1 hc1
 have HB:=Aside0.mk (Below.refl w.heap.size w)
 have H : (spec_l7Carriers.l0 k l1 0 a0_0 a0_1) = some r:=h
 clear h
 have H':=Aside0.mk H
 clear H
 go_enter Try.func77,Try.ntmps77
 go_wp2_with (first|((with_reducible refine gate_dst (N:=2) rfl ?_);(try (refine gate_guard (by rfl) ?_;dsimp only));refine box_event ?hg (N:=2) ?hd (cs:=#[.int .i64 a0_0,.bool a0_1]) (t:=28) ?hr ?_;(case hd=>rfl);(case hg=>rfl);(case hr=>first|(go_simp;done)|(go_simp;rfl));intro gb144 hg w3 hbox hb;have n0_:=Aside0.mk (below_step (by repeat (first|(with_reducible first|exact HB.out|apply below_alloc|apply pw_below_drewN|apply below_drew1)|exact HB.out)) hb);have n1_:=Aside0.mk (hbox);have n2_:=Aside0.mk ((by rw [hg];exact (below_size (by repeat (first|(with_reducible first|exact HB.out|apply below_alloc|apply pw_below_drewN|apply below_drew1)|exact HB.out))) : w.heap.size ≤ gb144));have n3_:=Aside0.mk ((by rw [hg];exact (below_size (by repeat (first|(with_reducible first|exact HB.out|apply below_alloc|apply pw_below_drewN|apply below_drew1)|exact HB.out))) : w.heap.size ≤ gb144));clear HB;have HB:=n0_;have BK144:=n1_;have GW144:=n2_;have GE144:=n3_;clear n0_ n1_ n2_ n3_;clear hb hbox hg))
 go_loopg [5] k (fun kq v5 w'=>∃ (x5_1 : Int),v5 = .int .i64 x5_1 ∧ Aside0 (spec_l7Carriers.l0 kq l1 x5_1 a0_0 a0_1 = some r) ∧ Aside0 (kq ≤ k) ∧ Aside0 (w'.heap[gb144]? = some (.cells #[.int .i64 a0_0,.bool a0_1] 28 (0,0))) ∧ Aside0 (Below w.heap.size w w'))
 case atStart=>exact ⟨(0),(by first|rfl|(simp;done)|(simp [*];done)),H',⟨Nat.le_refl _⟩,⟨by (with_reducible repeat (first|apply blk_drewN|apply blk_drew|apply blk_alloc));exact BK144.out⟩,⟨by repeat (first|(with_reducible first|exact HB.out|apply below_alloc|apply pw_below_drewN|apply below_drew1|refine below_set ?_ GE144.out)|exact HB.out)⟩⟩
 clear H'
 try clear c1
 try clear p2
 obtain ⟨x5_1,rfl,HA,HK1,BK144,HB⟩:=hrel
 cases gk with
 | zero=>exact absurd HA.out (by simp [spec_l7Carriers.l0])
 | succ k1 =>
  have H:=HA.out
  clear HA
  simp only [spec_l7Carriers.l0] at H
  by_cases c4 : x5_1 < (l1.length : Int)
  rotate_left
  ·rw [if_neg c4] at H
   have c4b0 : decide (x5_1 < (l1.length : Int)) = false:=decide_eq_false c4
   clear c4
   replace H:=Option.bind_eq_some_iff.mp H
   obtain ⟨t147,A120,H⟩:=H
   replace H : (if t147 = true then (if a0_1 = true then (some false) else (some (decide ((l1.length : Int) ≤ 6)))) else (some false)) = some r:=H
   have A12:=Aside0.mk A120
   clear A120
   by_cases c13 : t147 = true
   rotate_left
   ·replace c13:=Bool.eq_false_iff.mpr c13
    subst c13
    have H1 : (some false) = some r:=by rw [if_neg (show ¬ (false = true) by decide)] at H;exact H
    clear H
    have H:=H1
    clear H1
    obtain rfl:=Option.some.inj H
    have hcz21_0 : wr.cell? ⟨gb144,0,none⟩ = some (.int .i64 a0_0):=(blk_cell BK144.out 0).trans rfl
    have hcz21_1 : wr.cell? ⟨gb144,1,none⟩ = some (.bool a0_1):=(blk_cell BK144.out 1).trans rfl
    have hfz21_0:=blk_frozen BK144.out 0
    have hfz21_1:=blk_frozen BK144.out 1
    go_wp2_with (first|((with_reducible refine gate_callee (f:=99) rfl ?_);refine goesL_ (some 20) rfl rfl Try.func99 (by kernel_rfl) rfl #[.agg #[.int .i64 a0_0,.bool a0_1]] rfl (by (try simp only [List.map_toArray,List.map_cons,List.map_nil]);first|done|rfl|(simp only [List.length_drop,List.length_take];rfl)) ?_;(with_reducible refine (spec_l2Road.calls a0_0 a0_1 false _ A12.out).mono ?_);rintro e w22 ⟨rfl,hb⟩;refine ⟨_,rfl,?_⟩;have n0_:=Aside0.mk (blk_below (g:=gb144) (o:=.cells #[.int .i64 a0_0,.bool a0_1] 28 (0,0)) (by (with_reducible repeat (first|apply blk_drewN|apply blk_drew|apply blk_alloc));exact BK144.out) hb);have n1_:=Aside0.mk (below_step (by repeat (first|(with_reducible first|exact HB.out|apply below_alloc|apply pw_below_drewN|apply below_drew1|refine below_set ?_ GE144.out)|exact HB.out)) hb);clear BK144;clear HB;have BK144:=n0_;have HB:=n1_;clear n0_ n1_;(try clear hb);(try clear hb2);(try clear hk);(try clear hi)))
    go_ret
    exact ⟨by first|rfl|(simp [errW_none,errW_some] <;> rfl)|(simp [*,errW_none,errW_some] <;> rfl),by repeat (first|(with_reducible first|exact HB.out|apply below_alloc|apply pw_below_drewN|apply below_drew1|refine below_set ?_ GE144.out)|exact HB.out)⟩
   subst c13
   have H1 : (if a0_1 = true then (some false) else (some (decide ((l1.length : Int) ≤ 6)))) = some r:=by rw [if_pos rfl] at H;exact H
   clear H
   have H:=H1
   clear H1
   by_cases c14 : a0_1 = true
   ·subst c14
    have H1 : (some false) = some r:=by rw [if_pos rfl] at H;exact H
    clear H
    have H:=H1
    clear H1
    obtain rfl:=Option.some.inj H
    have hcz15_0 : wr.cell? ⟨gb144,0,none⟩ = some (.int .i64 a0_0):=(blk_cell BK144.out 0).trans rfl
    have hcz15_1 : wr.cell? ⟨gb144,1,none⟩ = some (.bool true):=(blk_cell BK144.out 1).trans rfl
    have hfz15_0:=blk_frozen BK144.out 0
    have hfz15_1:=blk_frozen BK144.out 1
    go_wp2_with (first|((with_reducible refine gate_callee (f:=99) rfl ?_);refine goesL_ (some 20) rfl rfl Try.func99 (by kernel_rfl) rfl #[.agg #[.int .i64 a0_0,.bool true]] rfl (by (try simp only [List.map_toArray,List.map_cons,List.map_nil]);first|done|rfl|(simp only [List.length_drop,List.length_take];rfl)) ?_;(with_reducible refine (spec_l2Road.calls a0_0 true true _ A12.out).mono ?_);rintro e w16 ⟨rfl,hb⟩;refine ⟨_,rfl,?_⟩;have n0_:=Aside0.mk (blk_below (g:=gb144) (o:=.cells #[.int .i64 a0_0,.bool true] 28 (0,0)) (by (with_reducible repeat (first|apply blk_drewN|apply blk_drew|apply blk_alloc));exact BK144.out) hb);have n1_:=Aside0.mk (below_step (by repeat (first|(with_reducible first|exact HB.out|apply below_alloc|apply pw_below_drewN|apply below_drew1|refine below_set ?_ GE144.out)|exact HB.out)) hb);clear BK144;clear HB;have BK144:=n0_;have HB:=n1_;clear n0_ n1_;(try clear hb);(try clear hb2);(try clear hk);(try clear hi);have hcz17_0 : w16.cell? ⟨gb144,0,none⟩ = some (.int .i64 a0_0):=(blk_cell BK144.out 0).trans rfl;have hcz17_1 : w16.cell? ⟨gb144,1,none⟩ = some (.bool true):=(blk_cell BK144.out 1).trans rfl;have hfz17_0:=blk_frozen BK144.out 0;have hfz17_1:=blk_frozen BK144.out 1))
    go_ret
    exact ⟨by first|rfl|(simp [errW_none,errW_some] <;> rfl)|(simp [*,errW_none,errW_some] <;> rfl),by repeat (first|(with_reducible first|exact HB.out|apply below_alloc|apply pw_below_drewN|apply below_drew1|refine below_set ?_ GE144.out)|exact HB.out)⟩
   replace c14:=Bool.eq_false_iff.mpr c14
   subst c14
   have H1 : (some (decide ((l1.length : Int) ≤ 6))) = some r:=by rw [if_neg (show ¬ (false = true) by decide)] at H;exact H
   clear H
   have H:=H1
   clear H1
   obtain rfl:=Option.some.inj H
   have hcz18_0 : wr.cell? ⟨gb144,0,none⟩ = some (.int .i64 a0_0):=(blk_cell BK144.out 0).trans rfl
   have hcz18_1 : wr.cell? ⟨gb144,1,none⟩ = some (.bool false):=(blk_cell BK144.out 1).trans rfl
   have hfz18_0:=blk_frozen BK144.out 0
   have hfz18_1:=blk_frozen BK144.out 1
   go_wp2_with (first|((with_reducible refine gate_callee (f:=99) rfl ?_);refine goesL_ (some 20) rfl rfl Try.func99 (by kernel_rfl) rfl #[.agg #[.int .i64 a0_0,.bool false]] rfl (by (try simp only [List.map_toArray,List.map_cons,List.map_nil]);first|done|rfl|(simp only [List.length_drop,List.length_take];rfl)) ?_;(with_reducible refine (spec_l2Road.calls a0_0 false true _ A12.out).mono ?_);rintro e w19 ⟨rfl,hb⟩;refine ⟨_,rfl,?_⟩;have n0_:=Aside0.mk (blk_below (g:=gb144) (o:=.cells #[.int .i64 a0_0,.bool false] 28 (0,0)) (by (with_reducible repeat (first|apply blk_drewN|apply blk_drew|apply blk_alloc));exact BK144.out) hb);have n1_:=Aside0.mk (below_step (by repeat (first|(with_reducible first|exact HB.out|apply below_alloc|apply pw_below_drewN|apply below_drew1|refine below_set ?_ GE144.out)|exact HB.out)) hb);clear BK144;clear HB;have BK144:=n0_;have HB:=n1_;clear n0_ n1_;(try clear hb);(try clear hb2);(try clear hk);(try clear hi);have hcz20_0 : w19.cell? ⟨gb144,0,none⟩ = some (.int .i64 a0_0):=(blk_cell BK144.out 0).trans rfl;have hcz20_1 : w19.cell? ⟨gb144,1,none⟩ = some (.bool false):=(blk_cell BK144.out 1).trans rfl;have hfz20_0:=blk_frozen BK144.out 0;have hfz20_1:=blk_frozen BK144.out 1))
   go_ret
   exact ⟨by first|rfl|(simp [errW_none,errW_some] <;> rfl)|(simp [*,errW_none,errW_some] <;> rfl),by repeat (first|(with_reducible first|exact HB.out|apply below_alloc|apply pw_below_drewN|apply below_drew1|refine below_set ?_ GE144.out)|exact HB.out)⟩
  rw [if_pos c4] at H
  have c4b0 : decide (x5_1 < (l1.length : Int)) = true:=decide_eq_true c4
  clear c4
  by_cases c5 : 0 ≤ x5_1
  rotate_left
  ·rw [if_neg c5] at H
   exact absurd H (by simp)
  rw [if_pos c5] at H
  have c5b0 : decide (0 ≤ x5_1) = true:=decide_eq_true c5
  clear c5
  replace H:=Option.bind_eq_some_iff.mp H
  obtain ⟨t146,A60,H⟩:=H
  replace H : (if t146 = true then (spec_l7Carriers.l0 k1 l1 (wrap64 (x5_1 + 1)) a0_0 a0_1) else (some false)) = some r:=H
  have A6:=Aside0.mk A60
  clear A60
  by_cases c7 : t146 = true
  rotate_left
  ·replace c7:=Bool.eq_false_iff.mpr c7
   subst c7
   have H1 : (some false) = some r:=by rw [if_neg (show ¬ (false = true) by decide)] at H;exact H
   clear H
   have H:=H1
   clear H1
   obtain rfl:=Option.some.inj H
   try go_wp2
   have n0_:=Aside0.mk (blk_drew BK144.out)
   have n1_:=Aside0.mk (below_drew1 HB.out)
   clear BK144
   clear HB
   have BK144:=n0_
   have HB:=n1_
   clear n0_ n1_
   have p145 : 0 ≤ (x5_1 : Int):=of_decide_eq_true (by first|(with_reducible assumption)|assumption)
   have q145 : x5_1 < (l1.length : Int):=of_decide_eq_true (by first|(with_reducible assumption)|assumption)
   obtain ⟨ad145,e145,hx145_0,hx145_1,hx145_2⟩:=at_T63 HR1.out x5_1 p145 q145
   have hw145_2:=hx145_2
   have hw145_1:=hx145_1
   have hw145_0:=hx145_0
   cases e145
   replace hx145_0:=(HB.out.cell (World.block_lt_of_cell? w _ hx145_0)).trans hx145_0
   replace hx145_1:=(HB.out.cell (World.block_lt_of_cell? w _ hx145_1)).trans hx145_1
   replace hx145_2:=(HB.out.cell (World.block_lt_of_cell? w _ hx145_2)).trans hx145_2
   replace p145:=eq_true p145
   replace q145:=eq_true q145
   refine start_ (n:=7) (S:=fun w'=>w'.cell? ⟨gb144,0,none⟩ = some (.int .i64 a0_0) ∧ w'.cell? ⟨gb144,1,none⟩ = some (.bool a0_1) ∧ w'.cell? (ad145.add ((x5_1).toNat * 3)) = some (.int .i64 ((rd_T63 l1 x5_1).f0)) ∧ w'.cell? ⟨(ad145.add ((x5_1).toNat * 3)).block,(ad145.add ((x5_1).toNat * 3)).off + 1,none⟩ = some (.int .i64 ((rd_T63 l1 x5_1).f1)) ∧ w'.cell? ⟨(ad145.add ((x5_1).toNat * 3)).block,(ad145.add ((x5_1).toNat * 3)).off + 2,none⟩ = some (.int .i64 ((rd_T63 l1 x5_1).f2))) (ds:=[]) #[false,false,false,false,false,false,false] (by kernel_rfl) rfl rfl ⟨(blk_cell BK144.out 0).trans rfl,(blk_cell BK144.out 1).trans rfl,((HB.out.cell (World.block_lt_of_cell? w _ hw145_0)).trans hw145_0),((HB.out.cell (World.block_lt_of_cell? w _ hw145_1)).trans hw145_1),((HB.out.cell (World.block_lt_of_cell? w _ hw145_2)).trans hw145_2)⟩ (fun hHeld=>?_)
   generalize wr.drew = w10 at BK144 HB hx145_0 hx145_1 hx145_2 hHeld ⊢
   refine pure_ (i:=1) (N:=some 13) (v:=?_) (a':=?_) #[false,true,false,false,false,false,false] rfl rfl (by kernel_rfl) (fun _ _ _ h=>h) (Or.inl ⟨by rfl,?_⟩) ?_ ?_
   rotate_left
   ·intro w'
    go_simp
    with_reducible rfl
   rotate_left
   ·simp only [Act.put,List.setIfInBounds_toArray,List.set_cons_zero,List.set_cons_succ,i64_w,i32_w]
    rfl
   refine pure_ (i:=2) (N:=some 14) (v:=?_) (a':=?_) #[false,true,true,false,false,false,false] rfl rfl (by kernel_rfl) (fun _ _ _ h=>h) (Or.inl ⟨by rfl,?_⟩) ?_ ?_
   rotate_left
   ·intro w'
    go_simp
    with_reducible rfl
   rotate_left
   ·simp only [Act.put,List.setIfInBounds_toArray,List.set_cons_zero,List.set_cons_succ,i64_w,i32_w]
    rfl
   refine pure_ (i:=3) (N:=some 15) (v:=?_) (a':=?_) #[false,true,true,true,false,false,false] rfl rfl (by kernel_rfl) (fun _ _ _ h=>h) (Or.inl ⟨by rfl,?_⟩) ?_ ?_
   rotate_left
   ·intro w'
    go_simp
    with_reducible rfl
   rotate_left
   ·simp only [Act.put,List.setIfInBounds_toArray,List.set_cons_zero,List.set_cons_succ,i64_w,i32_w]
    rfl
   refine take_ (i:=0) (N:=some 12) (v:=?_) (a':=?_) #[true,true,true,true,false,false,false] rfl rfl (by kernel_rfl) (fun _ _ _ h=>h) (Or.inl ⟨by rfl,?_⟩) hHeld ?_ ?_
   rotate_left
   ·rintro w' ⟨s0,s1,s2,s3,s4⟩
    go_simp
    with_reducible rfl
   rotate_left
   ·simp only [Act.put,List.setIfInBounds_toArray,List.set_cons_zero,List.set_cons_succ,i64_w,i32_w]
    rfl
   refine take_ (i:=4) (N:=some 16) (v:=?_) (a':=?_) #[true,true,true,true,true,false,false] rfl rfl (by kernel_rfl) (fun _ _ _ h=>h) (Or.inl ⟨by rfl,?_⟩) hHeld ?_ ?_
   rotate_left
   ·rintro w' ⟨s0,s1,s2,s3,s4⟩
    go_simp
    with_reducible rfl
   rotate_left
   ·simp only [Act.put,List.setIfInBounds_toArray,List.set_cons_zero,List.set_cons_succ,i64_w,i32_w]
    rfl
   refine one_ (i:=5) (N:=some 17) #[true,true,true,true,true,true,false] rfl rfl (by kernel_rfl) (by decide) (fun K hK=>?_)
   refine goes_ Try.func97 (by kernel_rfl) rfl #[.agg #[.int .i64 a0_0,.bool a0_1],.agg #[.int .i64 ((rd_T63 l1 x5_1).f0),.int .i64 ((rd_T63 l1 x5_1).f1),.int .i64 ((rd_T63 l1 x5_1).f2)]] (by rfl) rfl rfl (by (try simp only [List.map_toArray,List.map_cons,List.map_nil]);first|done|rfl|(simp only [List.length_drop,List.length_take];rfl)) ?_
   with_reducible refine (spec_l7Carrier.calls a0_0 a0_1 ((rd_T63 l1 x5_1).f0) ((rd_T63 l1 x5_1).f1) ((rd_T63 l1 x5_1).f2) false _ A6.out).mono ?_
   rintro e w11 ⟨rfl,hb⟩
   refine ⟨_,rfl,?_⟩
   have n0_:=Aside0.mk (blk_below (g:=gb144) (o:=.cells #[.int .i64 a0_0,.bool a0_1] 28 (0,0)) (by (with_reducible repeat (first|apply blk_drewN|apply blk_drew|apply blk_alloc));exact BK144.out) hb)
   have n1_:=Aside0.mk (below_step (by repeat (first|(with_reducible first|exact HB.out|apply below_alloc|apply pw_below_drewN|apply below_drew1|refine below_set ?_ GE144.out)|exact HB.out)) hb)
   clear BK144
   clear HB
   have BK144:=n0_
   have HB:=n1_
   clear n0_ n1_
   (try clear hb)
   (try clear hb2)
   (try clear hk)
   (try clear hi)
   refine hK.out _ _ ⟨(blk_cell BK144.out 0).trans rfl,(blk_cell BK144.out 1).trans rfl,((HB.out.cell (World.block_lt_of_cell? w _ hw145_0)).trans hw145_0),((HB.out.cell (World.block_lt_of_cell? w _ hw145_1)).trans hw145_1),((HB.out.cell (World.block_lt_of_cell? w _ hw145_2)).trans hw145_2)⟩ (fun hHeld=>?_)
   clear hK K
   refine norm_ (a':=?_) ?_ ?_
   rotate_left
   ·show Act.put _ (some 17) _ = _
    simp only [Act.put,List.setIfInBounds_toArray,List.set_cons_zero,List.set_cons_succ,i64_w,i32_w]
    rfl
   refine pure_ (i:=6) (N:=some 18) (v:=?_) (a':=?_) #[true,true,true,true,true,true,true] rfl rfl (by kernel_rfl) (fun _ _ _ h=>h) (Or.inl ⟨by rfl,?_⟩) ?_ ?_
   rotate_left
   ·intro w'
    go_simp
    with_reducible rfl
   rotate_left
   ·simp only [Act.put,List.setIfInBounds_toArray,List.set_cons_zero,List.set_cons_succ,i64_w,i32_w]
    rfl
   refine done_ (by kernel_rfl) ?_
   try go_wp2
   go_ret
   exact ⟨by first|rfl|(simp [errW_none,errW_some] <;> rfl)|(simp [*,errW_none,errW_some] <;> rfl),by repeat (first|(with_reducible first|exact HB.out|apply below_alloc|apply pw_below_drewN|apply below_drew1|refine below_set ?_ GE144.out)|exact HB.out)⟩
  subst c7
  have H1 : (spec_l7Carriers.l0 k1 l1 (wrap64 (x5_1 + 1)) a0_0 a0_1) = some r:=by rw [if_pos rfl] at H;exact H
  clear H
  have H:=H1
  clear H1
  have H':=Aside0.mk H
  clear H
  try go_wp2
  have n0_:=Aside0.mk (blk_drew BK144.out)
  have n1_:=Aside0.mk (below_drew1 HB.out)
  clear BK144
  clear HB
  have BK144:=n0_
  have HB:=n1_
  clear n0_ n1_
  have p145 : 0 ≤ (x5_1 : Int):=of_decide_eq_true (by first|(with_reducible assumption)|assumption)
  have q145 : x5_1 < (l1.length : Int):=of_decide_eq_true (by first|(with_reducible assumption)|assumption)
  obtain ⟨ad145,e145,hx145_0,hx145_1,hx145_2⟩:=at_T63 HR1.out x5_1 p145 q145
  have hw145_2:=hx145_2
  have hw145_1:=hx145_1
  have hw145_0:=hx145_0
  cases e145
  replace hx145_0:=(HB.out.cell (World.block_lt_of_cell? w _ hx145_0)).trans hx145_0
  replace hx145_1:=(HB.out.cell (World.block_lt_of_cell? w _ hx145_1)).trans hx145_1
  replace hx145_2:=(HB.out.cell (World.block_lt_of_cell? w _ hx145_2)).trans hx145_2
  replace p145:=eq_true p145
  replace q145:=eq_true q145
  refine start_ (n:=7) (S:=fun w'=>w'.cell? ⟨gb144,0,none⟩ = some (.int .i64 a0_0) ∧ w'.cell? ⟨gb144,1,none⟩ = some (.bool a0_1) ∧ w'.cell? (ad145.add ((x5_1).toNat * 3)) = some (.int .i64 ((rd_T63 l1 x5_1).f0)) ∧ w'.cell? ⟨(ad145.add ((x5_1).toNat * 3)).block,(ad145.add ((x5_1).toNat * 3)).off + 1,none⟩ = some (.int .i64 ((rd_T63 l1 x5_1).f1)) ∧ w'.cell? ⟨(ad145.add ((x5_1).toNat * 3)).block,(ad145.add ((x5_1).toNat * 3)).off + 2,none⟩ = some (.int .i64 ((rd_T63 l1 x5_1).f2))) (ds:=[]) #[false,false,false,false,false,false,false] (by kernel_rfl) rfl rfl ⟨(blk_cell BK144.out 0).trans rfl,(blk_cell BK144.out 1).trans rfl,((HB.out.cell (World.block_lt_of_cell? w _ hw145_0)).trans hw145_0),((HB.out.cell (World.block_lt_of_cell? w _ hw145_1)).trans hw145_1),((HB.out.cell (World.block_lt_of_cell? w _ hw145_2)).trans hw145_2)⟩ (fun hHeld=>?_)
  generalize wr.drew = w8 at BK144 HB hx145_0 hx145_1 hx145_2 hHeld ⊢
  refine pure_ (i:=1) (N:=some 13) (v:=?_) (a':=?_) #[false,true,false,false,false,false,false] rfl rfl (by kernel_rfl) (fun _ _ _ h=>h) (Or.inl ⟨by rfl,?_⟩) ?_ ?_
  rotate_left
  ·intro w'
   go_simp
   with_reducible rfl
  rotate_left
  ·simp only [Act.put,List.setIfInBounds_toArray,List.set_cons_zero,List.set_cons_succ,i64_w,i32_w]
   rfl
  refine pure_ (i:=2) (N:=some 14) (v:=?_) (a':=?_) #[false,true,true,false,false,false,false] rfl rfl (by kernel_rfl) (fun _ _ _ h=>h) (Or.inl ⟨by rfl,?_⟩) ?_ ?_
  rotate_left
  ·intro w'
   go_simp
   with_reducible rfl
  rotate_left
  ·simp only [Act.put,List.setIfInBounds_toArray,List.set_cons_zero,List.set_cons_succ,i64_w,i32_w]
   rfl
  refine pure_ (i:=3) (N:=some 15) (v:=?_) (a':=?_) #[false,true,true,true,false,false,false] rfl rfl (by kernel_rfl) (fun _ _ _ h=>h) (Or.inl ⟨by rfl,?_⟩) ?_ ?_
  rotate_left
  ·intro w'
   go_simp
   with_reducible rfl
  rotate_left
  ·simp only [Act.put,List.setIfInBounds_toArray,List.set_cons_zero,List.set_cons_succ,i64_w,i32_w]
   rfl
  refine take_ (i:=0) (N:=some 12) (v:=?_) (a':=?_) #[true,true,true,true,false,false,false] rfl rfl (by kernel_rfl) (fun _ _ _ h=>h) (Or.inl ⟨by rfl,?_⟩) hHeld ?_ ?_
  rotate_left
  ·rintro w' ⟨s0,s1,s2,s3,s4⟩
   go_simp
   with_reducible rfl
  rotate_left
  ·simp only [Act.put,List.setIfInBounds_toArray,List.set_cons_zero,List.set_cons_succ,i64_w,i32_w]
   rfl
  refine take_ (i:=4) (N:=some 16) (v:=?_) (a':=?_) #[true,true,true,true,true,false,false] rfl rfl (by kernel_rfl) (fun _ _ _ h=>h) (Or.inl ⟨by rfl,?_⟩) hHeld ?_ ?_
  rotate_left
  ·rintro w' ⟨s0,s1,s2,s3,s4⟩
   go_simp
   with_reducible rfl
  rotate_left
  ·simp only [Act.put,List.setIfInBounds_toArray,List.set_cons_zero,List.set_cons_succ,i64_w,i32_w]
   rfl
  refine one_ (i:=5) (N:=some 17) #[true,true,true,true,true,true,false] rfl rfl (by kernel_rfl) (by decide) (fun K hK=>?_)
  refine goes_ Try.func97 (by kernel_rfl) rfl #[.agg #[.int .i64 a0_0,.bool a0_1],.agg #[.int .i64 ((rd_T63 l1 x5_1).f0),.int .i64 ((rd_T63 l1 x5_1).f1),.int .i64 ((rd_T63 l1 x5_1).f2)]] (by rfl) rfl rfl (by (try simp only [List.map_toArray,List.map_cons,List.map_nil]);first|done|rfl|(simp only [List.length_drop,List.length_take];rfl)) ?_
  with_reducible refine (spec_l7Carrier.calls a0_0 a0_1 ((rd_T63 l1 x5_1).f0) ((rd_T63 l1 x5_1).f1) ((rd_T63 l1 x5_1).f2) true _ A6.out).mono ?_
  rintro e w9 ⟨rfl,hb⟩
  refine ⟨_,rfl,?_⟩
  have n0_:=Aside0.mk (blk_below (g:=gb144) (o:=.cells #[.int .i64 a0_0,.bool a0_1] 28 (0,0)) (by (with_reducible repeat (first|apply blk_drewN|apply blk_drew|apply blk_alloc));exact BK144.out) hb)
  have n1_:=Aside0.mk (below_step (by repeat (first|(with_reducible first|exact HB.out|apply below_alloc|apply pw_below_drewN|apply below_drew1|refine below_set ?_ GE144.out)|exact HB.out)) hb)
  clear BK144
  clear HB
  have BK144:=n0_
  have HB:=n1_
  clear n0_ n1_
  (try clear hb)
  (try clear hb2)
  (try clear hk)
  (try clear hi)
  refine hK.out _ _ ⟨(blk_cell BK144.out 0).trans rfl,(blk_cell BK144.out 1).trans rfl,((HB.out.cell (World.block_lt_of_cell? w _ hw145_0)).trans hw145_0),((HB.out.cell (World.block_lt_of_cell? w _ hw145_1)).trans hw145_1),((HB.out.cell (World.block_lt_of_cell? w _ hw145_2)).trans hw145_2)⟩ (fun hHeld=>?_)
  clear hK K
  refine norm_ (a':=?_) ?_ ?_
  rotate_left
  ·show Act.put _ (some 17) _ = _
   simp only [Act.put,List.setIfInBounds_toArray,List.set_cons_zero,List.set_cons_succ,i64_w,i32_w]
   rfl
  refine pure_ (i:=6) (N:=some 18) (v:=?_) (a':=?_) #[true,true,true,true,true,true,true] rfl rfl (by kernel_rfl) (fun _ _ _ h=>h) (Or.inl ⟨by rfl,?_⟩) ?_ ?_
  rotate_left
  ·intro w'
   go_simp
   with_reducible rfl
  rotate_left
  ·simp only [Act.put,List.setIfInBounds_toArray,List.set_cons_zero,List.set_cons_succ,i64_w,i32_w]
   rfl
  refine done_ (by kernel_rfl) ?_
  try go_wp2
  go_roundg k1
  case measure=>have:=HK1.out;omega
  case rel=>exact ⟨(wrap64 (x5_1 + 1)),(by first|rfl|(simp;done)|(simp [*];done)),H',⟨by have:=HK1.out;omega⟩,⟨by (with_reducible repeat (first|apply blk_drewN|apply blk_drew|apply blk_alloc));exact BK144.out⟩,⟨by repeat (first|(with_reducible first|exact HB.out|apply below_alloc|apply pw_below_drewN|apply below_drew1|refine below_set ?_ GE144.out)|exact HB.out)⟩⟩

/-! ### spec_l2Place: function 78 -/
def spec_l2Place.f (a0_0 : Int) (a0_1 : Bool) (a1 : Int) : Option (Bool):=(spec_l2Road.f a0_0 a0_1).bind fun t149=>(if t149 = true then ((spec_l1In.f a1 0 (wrap64 (a0_0 - 1))).bind fun t150=>(some t150)) else (some false))
set_option maxHeartbeats 8000000 in
set_option maxRecDepth 100000 in
theorem spec_l2Place.calls (a0_0 : Int) (a0_1 : Bool) (a1 : Int) (r : Bool) (w : World) (h : spec_l2Place.f a0_0 a0_1 a1 = some r) :
  Calls Try.prog 78 #[.agg #[.int .i64 a0_0,.bool a0_1],.int .i64 a1] w fun e w'=>e = .returned (.bool r) ∧ Below w.heap.size w w':=by
 have hu28:=Try.underlying28
 have HB:=Aside0.mk (Below.refl w.heap.size w)
 have H : ((spec_l2Road.f a0_0 a0_1).bind fun t149=>(if t149 = true then ((spec_l1In.f a1 0 (wrap64 (a0_0 - 1))).bind fun t150=>(some t150)) else (some false))) = some r:=h
 clear h
 replace H:=Option.bind_eq_some_iff.mp H
 obtain ⟨t149,A30,H⟩:=H
 replace H : (if t149 = true then ((spec_l1In.f a1 0 (wrap64 (a0_0 - 1))).bind fun t150=>(some t150)) else (some false)) = some r:=H
 have A3:=Aside0.mk A30
 clear A30
 by_cases c4 : t149 = true
 rotate_left
 ·replace c4:=Bool.eq_false_iff.mpr c4
  subst c4
  have H1 : (some false) = some r:=by rw [if_neg (show ¬ (false = true) by decide)] at H;exact H
  clear H
  have H:=H1
  clear H1
  obtain rfl:=Option.some.inj H
  go_enter Try.func78,Try.ntmps78
  go_wp2_with (first|((with_reducible refine gate_dst (N:=2) rfl ?_);refine box_event ?hg (N:=2) ?hd (cs:=#[.int .i64 a0_0,.bool a0_1]) (t:=28) ?hr ?_;(case hd=>rfl);(case hg=>rfl);(case hr=>first|(go_simp;done)|(go_simp;rfl));intro gb148 hg w10 hbox hb;have n0_:=Aside0.mk (below_step (by repeat (first|(with_reducible first|exact HB.out|apply below_alloc|apply pw_below_drewN|apply below_drew1)|exact HB.out)) hb);have n1_:=Aside0.mk (hbox);have n2_:=Aside0.mk ((by rw [hg];exact (below_size (by repeat (first|(with_reducible first|exact HB.out|apply below_alloc|apply pw_below_drewN|apply below_drew1)|exact HB.out))) : w.heap.size ≤ gb148));have n3_:=Aside0.mk ((by rw [hg];exact (below_size (by repeat (first|(with_reducible first|exact HB.out|apply below_alloc|apply pw_below_drewN|apply below_drew1)|exact HB.out))) : w.heap.size ≤ gb148));clear HB;have HB:=n0_;have BK148:=n1_;have GW148:=n2_;have GE148:=n3_;clear n0_ n1_ n2_ n3_;clear hb hbox hg;have hcz11_0 : w10.cell? ⟨gb148,0,none⟩ = some (.int .i64 a0_0):=(blk_cell BK148.out 0).trans rfl;have hcz11_1 : w10.cell? ⟨gb148,1,none⟩ = some (.bool a0_1):=(blk_cell BK148.out 1).trans rfl;have hfz11_0:=blk_frozen BK148.out 0;have hfz11_1:=blk_frozen BK148.out 1)|((with_reducible refine gate_callee (f:=99) rfl ?_);refine goesL_ (some 6) rfl rfl Try.func99 (by kernel_rfl) rfl #[.agg #[.int .i64 a0_0,.bool a0_1]] rfl (by (try simp only [List.map_toArray,List.map_cons,List.map_nil]);first|done|rfl|(simp only [List.length_drop,List.length_take];rfl)) ?_;(with_reducible refine (spec_l2Road.calls a0_0 a0_1 false _ A3.out).mono ?_);rintro e w12 ⟨rfl,hb⟩;refine ⟨_,rfl,?_⟩;have n0_:=Aside0.mk (blk_below (g:=gb148) (o:=.cells #[.int .i64 a0_0,.bool a0_1] 28 (0,0)) (by (with_reducible repeat (first|apply blk_drewN|apply blk_drew|apply blk_alloc));exact BK148.out) hb);have n1_:=Aside0.mk (below_step (by repeat (first|(with_reducible first|exact HB.out|apply below_alloc|apply pw_below_drewN|apply below_drew1|refine below_set ?_ GE148.out)|exact HB.out)) hb);clear BK148;clear HB;have BK148:=n0_;have HB:=n1_;clear n0_ n1_;(try clear hb);(try clear hb2);(try clear hk);(try clear hi)))
  go_ret
  exact ⟨by first|rfl|(simp [errW_none,errW_some] <;> rfl)|(simp [*,errW_none,errW_some] <;> rfl),by repeat (first|(with_reducible first|exact HB.out|apply below_alloc|apply pw_below_drewN|apply below_drew1|refine below_set ?_ GE148.out)|exact HB.out)⟩
 subst c4
 have H1 : ((spec_l1In.f a1 0 (wrap64 (a0_0 - 1))).bind fun t150=>(some t150)) = some r:=by rw [if_pos rfl] at H;exact H
 clear H
 have H:=H1
 clear H1
 replace H:=Option.bind_eq_some_iff.mp H
 obtain ⟨t150,A50,H⟩:=H
 replace H : (some t150) = some r:=H
 have A5:=Aside0.mk A50
 clear A50
 obtain rfl:=Option.some.inj H
 go_enter Try.func78,Try.ntmps78
 go_wp2_with (first|((with_reducible refine gate_dst (N:=2) rfl ?_);refine box_event ?hg (N:=2) ?hd (cs:=#[.int .i64 a0_0,.bool a0_1]) (t:=28) ?hr ?_;(case hd=>rfl);(case hg=>rfl);(case hr=>first|(go_simp;done)|(go_simp;rfl));intro gb148 hg w6 hbox hb;have n0_:=Aside0.mk (below_step (by repeat (first|(with_reducible first|exact HB.out|apply below_alloc|apply pw_below_drewN|apply below_drew1)|exact HB.out)) hb);have n1_:=Aside0.mk (hbox);have n2_:=Aside0.mk ((by rw [hg];exact (below_size (by repeat (first|(with_reducible first|exact HB.out|apply below_alloc|apply pw_below_drewN|apply below_drew1)|exact HB.out))) : w.heap.size ≤ gb148));have n3_:=Aside0.mk ((by rw [hg];exact (below_size (by repeat (first|(with_reducible first|exact HB.out|apply below_alloc|apply pw_below_drewN|apply below_drew1)|exact HB.out))) : w.heap.size ≤ gb148));clear HB;have HB:=n0_;have BK148:=n1_;have GW148:=n2_;have GE148:=n3_;clear n0_ n1_ n2_ n3_;clear hb hbox hg;have hcz7_0 : w6.cell? ⟨gb148,0,none⟩ = some (.int .i64 a0_0):=(blk_cell BK148.out 0).trans rfl;have hcz7_1 : w6.cell? ⟨gb148,1,none⟩ = some (.bool a0_1):=(blk_cell BK148.out 1).trans rfl;have hfz7_0:=blk_frozen BK148.out 0;have hfz7_1:=blk_frozen BK148.out 1)|((with_reducible refine gate_callee (f:=99) rfl ?_);refine goesL_ (some 6) rfl rfl Try.func99 (by kernel_rfl) rfl #[.agg #[.int .i64 a0_0,.bool a0_1]] rfl (by (try simp only [List.map_toArray,List.map_cons,List.map_nil]);first|done|rfl|(simp only [List.length_drop,List.length_take];rfl)) ?_;(with_reducible refine (spec_l2Road.calls a0_0 a0_1 true _ A3.out).mono ?_);rintro e w8 ⟨rfl,hb⟩;refine ⟨_,rfl,?_⟩;have n0_:=Aside0.mk (blk_below (g:=gb148) (o:=.cells #[.int .i64 a0_0,.bool a0_1] 28 (0,0)) (by (with_reducible repeat (first|apply blk_drewN|apply blk_drew|apply blk_alloc));exact BK148.out) hb);have n1_:=Aside0.mk (below_step (by repeat (first|(with_reducible first|exact HB.out|apply below_alloc|apply pw_below_drewN|apply below_drew1|refine below_set ?_ GE148.out)|exact HB.out)) hb);clear BK148;clear HB;have BK148:=n0_;have HB:=n1_;clear n0_ n1_;(try clear hb);(try clear hb2);(try clear hk);(try clear hi);have hcz9_0 : w8.cell? ⟨gb148,0,none⟩ = some (.int .i64 a0_0):=(blk_cell BK148.out 0).trans rfl;have hcz9_1 : w8.cell? ⟨gb148,1,none⟩ = some (.bool a0_1):=(blk_cell BK148.out 1).trans rfl;have hfz9_0:=blk_frozen BK148.out 0;have hfz9_1:=blk_frozen BK148.out 1)|(go_at_call 100;(try simp only [Go.IntWalk.i64_left]);(with_reducible refine (spec_l1In.calls a1 0 (wrap64 (a0_0 - 1)) t150 _ A5.out).mono ?_);rintro e w' ⟨rfl,⟨nd,rfl⟩⟩))
 go_ret
 exact ⟨by first|rfl|(simp [errW_none,errW_some] <;> rfl)|(simp [*,errW_none,errW_some] <;> rfl),by repeat (first|(with_reducible first|exact HB.out|apply below_alloc|apply pw_below_drewN|apply below_drew1|refine below_set ?_ GE148.out)|exact HB.out)⟩

/-! ### spec_l7Asks: function 55 -/
def spec_l7Asks.f (k : Nat) (a0_0 : Int) (a0_1 : Bool) (l1 : List (S63)) (a2 : Int) (a3 : Int) : Option (Bool):=(spec_l7Carriers.f k a0_0 a0_1 l1).bind fun t152=>(if t152 = true then ((spec_l2Place.f a0_0 a0_1 a3).bind fun t153=>(if t153 = true then ((spec_l1In.f a2 0 a3).bind fun t154=>(some t154)) else (some false))) else (some false))
theorem spec_l7Asks.mono : ∀ a0 a1 a2 a3 a4 k,LeO (spec_l7Asks.f k a0 a1 a2 a3 a4) (spec_l7Asks.f (k + 1) a0 a1 a2 a3 a4):=by
 intro a0 a1 a2 a3 a4 k
 unfold spec_l7Asks.f
 repeat' first
   | (with_reducible exact spec_l7Carriers.mono _ _ _ _)
   | (with_reducible exact LeO.refl _)
   | (with_reducible exact LeO.none _)
   | (with_reducible refine LeO.ite ?_ ?_)
   | (with_reducible refine LeO.bind ?_ (fun _=>?_))
   | exact spec_l7Carriers.mono _ _ _ _
   | exact LeO.none _
   | refine LeO.ite ?_ ?_
   | refine LeO.bind ?_ (fun _=>?_)
set_option maxHeartbeats 8000000 in
set_option maxRecDepth 100000 in
theorem spec_l7Asks.calls (k : Nat) (a0_0 : Int) (a0_1 : Bool) (A1 : Option Addr) (c1 : Nat) (l1 : List (S63)) (a2 : Int) (a3 : Int) (r : Bool) (w : World) (hr1 : Kd.C k63 w A1 l1.length l1) (hc1 : l1.length ≤ c1) (h : spec_l7Asks.f k a0_0 a0_1 l1 a2 a3 = some r) :
  Calls Try.prog 55 #[.agg #[.int .i64 a0_0,.bool a0_1],.slice A1 l1.length c1,.int .i64 a2,.int .i64 a3] w fun e w'=>e = .returned (.bool r) ∧ Below w.heap.size w w':=by
 have hu28:=Try.underlying28
 have HR1:=Aside0.mk hr1
 have HC1:=Aside0.mk hc1
 clear hr1 hc1
 have HB:=Aside0.mk (Below.refl w.heap.size w)
 have H : ((spec_l7Carriers.f k a0_0 a0_1 l1).bind fun t152=>(if t152 = true then ((spec_l2Place.f a0_0 a0_1 a3).bind fun t153=>(if t153 = true then ((spec_l1In.f a2 0 a3).bind fun t154=>(some t154)) else (some false))) else (some false))) = some r:=h
 clear h
 replace H:=Option.bind_eq_some_iff.mp H
 obtain ⟨t152,A50,H⟩:=H
 replace H : (if t152 = true then ((spec_l2Place.f a0_0 a0_1 a3).bind fun t153=>(if t153 = true then ((spec_l1In.f a2 0 a3).bind fun t154=>(some t154)) else (some false))) else (some false)) = some r:=H
 have A5:=Aside0.mk A50
 clear A50
 by_cases c6 : t152 = true
 rotate_left
 ·replace c6:=Bool.eq_false_iff.mpr c6
  subst c6
  have H1 : (some false) = some r:=by rw [if_neg (show ¬ (false = true) by decide)] at H;exact H
  clear H
  have H:=H1
  clear H1
  obtain rfl:=Option.some.inj H
  go_enter Try.func55,Try.ntmps55
  go_wp2_with (first|((with_reducible refine gate_dst (N:=4) rfl ?_);refine box_event ?hg (N:=4) ?hd (cs:=#[.int .i64 a0_0,.bool a0_1]) (t:=28) ?hr ?_;(case hd=>rfl);(case hg=>rfl);(case hr=>first|(go_simp;done)|(go_simp;rfl));intro gb151 hg w20 hbox hb;have n0_:=Aside0.mk (below_step (by repeat (first|(with_reducible first|exact HB.out|apply below_alloc|apply pw_below_drewN|apply below_drew1)|exact HB.out)) hb);have n1_:=Aside0.mk (hbox);have n2_:=Aside0.mk ((by rw [hg];exact (below_size (by repeat (first|(with_reducible first|exact HB.out|apply below_alloc|apply pw_below_drewN|apply below_drew1)|exact HB.out))) : w.heap.size ≤ gb151));have n3_:=Aside0.mk ((by rw [hg];exact (below_size (by repeat (first|(with_reducible first|exact HB.out|apply below_alloc|apply pw_below_drewN|apply below_drew1)|exact HB.out))) : w.heap.size ≤ gb151));clear HB;have HB:=n0_;have BK151:=n1_;have GW151:=n2_;have GE151:=n3_;clear n0_ n1_ n2_ n3_;clear hb hbox hg;have hcz21_0 : w20.cell? ⟨gb151,0,none⟩ = some (.int .i64 a0_0):=(blk_cell BK151.out 0).trans rfl;have hcz21_1 : w20.cell? ⟨gb151,1,none⟩ = some (.bool a0_1):=(blk_cell BK151.out 1).trans rfl;have hfz21_0:=blk_frozen BK151.out 0;have hfz21_1:=blk_frozen BK151.out 1)|((with_reducible refine gate_callee (f:=77) rfl ?_);refine goesL_ (some 11) rfl rfl Try.func77 (by kernel_rfl) rfl #[.agg #[.int .i64 a0_0,.bool a0_1],.slice A1 l1.length c1] rfl (by (try simp only [List.map_toArray,List.map_cons,List.map_nil]);first|done|rfl|(simp only [List.length_drop,List.length_take];rfl)) ?_;(with_reducible refine (spec_l7Carriers.calls k a0_0 a0_1 _ _ l1 false _ ?side1 ?side2 A5.out).mono ?_);(case side1=>repeat (first|exact (C_below HR1.out HB.out)|(with_reducible refine C_alloc ?_ _)|(with_reducible refine C_drewN ?_ _)|(with_reducible refine C_drew ?_)));(case side2=>exact HC1.out);rintro e w22 ⟨rfl,hb⟩;refine ⟨_,rfl,?_⟩;have n0_:=Aside0.mk (blk_below (g:=gb151) (o:=.cells #[.int .i64 a0_0,.bool a0_1] 28 (0,0)) (by (with_reducible repeat (first|apply blk_drewN|apply blk_drew|apply blk_alloc));exact BK151.out) hb);have n1_:=Aside0.mk (below_step (by repeat (first|(with_reducible first|exact HB.out|apply below_alloc|apply pw_below_drewN|apply below_drew1|refine below_set ?_ GE151.out)|exact HB.out)) hb);clear BK151;clear HB;have BK151:=n0_;have HB:=n1_;clear n0_ n1_;(try clear hb);(try clear hb2);(try clear hk);(try clear hi)))
  go_ret
  exact ⟨by first|rfl|(simp [errW_none,errW_some] <;> rfl)|(simp [*,errW_none,errW_some] <;> rfl),by repeat (first|(with_reducible first|exact HB.out|apply below_alloc|apply pw_below_drewN|apply below_drew1|refine below_set ?_ GE151.out)|exact HB.out)⟩
 subst c6
 have H1 : ((spec_l2Place.f a0_0 a0_1 a3).bind fun t153=>(if t153 = true then ((spec_l1In.f a2 0 a3).bind fun t154=>(some t154)) else (some false))) = some r:=by rw [if_pos rfl] at H;exact H
 clear H
 have H:=H1
 clear H1
 replace H:=Option.bind_eq_some_iff.mp H
 obtain ⟨t153,A70,H⟩:=H
 replace H : (if t153 = true then ((spec_l1In.f a2 0 a3).bind fun t154=>(some t154)) else (some false)) = some r:=H
 have A7:=Aside0.mk A70
 clear A70
 by_cases c8 : t153 = true
 rotate_left
 ·replace c8:=Bool.eq_false_iff.mpr c8
  subst c8
  have H1 : (some false) = some r:=by rw [if_neg (show ¬ (false = true) by decide)] at H;exact H
  clear H
  have H:=H1
  clear H1
  obtain rfl:=Option.some.inj H
  go_enter Try.func55,Try.ntmps55
  go_wp2_with (first|((with_reducible refine gate_dst (N:=4) rfl ?_);refine box_event ?hg (N:=4) ?hd (cs:=#[.int .i64 a0_0,.bool a0_1]) (t:=28) ?hr ?_;(case hd=>rfl);(case hg=>rfl);(case hr=>first|(go_simp;done)|(go_simp;rfl));intro gb151 hg w15 hbox hb;have n0_:=Aside0.mk (below_step (by repeat (first|(with_reducible first|exact HB.out|apply below_alloc|apply pw_below_drewN|apply below_drew1)|exact HB.out)) hb);have n1_:=Aside0.mk (hbox);have n2_:=Aside0.mk ((by rw [hg];exact (below_size (by repeat (first|(with_reducible first|exact HB.out|apply below_alloc|apply pw_below_drewN|apply below_drew1)|exact HB.out))) : w.heap.size ≤ gb151));have n3_:=Aside0.mk ((by rw [hg];exact (below_size (by repeat (first|(with_reducible first|exact HB.out|apply below_alloc|apply pw_below_drewN|apply below_drew1)|exact HB.out))) : w.heap.size ≤ gb151));clear HB;have HB:=n0_;have BK151:=n1_;have GW151:=n2_;have GE151:=n3_;clear n0_ n1_ n2_ n3_;clear hb hbox hg;have hcz16_0 : w15.cell? ⟨gb151,0,none⟩ = some (.int .i64 a0_0):=(blk_cell BK151.out 0).trans rfl;have hcz16_1 : w15.cell? ⟨gb151,1,none⟩ = some (.bool a0_1):=(blk_cell BK151.out 1).trans rfl;have hfz16_0:=blk_frozen BK151.out 0;have hfz16_1:=blk_frozen BK151.out 1)|((with_reducible refine gate_callee (f:=77) rfl ?_);refine goesL_ (some 11) rfl rfl Try.func77 (by kernel_rfl) rfl #[.agg #[.int .i64 a0_0,.bool a0_1],.slice A1 l1.length c1] rfl (by (try simp only [List.map_toArray,List.map_cons,List.map_nil]);first|done|rfl|(simp only [List.length_drop,List.length_take];rfl)) ?_;(with_reducible refine (spec_l7Carriers.calls k a0_0 a0_1 _ _ l1 true _ ?side1 ?side2 A5.out).mono ?_);(case side1=>repeat (first|exact (C_below HR1.out HB.out)|(with_reducible refine C_alloc ?_ _)|(with_reducible refine C_drewN ?_ _)|(with_reducible refine C_drew ?_)));(case side2=>exact HC1.out);rintro e w17 ⟨rfl,hb⟩;refine ⟨_,rfl,?_⟩;have n0_:=Aside0.mk (blk_below (g:=gb151) (o:=.cells #[.int .i64 a0_0,.bool a0_1] 28 (0,0)) (by (with_reducible repeat (first|apply blk_drewN|apply blk_drew|apply blk_alloc));exact BK151.out) hb);have n1_:=Aside0.mk (below_step (by repeat (first|(with_reducible first|exact HB.out|apply below_alloc|apply pw_below_drewN|apply below_drew1|refine below_set ?_ GE151.out)|exact HB.out)) hb);clear BK151;clear HB;have BK151:=n0_;have HB:=n1_;clear n0_ n1_;(try clear hb);(try clear hb2);(try clear hk);(try clear hi);have hcz18_0 : w17.cell? ⟨gb151,0,none⟩ = some (.int .i64 a0_0):=(blk_cell BK151.out 0).trans rfl;have hcz18_1 : w17.cell? ⟨gb151,1,none⟩ = some (.bool a0_1):=(blk_cell BK151.out 1).trans rfl;have hfz18_0:=blk_frozen BK151.out 0;have hfz18_1:=blk_frozen BK151.out 1)|(go_at_call 78;(with_reducible refine (spec_l2Place.calls a0_0 a0_1 a3 false _ A7.out).mono ?_);rintro e w19 ⟨rfl,hb⟩;have n0_:=Aside0.mk (blk_below (g:=gb151) (o:=.cells #[.int .i64 a0_0,.bool a0_1] 28 (0,0)) (by (with_reducible repeat (first|apply blk_drewN|apply blk_drew|apply blk_alloc));exact BK151.out) hb);have n1_:=Aside0.mk (below_step (by repeat (first|(with_reducible first|exact HB.out|apply below_alloc|apply pw_below_drewN|apply below_drew1|refine below_set ?_ GE151.out)|exact HB.out)) hb);clear BK151;clear HB;have BK151:=n0_;have HB:=n1_;clear n0_ n1_;(try clear hb);(try clear hb2);(try clear hk);(try clear hi)))
  go_ret
  exact ⟨by first|rfl|(simp [errW_none,errW_some] <;> rfl)|(simp [*,errW_none,errW_some] <;> rfl),by repeat (first|(with_reducible first|exact HB.out|apply below_alloc|apply pw_below_drewN|apply below_drew1|refine below_set ?_ GE151.out)|exact HB.out)⟩
 subst c8
 have H1 : ((spec_l1In.f a2 0 a3).bind fun t154=>(some t154)) = some r:=by rw [if_pos rfl] at H;exact H
 clear H
 have H:=H1
 clear H1
 replace H:=Option.bind_eq_some_iff.mp H
 obtain ⟨t154,A90,H⟩:=H
 replace H : (some t154) = some r:=H
 have A9:=Aside0.mk A90
 clear A90
 obtain rfl:=Option.some.inj H
 go_enter Try.func55,Try.ntmps55
 go_wp2_with (first|((with_reducible refine gate_dst (N:=4) rfl ?_);refine box_event ?hg (N:=4) ?hd (cs:=#[.int .i64 a0_0,.bool a0_1]) (t:=28) ?hr ?_;(case hd=>rfl);(case hg=>rfl);(case hr=>first|(go_simp;done)|(go_simp;rfl));intro gb151 hg w10 hbox hb;have n0_:=Aside0.mk (below_step (by repeat (first|(with_reducible first|exact HB.out|apply below_alloc|apply pw_below_drewN|apply below_drew1)|exact HB.out)) hb);have n1_:=Aside0.mk (hbox);have n2_:=Aside0.mk ((by rw [hg];exact (below_size (by repeat (first|(with_reducible first|exact HB.out|apply below_alloc|apply pw_below_drewN|apply below_drew1)|exact HB.out))) : w.heap.size ≤ gb151));have n3_:=Aside0.mk ((by rw [hg];exact (below_size (by repeat (first|(with_reducible first|exact HB.out|apply below_alloc|apply pw_below_drewN|apply below_drew1)|exact HB.out))) : w.heap.size ≤ gb151));clear HB;have HB:=n0_;have BK151:=n1_;have GW151:=n2_;have GE151:=n3_;clear n0_ n1_ n2_ n3_;clear hb hbox hg;have hcz11_0 : w10.cell? ⟨gb151,0,none⟩ = some (.int .i64 a0_0):=(blk_cell BK151.out 0).trans rfl;have hcz11_1 : w10.cell? ⟨gb151,1,none⟩ = some (.bool a0_1):=(blk_cell BK151.out 1).trans rfl;have hfz11_0:=blk_frozen BK151.out 0;have hfz11_1:=blk_frozen BK151.out 1)|((with_reducible refine gate_callee (f:=77) rfl ?_);refine goesL_ (some 11) rfl rfl Try.func77 (by kernel_rfl) rfl #[.agg #[.int .i64 a0_0,.bool a0_1],.slice A1 l1.length c1] rfl (by (try simp only [List.map_toArray,List.map_cons,List.map_nil]);first|done|rfl|(simp only [List.length_drop,List.length_take];rfl)) ?_;(with_reducible refine (spec_l7Carriers.calls k a0_0 a0_1 _ _ l1 true _ ?side1 ?side2 A5.out).mono ?_);(case side1=>repeat (first|exact (C_below HR1.out HB.out)|(with_reducible refine C_alloc ?_ _)|(with_reducible refine C_drewN ?_ _)|(with_reducible refine C_drew ?_)));(case side2=>exact HC1.out);rintro e w12 ⟨rfl,hb⟩;refine ⟨_,rfl,?_⟩;have n0_:=Aside0.mk (blk_below (g:=gb151) (o:=.cells #[.int .i64 a0_0,.bool a0_1] 28 (0,0)) (by (with_reducible repeat (first|apply blk_drewN|apply blk_drew|apply blk_alloc));exact BK151.out) hb);have n1_:=Aside0.mk (below_step (by repeat (first|(with_reducible first|exact HB.out|apply below_alloc|apply pw_below_drewN|apply below_drew1|refine below_set ?_ GE151.out)|exact HB.out)) hb);clear BK151;clear HB;have BK151:=n0_;have HB:=n1_;clear n0_ n1_;(try clear hb);(try clear hb2);(try clear hk);(try clear hi);have hcz13_0 : w12.cell? ⟨gb151,0,none⟩ = some (.int .i64 a0_0):=(blk_cell BK151.out 0).trans rfl;have hcz13_1 : w12.cell? ⟨gb151,1,none⟩ = some (.bool a0_1):=(blk_cell BK151.out 1).trans rfl;have hfz13_0:=blk_frozen BK151.out 0;have hfz13_1:=blk_frozen BK151.out 1)|(go_at_call 78;(with_reducible refine (spec_l2Place.calls a0_0 a0_1 a3 true _ A7.out).mono ?_);rintro e w14 ⟨rfl,hb⟩;have n0_:=Aside0.mk (blk_below (g:=gb151) (o:=.cells #[.int .i64 a0_0,.bool a0_1] 28 (0,0)) (by (with_reducible repeat (first|apply blk_drewN|apply blk_drew|apply blk_alloc));exact BK151.out) hb);have n1_:=Aside0.mk (below_step (by repeat (first|(with_reducible first|exact HB.out|apply below_alloc|apply pw_below_drewN|apply below_drew1|refine below_set ?_ GE151.out)|exact HB.out)) hb);clear BK151;clear HB;have BK151:=n0_;have HB:=n1_;clear n0_ n1_;(try clear hb);(try clear hb2);(try clear hk);(try clear hi))|(go_at_call 100;(with_reducible refine (spec_l1In.calls a2 0 a3 t154 _ A9.out).mono ?_);rintro e w' ⟨rfl,⟨nd,rfl⟩⟩))
 go_ret
 exact ⟨by first|rfl|(simp [errW_none,errW_some] <;> rfl)|(simp [*,errW_none,errW_some] <;> rfl),by repeat (first|(with_reducible first|exact HB.out|apply below_alloc|apply pw_below_drewN|apply below_drew1|refine below_set ?_ GE151.out)|exact HB.out)⟩

/-! ### spec_l1Most: function 101 -/
def spec_l1Most.f (a0 : Int) (a1 : Int) : Option (Int):=if a0 > a1 then (some a0) else (some a1)
set_option maxHeartbeats 8000000 in
set_option maxRecDepth 100000 in
theorem spec_l1Most.calls (a0 : Int) (a1 : Int) (r : Int) (w : World) (h : spec_l1Most.f a0 a1 = some r) :
  Calls Try.prog 101 #[.int .i64 a0,.int .i64 a1] w fun e w'=>e = .returned (.int .i64 r) ∧ Drawn0 w w':=by
 have H : (if a0 > a1 then (some a0) else (some a1)) = some r:=h
 clear h
 by_cases c3 : a0 > a1
 ·rw [if_pos c3] at H
  have c3b0 : decide (a1 < a0) = true:=decide_eq_true c3
  clear c3
  obtain rfl:=Option.some.inj H
  go_enter Try.func101,Try.ntmps101
  go_wp2
  go_ret
  exact ⟨by first|rfl|(simp;done)|(simp [*];done),by repeat (first|exact Drawn0.refl _|apply Drawn0.step)⟩
 rw [if_neg c3] at H
 have c3b0 : decide (a1 < a0) = false:=decide_eq_false c3
 clear c3
 obtain rfl:=Option.some.inj H
 go_enter Try.func101,Try.ntmps101
 go_wp2
 go_ret
 exact ⟨by first|rfl|(simp;done)|(simp [*];done),by repeat (first|exact Drawn0.refl _|apply Drawn0.step)⟩

/-! ### spec_l1Least: function 108 -/
def spec_l1Least.f (a0 : Int) (a1 : Int) : Option (Int):=if a0 < a1 then (some a0) else (some a1)
set_option maxHeartbeats 8000000 in
set_option maxRecDepth 100000 in
theorem spec_l1Least.calls (a0 : Int) (a1 : Int) (r : Int) (w : World) (h : spec_l1Least.f a0 a1 = some r) :
  Calls Try.prog 108 #[.int .i64 a0,.int .i64 a1] w fun e w'=>e = .returned (.int .i64 r) ∧ Drawn0 w w':=by
 have H : (if a0 < a1 then (some a0) else (some a1)) = some r:=h
 clear h
 by_cases c3 : a0 < a1
 ·rw [if_pos c3] at H
  have c3b0 : decide (a0 < a1) = true:=decide_eq_true c3
  clear c3
  obtain rfl:=Option.some.inj H
  go_enter Try.func108,Try.ntmps108
  go_wp2
  go_ret
  exact ⟨by first|rfl|(simp;done)|(simp [*];done),by repeat (first|exact Drawn0.refl _|apply Drawn0.step)⟩
 rw [if_neg c3] at H
 have c3b0 : decide (a0 < a1) = false:=decide_eq_false c3
 clear c3
 obtain rfl:=Option.some.inj H
 go_enter Try.func108,Try.ntmps108
 go_wp2
 go_ret
 exact ⟨by first|rfl|(simp;done)|(simp [*];done),by repeat (first|exact Drawn0.refl _|apply Drawn0.step)⟩

/-! ### spec_l2Gap: function 103 -/
def spec_l2Gap.f (a0_0 : Int) (a0_1 : Bool) (a1 : Int) (a2 : Int) : Option (Int):=(spec_l1Most.f (wrap64 (a1 - a2)) (wrap64 (a2 - a1))).bind fun t156=>(if a0_1 = true then ((spec_l1Least.f t156 (wrap64 (a0_0 - t156))).bind fun t157=>(some t157)) else (some t156))
set_option maxHeartbeats 8000000 in
set_option maxRecDepth 100000 in
theorem spec_l2Gap.calls (a0_0 : Int) (a0_1 : Bool) (a1 : Int) (a2 : Int) (r : Int) (w : World) (h : spec_l2Gap.f a0_0 a0_1 a1 a2 = some r) :
  Calls Try.prog 103 #[.agg #[.int .i64 a0_0,.bool a0_1],.int .i64 a1,.int .i64 a2] w fun e w'=>e = .returned (.int .i64 r) ∧ Below w.heap.size w w':=by
 have hu28:=Try.underlying28
 have HB:=Aside0.mk (Below.refl w.heap.size w)
 have H : ((spec_l1Most.f (wrap64 (a1 - a2)) (wrap64 (a2 - a1))).bind fun t156=>(if a0_1 = true then ((spec_l1Least.f t156 (wrap64 (a0_0 - t156))).bind fun t157=>(some t157)) else (some t156))) = some r:=h
 clear h
 replace H:=Option.bind_eq_some_iff.mp H
 obtain ⟨t156,A40,H⟩:=H
 replace H : (if a0_1 = true then ((spec_l1Least.f t156 (wrap64 (a0_0 - t156))).bind fun t157=>(some t157)) else (some t156)) = some r:=H
 have A4:=Aside0.mk A40
 clear A40
 by_cases c5 : a0_1 = true
 rotate_left
 ·replace c5:=Bool.eq_false_iff.mpr c5
  subst c5
  have H1 : (some t156) = some r:=by rw [if_neg (show ¬ (false = true) by decide)] at H;exact H
  clear H
  have H:=H1
  clear H1
  obtain rfl:=Option.some.inj H
  go_enter Try.func103,Try.ntmps103
  go_wp2_with (first|((with_reducible refine gate_dst (N:=3) rfl ?_);refine box_event ?hg (N:=3) ?hd (cs:=#[.int .i64 a0_0,.bool false]) (t:=28) ?hr ?_;(case hd=>rfl);(case hg=>rfl);(case hr=>first|(go_simp;done)|(go_simp;rfl));intro gb155 hg w9 hbox hb;have n0_:=Aside0.mk (below_step (by repeat (first|(with_reducible first|exact HB.out|apply below_alloc|apply pw_below_drewN|apply below_drew1)|exact HB.out)) hb);have n1_:=Aside0.mk (hbox);have n2_:=Aside0.mk ((by rw [hg];exact (below_size (by repeat (first|(with_reducible first|exact HB.out|apply below_alloc|apply pw_below_drewN|apply below_drew1)|exact HB.out))) : w.heap.size ≤ gb155));have n3_:=Aside0.mk ((by rw [hg];exact (below_size (by repeat (first|(with_reducible first|exact HB.out|apply below_alloc|apply pw_below_drewN|apply below_drew1)|exact HB.out))) : w.heap.size ≤ gb155));clear HB;have HB:=n0_;have BK155:=n1_;have GW155:=n2_;have GE155:=n3_;clear n0_ n1_ n2_ n3_;clear hb hbox hg)|((with_reducible refine gate_callee (f:=101) rfl ?_);refine goesL_ (some 14) rfl rfl Try.func101 (by kernel_rfl) rfl #[.int .i64 (wrap64 (a1 - a2)),.int .i64 (wrap64 (a2 - a1))] rfl (by (try simp only [List.map_toArray,List.map_cons,List.map_nil]);first|done|rfl|(simp only [List.length_drop,List.length_take];rfl)) ?_;(with_reducible refine (spec_l1Most.calls (wrap64 (a1 - a2)) (wrap64 (a2 - a1)) t156 _ A4.out).mono ?_);rintro e w' ⟨rfl,⟨nd,rfl⟩⟩;refine ⟨_,rfl,?_⟩;have hcz10_0 : w9.cell? ⟨gb155,0,none⟩ = some (.int .i64 a0_0):=(blk_cell BK155.out 0).trans rfl;have hcz10_1 : w9.cell? ⟨gb155,1,none⟩ = some (.bool false):=(blk_cell BK155.out 1).trans rfl;have hfz10_0:=blk_frozen BK155.out 0;have hfz10_1:=blk_frozen BK155.out 1))
  go_ret
  exact ⟨by first|rfl|(simp [errW_none,errW_some] <;> rfl)|(simp [*,errW_none,errW_some] <;> rfl),by repeat (first|(with_reducible first|exact HB.out|apply below_alloc|apply pw_below_drewN|apply below_drew1|refine below_set ?_ GE155.out)|exact HB.out)⟩
 subst c5
 have H1 : ((spec_l1Least.f t156 (wrap64 (a0_0 - t156))).bind fun t157=>(some t157)) = some r:=by rw [if_pos rfl] at H;exact H
 clear H
 have H:=H1
 clear H1
 replace H:=Option.bind_eq_some_iff.mp H
 obtain ⟨t157,A60,H⟩:=H
 replace H : (some t157) = some r:=H
 have A6:=Aside0.mk A60
 clear A60
 obtain rfl:=Option.some.inj H
 go_enter Try.func103,Try.ntmps103
 go_wp2_with (first|((with_reducible refine gate_dst (N:=3) rfl ?_);refine box_event ?hg (N:=3) ?hd (cs:=#[.int .i64 a0_0,.bool true]) (t:=28) ?hr ?_;(case hd=>rfl);(case hg=>rfl);(case hr=>first|(go_simp;done)|(go_simp;rfl));intro gb155 hg w7 hbox hb;have n0_:=Aside0.mk (below_step (by repeat (first|(with_reducible first|exact HB.out|apply below_alloc|apply pw_below_drewN|apply below_drew1)|exact HB.out)) hb);have n1_:=Aside0.mk (hbox);have n2_:=Aside0.mk ((by rw [hg];exact (below_size (by repeat (first|(with_reducible first|exact HB.out|apply below_alloc|apply pw_below_drewN|apply below_drew1)|exact HB.out))) : w.heap.size ≤ gb155));have n3_:=Aside0.mk ((by rw [hg];exact (below_size (by repeat (first|(with_reducible first|exact HB.out|apply below_alloc|apply pw_below_drewN|apply below_drew1)|exact HB.out))) : w.heap.size ≤ gb155));clear HB;have HB:=n0_;have BK155:=n1_;have GW155:=n2_;have GE155:=n3_;clear n0_ n1_ n2_ n3_;clear hb hbox hg)|((with_reducible refine gate_callee (f:=101) rfl ?_);refine goesL_ (some 14) rfl rfl Try.func101 (by kernel_rfl) rfl #[.int .i64 (wrap64 (a1 - a2)),.int .i64 (wrap64 (a2 - a1))] rfl (by (try simp only [List.map_toArray,List.map_cons,List.map_nil]);first|done|rfl|(simp only [List.length_drop,List.length_take];rfl)) ?_;(with_reducible refine (spec_l1Most.calls (wrap64 (a1 - a2)) (wrap64 (a2 - a1)) t156 _ A4.out).mono ?_);rintro e w' ⟨rfl,⟨nd,rfl⟩⟩;refine ⟨_,rfl,?_⟩;have hcz8_0 : w7.cell? ⟨gb155,0,none⟩ = some (.int .i64 a0_0):=(blk_cell BK155.out 0).trans rfl;have hcz8_1 : w7.cell? ⟨gb155,1,none⟩ = some (.bool true):=(blk_cell BK155.out 1).trans rfl;have hfz8_0:=blk_frozen BK155.out 0;have hfz8_1:=blk_frozen BK155.out 1)|((with_reducible refine gate_callee (f:=108) rfl ?_);refine goesL_ (some 22) rfl rfl Try.func108 (by kernel_rfl) rfl #[.int .i64 t156,.int .i64 (wrap64 (a0_0 - t156))] rfl (by (try simp only [List.map_toArray,List.map_cons,List.map_nil]);first|done|rfl|(simp only [List.length_drop,List.length_take];rfl)) ?_;(with_reducible refine (spec_l1Least.calls t156 (wrap64 (a0_0 - t156)) t157 _ A6.out).mono ?_);rintro e w' ⟨rfl,⟨nd,rfl⟩⟩;refine ⟨_,rfl,?_⟩))
 go_ret
 exact ⟨by first|rfl|(simp [errW_none,errW_some] <;> rfl)|(simp [*,errW_none,errW_some] <;> rfl),by repeat (first|(with_reducible first|exact HB.out|apply below_alloc|apply pw_below_drewN|apply below_drew1|refine below_set ?_ GE155.out)|exact HB.out)⟩

/-! ### spec_l7Steps: function 61 -/
def spec_l7Steps.f (a0_0 : Int) (a0_1 : Bool) (a1_0 : Int) (a1_1 : Int) (a1_2 : Int) (a2 : Int) (a3 : Int) : Option (Int):=(spec_l2Gap.f a0_0 a0_1 a1_0 a2).bind fun t160=>(some (wrap64 ((wrap64 (t160 + a3)) - a2)))
set_option maxHeartbeats 8000000 in
set_option maxRecDepth 100000 in
theorem spec_l7Steps.calls (a0_0 : Int) (a0_1 : Bool) (a1_0 : Int) (a1_1 : Int) (a1_2 : Int) (a2 : Int) (a3 : Int) (r : Int) (w : World) (h : spec_l7Steps.f a0_0 a0_1 a1_0 a1_1 a1_2 a2 a3 = some r) :
  Calls Try.prog 61 #[.agg #[.int .i64 a0_0,.bool a0_1],.agg #[.int .i64 a1_0,.int .i64 a1_1,.int .i64 a1_2],.int .i64 a2,.int .i64 a3] w fun e w'=>e = .returned (.int .i64 r) ∧ Below w.heap.size w w':=by
 have hu28:=Try.underlying28
 have hu63:=Try.underlying63
 have HB:=Aside0.mk (Below.refl w.heap.size w)
 have H : ((spec_l2Gap.f a0_0 a0_1 a1_0 a2).bind fun t160=>(some (wrap64 ((wrap64 (t160 + a3)) - a2)))) = some r:=h
 clear h
 replace H:=Option.bind_eq_some_iff.mp H
 obtain ⟨t160,A50,H⟩:=H
 replace H : (some (wrap64 ((wrap64 (t160 + a3)) - a2))) = some r:=H
 have A5:=Aside0.mk A50
 clear A50
 obtain rfl:=Option.some.inj H
 go_enter Try.func61,Try.ntmps61
 go_wp2_with (first|((with_reducible refine gate_dst (N:=4) rfl ?_);refine box_event ?hg (N:=4) ?hd (cs:=#[.int .i64 a0_0,.bool a0_1]) (t:=28) ?hr ?_;(case hd=>rfl);(case hg=>rfl);(case hr=>first|(go_simp;done)|(go_simp;rfl));intro gb158 hg w6 hbox hb;have n0_:=Aside0.mk (below_step (by repeat (first|(with_reducible first|exact HB.out|apply below_alloc|apply pw_below_drewN|apply below_drew1)|exact HB.out)) hb);have n1_:=Aside0.mk (hbox);have n2_:=Aside0.mk ((by rw [hg];exact (below_size (by repeat (first|(with_reducible first|exact HB.out|apply below_alloc|apply pw_below_drewN|apply below_drew1)|exact HB.out))) : w.heap.size ≤ gb158));have n3_:=Aside0.mk ((by rw [hg];exact (below_size (by repeat (first|(with_reducible first|exact HB.out|apply below_alloc|apply pw_below_drewN|apply below_drew1)|exact HB.out))) : w.heap.size ≤ gb158));clear HB;have HB:=n0_;have BK158:=n1_;have GW158:=n2_;have GE158:=n3_;clear n0_ n1_ n2_ n3_;clear hb hbox hg)|((with_reducible refine gate_dst (N:=5) rfl ?_);refine box_event ?hg (N:=5) ?hd (cs:=#[.int .i64 a1_0,.int .i64 a1_1,.int .i64 a1_2]) (t:=63) ?hr ?_;(case hd=>rfl);(case hg=>rfl);(case hr=>first|(go_simp;done)|(go_simp;rfl));intro gb159 hg w7 hbox hb;have n0_:=Aside0.mk (blk_below (g:=gb158) (o:=.cells #[.int .i64 a0_0,.bool a0_1] 28 (0,0)) (by (with_reducible repeat (first|apply blk_drewN|apply blk_drew|apply blk_alloc));exact BK158.out) hb);have n1_:=Aside0.mk (below_step (by repeat (first|(with_reducible first|exact HB.out|apply below_alloc|apply pw_below_drewN|apply below_drew1|refine below_set ?_ GE158.out)|exact HB.out)) hb);have n2_:=Aside0.mk (hbox);have n3_:=Aside0.mk ((by rw [hg];exact (below_size (by repeat (first|(with_reducible first|exact HB.out|apply below_alloc|apply pw_below_drewN|apply below_drew1|refine below_set ?_ GE158.out)|exact HB.out))) : w.heap.size ≤ gb159));have n4_:=Aside0.mk ((by rw [hg];exact (below_size (by repeat (first|(with_reducible first|exact HB.out|apply below_alloc|apply pw_below_drewN|apply below_drew1|refine below_set ?_ GE158.out)|exact HB.out))) : w.heap.size ≤ gb159));have n5_:=Aside0.mk ((by rw [hg];exact Nat.ne_of_lt (blk_lt (g:=gb158) (o:=.cells #[.int .i64 a0_0,.bool a0_1] 28 (0,0)) (by (with_reducible repeat (first|apply blk_drewN|apply blk_drew|apply blk_alloc));exact BK158.out)) : gb158 ≠ gb159));have n6_:=Aside0.mk ((by rw [hg];exact Nat.ne_of_gt (blk_lt (g:=gb158) (o:=.cells #[.int .i64 a0_0,.bool a0_1] 28 (0,0)) (by (with_reducible repeat (first|apply blk_drewN|apply blk_drew|apply blk_alloc));exact BK158.out)) : gb159 ≠ gb158));clear BK158;clear HB;have BK158:=n0_;have HB:=n1_;have BK159:=n2_;have GW159:=n3_;have GE159:=n4_;have NB158_159:=n5_;have NB159_158:=n6_;clear n0_ n1_ n2_ n3_ n4_ n5_ n6_;clear hb hbox hg;have hnb8:=NB158_159.out;have hnc8:=NB159_158.out;have hcz9_0 : w7.cell? ⟨gb158,0,none⟩ = some (.int .i64 a0_0):=(blk_cell BK158.out 0).trans rfl;have hcz9_1 : w7.cell? ⟨gb158,1,none⟩ = some (.bool a0_1):=(blk_cell BK158.out 1).trans rfl;have hfz9_0:=blk_frozen BK158.out 0;have hfz9_1:=blk_frozen BK158.out 1;have hcz10_0 : w7.cell? ⟨gb159,0,none⟩ = some (.int .i64 a1_0):=(blk_cell BK159.out 0).trans rfl;have hcz10_1 : w7.cell? ⟨gb159,1,none⟩ = some (.int .i64 a1_1):=(blk_cell BK159.out 1).trans rfl;have hcz10_2 : w7.cell? ⟨gb159,2,none⟩ = some (.int .i64 a1_2):=(blk_cell BK159.out 2).trans rfl;have hfz10_0:=blk_frozen BK159.out 0;have hfz10_1:=blk_frozen BK159.out 1;have hfz10_2:=blk_frozen BK159.out 2)|((with_reducible refine gate_callee (f:=103) rfl ?_);refine goesL_ (some 13) rfl rfl Try.func103 (by kernel_rfl) rfl #[.agg #[.int .i64 a0_0,.bool a0_1],.int .i64 a1_0,.int .i64 a2] rfl (by (try simp only [List.map_toArray,List.map_cons,List.map_nil]);first|done|rfl|(simp only [List.length_drop,List.length_take];rfl)) ?_;(with_reducible refine (spec_l2Gap.calls a0_0 a0_1 a1_0 a2 t160 _ A5.out).mono ?_);rintro e w11 ⟨rfl,hb⟩;refine ⟨_,rfl,?_⟩;have n0_:=Aside0.mk (blk_below (g:=gb158) (o:=.cells #[.int .i64 a0_0,.bool a0_1] 28 (0,0)) (by (with_reducible repeat (first|apply blk_drewN|apply blk_drew|apply blk_alloc));exact BK158.out) hb);have n1_:=Aside0.mk (blk_below (g:=gb159) (o:=.cells #[.int .i64 a1_0,.int .i64 a1_1,.int .i64 a1_2] 63 (0,0)) (by (with_reducible repeat (first|apply blk_drewN|apply blk_drew|apply blk_alloc));exact BK159.out) hb);have n2_:=Aside0.mk (below_step (by repeat (first|(with_reducible first|exact HB.out|apply below_alloc|apply pw_below_drewN|apply below_drew1|refine below_set ?_ GE158.out|refine below_set ?_ GE159.out)|exact HB.out)) hb);clear BK158;clear BK159;clear HB;have BK158:=n0_;have BK159:=n1_;have HB:=n2_;clear n0_ n1_ n2_;(try clear hb);(try clear hb2);(try clear hk);(try clear hi)))
 go_ret
 exact ⟨by first|rfl|(simp [errW_none,errW_some] <;> rfl)|(simp [*,errW_none,errW_some] <;> rfl),by repeat (first|(with_reducible first|exact HB.out|apply below_alloc|apply pw_below_drewN|apply below_drew1|refine below_set ?_ GE158.out|refine below_set ?_ GE159.out)|exact HB.out)⟩

/-! ### spec_l1Has: function 102 -/
def spec_l1Has.l0 : Nat → List Int → Int → Int → Option (Bool)
 | 0,_,_,_=>none
 | k + 1,x0,x1,x5=>if x5 < (x0.length : Int) then (if 0 ≤ x5 then (if (rd x0 x5) = x1 then (some true) else (spec_l1Has.l0 k x0 x1 (wrap64 (x5 + 1)))) else (none)) else (some false)
def spec_l1Has.f (k : Nat) (l0 : List Int) (a1 : Int) : Option (Bool):=spec_l1Has.l0 k l0 a1 0
theorem spec_l1Has.mono_l : ∀ k,(∀ y0 y1 y2,LeO (spec_l1Has.l0 k y0 y1 y2) (spec_l1Has.l0 (k + 1) y0 y1 y2))
 | 0=>fun _ _ _ r h=>by simp [spec_l1Has.l0] at h
 | k + 1=>by
  have ih0:=spec_l1Has.mono_l k
  ·intro y0 y1 y2
   unfold spec_l1Has.l0
   repeat' first
   | (with_reducible exact ih0 _ _ _)
   | (with_reducible exact LeO.refl _)
   | (with_reducible exact LeO.none _)
   | (with_reducible refine LeO.ite ?_ ?_)
   | (with_reducible refine LeO.bind ?_ (fun _=>?_))
   | exact ih0 _ _ _
   | exact LeO.none _
   | refine LeO.ite ?_ ?_
   | refine LeO.bind ?_ (fun _=>?_)
theorem spec_l1Has.mono : ∀ a0 a1 k,LeO (spec_l1Has.f k a0 a1) (spec_l1Has.f (k + 1) a0 a1):=by
 intro a0 a1 k
 have ih0:=spec_l1Has.mono_l k
 unfold spec_l1Has.f
 repeat' first
   | (with_reducible exact ih0 _ _ _)
   | (with_reducible exact LeO.refl _)
   | (with_reducible exact LeO.none _)
   | (with_reducible refine LeO.ite ?_ ?_)
   | (with_reducible refine LeO.bind ?_ (fun _=>?_))
   | exact ih0 _ _ _
   | exact LeO.none _
   | refine LeO.ite ?_ ?_
   | refine LeO.bind ?_ (fun _=>?_)
set_option maxHeartbeats 8000000 in
set_option maxRecDepth 100000 in
theorem spec_l1Has.calls (k : Nat) (A0 : Option Addr) (c0 : Nat) (l0 : List Int) (a1 : Int) (r : Bool) (w : World) (hr0 : Kd.C (Kd.int .i64) w A0 l0.length l0) (hc0 : l0.length ≤ c0) (h : spec_l1Has.f k l0 a1 = some r) :
  Calls Try.prog 102 #[.slice A0 l0.length c0,.int .i64 a1] w fun e w'=>e = .returned (.bool r) ∧ Drawn0 w w':=by
 have HR0:=Aside0.mk hr0
 have HC0:=Aside0.mk hc0
 clear hr0 hc0
 have H : (spec_l1Has.l0 k l0 a1 0) = some r:=h
 clear h
 have H':=Aside0.mk H
 clear H
 go_enter Try.func102,Try.ntmps102
 go_wp2
 go_loopg [5] k (fun kq v5 w'=>∃ (x5_1 : Int),v5 = .int .i64 x5_1 ∧ Aside0 (spec_l1Has.l0 kq l0 a1 x5_1 = some r) ∧ Aside0 (kq ≤ k) ∧ Drawn0 w w')
 case atStart=>exact ⟨(0),(by first|rfl|(simp;done)|(simp [*];done)),H',⟨Nat.le_refl _⟩,by repeat (first|exact Drawn0.refl _|apply Drawn0.step)⟩
 clear H'
 try clear c1
 try clear p2
 obtain ⟨x5_1,rfl,HA,HK1,⟨m1,rfl⟩⟩:=hrel
 cases gk with
 | zero=>exact absurd HA.out (by simp [spec_l1Has.l0])
 | succ k1 =>
  have H:=HA.out
  clear HA
  simp only [spec_l1Has.l0] at H
  by_cases c3 : x5_1 < (l0.length : Int)
  rotate_left
  ·rw [if_neg c3] at H
   have c3b0 : decide (x5_1 < (l0.length : Int)) = false:=decide_eq_false c3
   clear c3
   obtain rfl:=Option.some.inj H
   go_wp2
   go_ret
   exact ⟨by first|rfl|(simp;done)|(simp [*];done),by repeat (first|exact Drawn0.refl _|apply Drawn0.step)⟩
  rw [if_pos c3] at H
  have c3b0 : decide (x5_1 < (l0.length : Int)) = true:=decide_eq_true c3
  clear c3
  by_cases c4 : 0 ≤ x5_1
  rotate_left
  ·rw [if_neg c4] at H
   exact absurd H (by simp)
  rw [if_pos c4] at H
  have c4b0 : decide (0 ≤ x5_1) = true:=decide_eq_true c4
  clear c4
  by_cases c5 : (rd l0 x5_1) = a1
  ·rw [if_pos c5] at H
   have c5b0 : ((rd l0 x5_1) == a1) = true:=beq_iff_eq.mpr c5
   have c5b1 : ((rd l0 x5_1) != a1) = false:=bne_eq_false_iff_eq.mpr c5
   clear c5
   obtain rfl:=Option.some.inj H
   have p161 : 0 ≤ (x5_1 : Int):=of_decide_eq_true (by first|(with_reducible assumption)|assumption)
   have q161 : x5_1 < (l0.length : Int):=of_decide_eq_true (by first|(with_reducible assumption)|assumption)
   obtain ⟨ad161,e161,hx161_0⟩:=Kd.at_int HR0.out x5_1 p161 q161
   cases e161
   replace p161:=eq_true p161
   replace q161:=eq_true q161
   go_wp2
   go_ret
   exact ⟨by first|rfl|(simp;done)|(simp [*];done),by repeat (first|exact Drawn0.refl _|apply Drawn0.step)⟩
  rw [if_neg c5] at H
  have c5b0 : ((rd l0 x5_1) == a1) = false:=beq_eq_false_iff_ne.mpr c5
  have c5b1 : ((rd l0 x5_1) != a1) = true:=bne_iff_ne.mpr c5
  have H':=Aside0.mk H
  clear H
  have p161 : 0 ≤ (x5_1 : Int):=of_decide_eq_true (by first|(with_reducible assumption)|assumption)
  have q161 : x5_1 < (l0.length : Int):=of_decide_eq_true (by first|(with_reducible assumption)|assumption)
  obtain ⟨ad161,e161,hx161_0⟩:=Kd.at_int HR0.out x5_1 p161 q161
  cases e161
  replace p161:=eq_true p161
  replace q161:=eq_true q161
  go_wp2
  go_roundg k1
  case measure=>have:=HK1.out;omega
  case rel=>exact ⟨(wrap64 (x5_1 + 1)),(by first|rfl|(simp;done)|(simp [*];done)),H',⟨by have:=HK1.out;omega⟩,by repeat (first|exact Drawn0.refl _|apply Drawn0.step)⟩


end
end Go.Proofs.Ythagkpoinjpmfaa.QFnExactRelayArrival
