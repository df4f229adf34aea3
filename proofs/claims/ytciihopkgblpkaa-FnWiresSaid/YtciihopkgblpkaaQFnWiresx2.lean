/- Functions that the law FnWires comes to, and their walks: no condition but those named. -/
import Derived.Test.YtciihopkgblpkaaQFnWiresx0
import Derived.Test.YtciihopkgblpkaaQFnWiresx1
namespace Go.Proofs.Ytciihopkgblpkaa.QFnWires
open Go.RowKit Go.Proofs.YtciihopkgblpkaaW.PrintWords Go.Proofs.YtciihopkgblpkaaW.PrintLast Go.Proofs.YtciihopkgblpkaaW.PrintMore Go.Proofs.Ytciihopkgblpkaa.Short
attribute [local go_sem] max2_int min2_int max_two min_two max_three min_three max_four min_four
set_option linter.unusedVariables false
set_option linter.unusedSimpArgs false

section
open Kd
/-! ### spec_l8Wire: function 40 -/
mutual
def spec_l8Wire.j0 : Nat → Bool → Int → List Int → List Int → Option (Bool)
 | 0,_,_,_,_=>none
 | k + 1,x22,x112000,x112001,x112002=>if x22 = true then (some false) else (spec_l8Wire.l0 k 0 x112000 x112001 x112002)
def spec_l8Wire.l0 : Nat → Int → Int → List Int → List Int → Option (Bool)
 | 0,_,_,_,_=>none
 | k + 1,x3,x112000,x112001,x112002=>if x3 < (x112001.length : Int) then (if 0 ≤ x3 then ((spec_l1In.f (rd x112001 x3) 0 x112000).bind fun t114=>(if t114 = true then (if x3 > 0 then (if 0 ≤ (wrap64 (x3 - 1)) then (if (wrap64 (x3 - 1)) < (x112001.length : Int) then (if (rd x112001 (wrap64 (x3 - 1))) ≥ (rd x112001 x3) then (some false) else (if x3 < (x112002.length : Int) then (if (rd x112002 x3) = 1 then (spec_l8Wire.l0 k (wrap64 (x3 + 1)) x112000 x112001 x112002) else (if (rd x112002 x3) = (-1) then (spec_l8Wire.l0 k (wrap64 (x3 + 1)) x112000 x112001 x112002) else (some false))) else (none))) else (none)) else (none)) else (if x3 < (x112002.length : Int) then (if (rd x112002 x3) = 1 then (spec_l8Wire.l0 k (wrap64 (x3 + 1)) x112000 x112001 x112002) else (if (rd x112002 x3) = (-1) then (spec_l8Wire.l0 k (wrap64 (x3 + 1)) x112000 x112001 x112002) else (some false))) else (none))) else (some false))) else (none)) else (some true)
end
def spec_l8Wire.f (k : Nat) (a0_0 : Int) (l0_1 : List Int) (l0_2 : List Int) : Option (Bool):=(spec_l1In.f a0_0 1 30).bind fun t112=>(if t112 = true then (if (l0_1.length : Int) > 8 then (spec_l8Wire.j0 k true a0_0 l0_1 l0_2) else (spec_l8Wire.j0 k ((l0_2.length : Int) != (l0_1.length : Int)) a0_0 l0_1 l0_2)) else (spec_l8Wire.j0 k true a0_0 l0_1 l0_2))
theorem spec_l8Wire.mono_l : ∀ k,(∀ y0 y1 y2 y3,LeO (spec_l8Wire.j0 k y0 y1 y2 y3) (spec_l8Wire.j0 (k + 1) y0 y1 y2 y3)) ∧ (∀ y0 y1 y2 y3,LeO (spec_l8Wire.l0 k y0 y1 y2 y3) (spec_l8Wire.l0 (k + 1) y0 y1 y2 y3))
 | 0=>by
  refine ⟨?_,?_⟩<;>(intros;intro r h;simp [spec_l8Wire.j0,spec_l8Wire.l0] at h)
 | k + 1=>by
  obtain ⟨ih0,ih1⟩:=spec_l8Wire.mono_l k
  refine ⟨?_,?_⟩<;>intros<;>(first|unfold spec_l8Wire.j0 | unfold spec_l8Wire.l0)<;>(repeat' first|(with_reducible exact ih0 ..)|(with_reducible exact ih1 ..)|(with_reducible exact LeO.refl _)|(with_reducible exact LeO.none _)|(with_reducible refine LeO.ite ?_ ?_)|(with_reducible refine LeO.bind ?_ (fun _=>?_))|exact ih0 ..|exact ih1 ..|exact LeO.none _|refine LeO.ite ?_ ?_|refine LeO.bind ?_ (fun _=>?_))
theorem spec_l8Wire.mono : ∀ a0 a1 a2 k,LeO (spec_l8Wire.f k a0 a1 a2) (spec_l8Wire.f (k + 1) a0 a1 a2):=by
 intro a0 a1 a2 k
 obtain ⟨ih0,ih1⟩:=spec_l8Wire.mono_l k
 unfold spec_l8Wire.f
 repeat' first
   | (with_reducible exact ih0 _ _ _ _)
   | (with_reducible exact ih1 _ _ _ _)
   | (with_reducible exact LeO.refl _)
   | (with_reducible exact LeO.none _)
   | (with_reducible refine LeO.ite ?_ ?_)
   | (with_reducible refine LeO.bind ?_ (fun _=>?_))
   | exact ih0 _ _ _ _
   | exact ih1 _ _ _ _
   | exact LeO.none _
   | refine LeO.ite ?_ ?_
   | refine LeO.bind ?_ (fun _=>?_)
def spec_l8Wire.T6 : Bool × List (List Nat × List Nat):=(true,[([],[]),([0],[0]),([],[]),([1,2],[1,2]),([3],[3]),([],[]),([5],[5]),([4,6],[4,6]),([7],[7]),([8,7],[8]),([9],[9]),([10,9],[9,10]),([11,9,9],[9,11]),([12],[12]),([13,12],[12,13]),([12],[12]),([15,12],[12,15]),([14,16,12],[12,14,16]),([17,12],[12,17]),([12],[12]),([19,12],[12,19]),([12],[12]),([20,21,12],[12,20,21]),([22,12],[12,22]),([18,23,12],[12,18,23]),([12,24,9],[9,12,24]),([9,25],[9,25]),([26,12],[26]),([27],[27]),([28,27],[27,28]),([27],[27]),([29,30,27],[27,29,30]),([31,27],[27,31]),([32,27],[27,32]),([33,27,27],[27,33]),([34],[34]),([35,34],[34,35]),([34],[34]),([36,37,34],[34,36,37]),([38,34],[34,38]),([39,34],[34,39]),([34,40,27],[27,34,40]),([27,41],[27,41])])
def spec_l8Wire.B6 : List Nat:=[0,1,0,7,15,0,32,127,255,511,1023,2047,4095,8191,16383,8191,40959,131071,262143,8191,532479,8191,3678207,7872511,16777215,33554431,67108863,134217727,268435455,536870911,268435455,2147483647,4294967295,8589934591,17179869183,34359738367,68719476735,34359738367,274877906943,549755813887,1099511627775,2199023255551,4398046511103]
theorem spec_l8Wire.tab6 : rtab .any (opsOf Try.f40 6) = spec_l8Wire.T6:=by kernel_rfl
theorem spec_l8Wire.bits6 : waitsOk spec_l8Wire.T6.2 spec_l8Wire.B6 = true:=by kernel_rfl
set_option maxHeartbeats 8000000 in
set_option maxRecDepth 100000 in
theorem spec_l8Wire.calls (k : Nat) (a0_0 : Int) (A0_1 : Option Addr) (c0_1 : Nat) (l0_1 : List Int) (A0_2 : Option Addr) (c0_2 : Nat) (l0_2 : List Int) (r : Bool) (w : World) (hr0_1 : Kd.C (Kd.int .i64) w A0_1 l0_1.length l0_1) (hc0_1 : l0_1.length ≤ c0_1) (hr0_2 : Kd.C (Kd.int .i64) w A0_2 l0_2.length l0_2) (hc0_2 : l0_2.length ≤ c0_2) (h : spec_l8Wire.f k a0_0 l0_1 l0_2 = some r) :
  Calls Try.prog 40 #[.agg #[.int .i64 a0_0,.slice A0_1 l0_1.length c0_1,.slice A0_2 l0_2.length c0_2]] w fun e w'=>e = .returned (.bool r) ∧ Below w.heap.size w w':=by
 have hu27:=Try.underlying27
 have HR0_1:=Aside0.mk hr0_1
 have HC0_1:=Aside0.mk hc0_1
 clear hr0_1 hc0_1
 have HR0_2:=Aside0.mk hr0_2
 have HC0_2:=Aside0.mk hc0_2
 clear hr0_2 hc0_2
 have HB:=Aside0.mk (Below.refl w.heap.size w)
 have H : ((spec_l1In.f a0_0 1 30).bind fun t112=>(if t112 = true then (if (l0_1.length : Int) > 8 then (spec_l8Wire.j0 k true a0_0 l0_1 l0_2) else (spec_l8Wire.j0 k ((l0_2.length : Int) != (l0_1.length : Int)) a0_0 l0_1 l0_2)) else (spec_l8Wire.j0 k true a0_0 l0_1 l0_2))) = some r:=h
 clear h
 have HC2:=Aside0.mk H
 clear H
 go_enter Try.func40,Try.ntmps40
 go_upto_region 1 with (((with_reducible refine gate_dst (N:=1) rfl ?_);(try (refine gate_guard (by rfl) ?_;dsimp only));refine box_event ?hg (N:=1) ?hd (cs:=#[.int .i64 a0_0,.slice A0_1 l0_1.length c0_1,.slice A0_2 l0_2.length c0_2]) (t:=27) ?hr ?_;(case hd=>rfl);(case hg=>rfl);(case hr=>first|(go_simp;done)|(go_simp;rfl));intro gb111 hg w3 hbox hb;have BK111:=ak hbox;have GW111:=ak ((by rw [hg];exact (below_size (hm HB.out)) : w.heap.size ≤ gb111));have GE111:=ak ((by rw [hg];exact (below_size (hm HB.out)) : w.heap.size ≤ gb111));replace HB:=bs HB hb;clear hb hbox hg))
 go_cut [22] (fun v22 wc=>∃ (kq : Nat) (x22_1 : Bool),v22 = .bool x22_1 ∧ Aside0 (spec_l8Wire.j0 kq x22_1 a0_0 l0_1 l0_2 = some r) ∧ Aside0 (kq ≤ k) ∧ Aside0 (wc.heap[gb111]? = some (.cells #[.int .i64 a0_0,(.slice A0_1 l0_1.length c0_1),(.slice A0_2 l0_2.length c0_2)] 27 (0,0))) ∧ Aside0 (Below w.heap.size w wc))
 case first =>
  have H:=HC2.out
  clear HC2
  replace H:=Option.bind_eq_some_iff.mp H
  obtain ⟨t112,A40,H⟩:=H
  have A4:=Aside0.mk A40
  clear A40
  by_cases c5 : t112 = true
  rotate_left
  ·replace c5:=Bool.eq_false_iff.mpr c5
   subst c5
   rw [if_neg (show ¬ (false = true) by decide)] at H
   have H':=Aside0.mk H
   clear H
   have hcz9_0 : w3.cell? ⟨gb111,0,none⟩ = some (.int .i64 a0_0):=(blk_cell BK111.out 0).trans rfl
   have hcz9_1 : w3.cell? ⟨gb111,1,none⟩ = some (.slice A0_1 l0_1.length c0_1):=(blk_cell BK111.out 1).trans rfl
   have hcz9_2 : w3.cell? ⟨gb111,2,none⟩ = some (.slice A0_2 l0_2.length c0_2):=(blk_cell BK111.out 2).trans rfl
   have hfz9_0:=blk_frozen BK111.out 0
   have hfz9_1:=blk_frozen BK111.out 1
   have hfz9_2:=blk_frozen BK111.out 2
   go_wp2_with (((with_reducible refine gate_callee (f:=58) rfl ?_);refine goesL_ (some 6) rfl rfl Try.func58 (by kernel_rfl) rfl #[.int .i64 a0_0,.int .i64 1,.int .i64 30] rfl gl ?_;(with_reducible refine (spec_l1In.calls a0_0 1 30 false _ A4.out).mono ?_);rintro e w' ⟨rfl,⟨nd,rfl⟩⟩;refine ⟨_,rfl,?_⟩))
   go_meet
   case rel=>exact ⟨_,(true),fd,H',⟨by first|omega|exact Nat.le_refl _⟩,⟨bm BK111.out⟩,⟨h1 HB.out GE111.out⟩⟩
  subst c5
  rw [if_pos rfl] at H
  by_cases c6 : (l0_1.length : Int) > 8
  ·rw [if_pos c6] at H
   have c6b0 : decide (8 < (l0_1.length : Int)) = true:=decide_eq_true c6
   have c6b1 : decide (8 < l0_1.length) = true:=decide_eq_true (by omega)
   clear c6
   have H':=Aside0.mk H
   clear H
   have hcz7_0 : w3.cell? ⟨gb111,0,none⟩ = some (.int .i64 a0_0):=(blk_cell BK111.out 0).trans rfl
   have hcz7_1 : w3.cell? ⟨gb111,1,none⟩ = some (.slice A0_1 l0_1.length c0_1):=(blk_cell BK111.out 1).trans rfl
   have hcz7_2 : w3.cell? ⟨gb111,2,none⟩ = some (.slice A0_2 l0_2.length c0_2):=(blk_cell BK111.out 2).trans rfl
   have hfz7_0:=blk_frozen BK111.out 0
   have hfz7_1:=blk_frozen BK111.out 1
   have hfz7_2:=blk_frozen BK111.out 2
   go_wp2_with (((with_reducible refine gate_callee (f:=58) rfl ?_);refine goesL_ (some 6) rfl rfl Try.func58 (by kernel_rfl) rfl #[.int .i64 a0_0,.int .i64 1,.int .i64 30] rfl gl ?_;(with_reducible refine (spec_l1In.calls a0_0 1 30 true _ A4.out).mono ?_);rintro e w' ⟨rfl,⟨nd,rfl⟩⟩;refine ⟨_,rfl,?_⟩))
   go_meet
   case rel=>exact ⟨_,(true),fd,H',⟨by first|omega|exact Nat.le_refl _⟩,⟨bm BK111.out⟩,⟨h1 HB.out GE111.out⟩⟩
  rw [if_neg c6] at H
  have c6b0 : decide (8 < (l0_1.length : Int)) = false:=decide_eq_false c6
  have c6b1 : decide (8 < l0_1.length) = false:=decide_eq_false (by omega)
  clear c6
  have H':=Aside0.mk H
  clear H
  have hcz8_0 : w3.cell? ⟨gb111,0,none⟩ = some (.int .i64 a0_0):=(blk_cell BK111.out 0).trans rfl
  have hcz8_1 : w3.cell? ⟨gb111,1,none⟩ = some (.slice A0_1 l0_1.length c0_1):=(blk_cell BK111.out 1).trans rfl
  have hcz8_2 : w3.cell? ⟨gb111,2,none⟩ = some (.slice A0_2 l0_2.length c0_2):=(blk_cell BK111.out 2).trans rfl
  have hfz8_0:=blk_frozen BK111.out 0
  have hfz8_1:=blk_frozen BK111.out 1
  have hfz8_2:=blk_frozen BK111.out 2
  go_wp2_with (((with_reducible refine gate_callee (f:=58) rfl ?_);refine goesL_ (some 6) rfl rfl Try.func58 (by kernel_rfl) rfl #[.int .i64 a0_0,.int .i64 1,.int .i64 30] rfl gl ?_;(with_reducible refine (spec_l1In.calls a0_0 1 30 true _ A4.out).mono ?_);rintro e w' ⟨rfl,⟨nd,rfl⟩⟩;refine ⟨_,rfl,?_⟩))
  go_meet
  case rel=>exact ⟨_,(((l0_2.length : Int) != (l0_1.length : Int))),fd,H',⟨by first|omega|exact Nat.le_refl _⟩,⟨bm BK111.out⟩,⟨h1 HB.out GE111.out⟩⟩
 clear HC2
 obtain ⟨kq,x22_1,rfl,HA,HJ1,BK111,HB⟩:=hcut
 cases kq with
 | zero=>exact absurd HA.out (by simp [spec_l8Wire.j0])
 | succ kj1 =>
  have H:=HA.out
  clear HA
  simp only [spec_l8Wire.j0] at H
  by_cases c10 : x22_1 = true
  ·subst c10
   rw [if_pos rfl] at H
   obtain rfl:=Option.some.inj H
   go_wp2
   go_ret
   exact ⟨fe,h1 HB.out GE111.out⟩
  replace c10:=Bool.eq_false_iff.mpr c10
  subst c10
  rw [if_neg (show ¬ (false = true) by decide)] at H
  have H':=Aside0.mk H
  clear H
  go_wp2
  go_loopg [3] kj1 (fun kq v3 w'=>∃ (x3_2 : Int),v3 = .int .i64 x3_2 ∧ Aside0 (spec_l8Wire.l0 kq x3_2 a0_0 l0_1 l0_2 = some r) ∧ Aside0 (kq ≤ kj1) ∧ Aside0 (w'.heap[gb111]? = some (.cells #[.int .i64 a0_0,(.slice A0_1 l0_1.length c0_1),(.slice A0_2 l0_2.length c0_2)] 27 (0,0))) ∧ Aside0 (Below w.heap.size w w'))
  case atStart=>exact ⟨(0),fd,H',⟨Nat.le_refl _⟩,⟨bm BK111.out⟩,⟨h1 HB.out GE111.out⟩⟩
  clear H'
  obtain ⟨x3_2,rfl,HA,HK2,BK111,HB⟩:=hrel
  cases gk with
  | zero=>exact absurd HA.out (by simp [spec_l8Wire.l0])
  | succ k2 =>
   have H:=HA.out
   clear HA
   simp only [spec_l8Wire.l0] at H
   by_cases c11 : x3_2 < (l0_1.length : Int)
   rotate_left
   ·rw [if_neg c11] at H
    have c11b0 : decide (x3_2 < (l0_1.length : Int)) = false:=decide_eq_false c11
    clear c11
    obtain rfl:=Option.some.inj H
    have hcz42_0 : wr.cell? ⟨gb111,0,none⟩ = some (.int .i64 a0_0):=(blk_cell BK111.out 0).trans rfl
    have hcz42_1 : wr.cell? ⟨gb111,1,none⟩ = some (.slice A0_1 l0_1.length c0_1):=(blk_cell BK111.out 1).trans rfl
    have hcz42_2 : wr.cell? ⟨gb111,2,none⟩ = some (.slice A0_2 l0_2.length c0_2):=(blk_cell BK111.out 2).trans rfl
    have hfz42_0:=blk_frozen BK111.out 0
    have hfz42_1:=blk_frozen BK111.out 1
    have hfz42_2:=blk_frozen BK111.out 2
    go_wp2
    go_ret
    exact ⟨fe,h1 HB.out GE111.out⟩
   rw [if_pos c11] at H
   have c11b0 : decide (x3_2 < (l0_1.length : Int)) = true:=decide_eq_true c11
   clear c11
   by_cases c12 : 0 ≤ x3_2
   rotate_left
   ·rw [if_neg c12] at H
    exact absurd H (by simp)
   rw [if_pos c12] at H
   have c12b0 : decide (0 ≤ x3_2) = true:=decide_eq_true c12
   clear c12
   replace H:=Option.bind_eq_some_iff.mp H
   obtain ⟨t114,A130,H⟩:=H
   have A13:=Aside0.mk A130
   clear A130
   by_cases c14 : t114 = true
   rotate_left
   ·replace c14:=Bool.eq_false_iff.mpr c14
    subst c14
    rw [if_neg (show ¬ (false = true) by decide)] at H
    obtain rfl:=Option.some.inj H
    have hcz40_0 : wr.cell? ⟨gb111,0,none⟩ = some (.int .i64 a0_0):=(blk_cell BK111.out 0).trans rfl
    have hcz40_1 : wr.cell? ⟨gb111,1,none⟩ = some (.slice A0_1 l0_1.length c0_1):=(blk_cell BK111.out 1).trans rfl
    have hcz40_2 : wr.cell? ⟨gb111,2,none⟩ = some (.slice A0_2 l0_2.length c0_2):=(blk_cell BK111.out 2).trans rfl
    have hfz40_0:=blk_frozen BK111.out 0
    have hfz40_1:=blk_frozen BK111.out 1
    have hfz40_2:=blk_frozen BK111.out 2
    try go_wp2
    replace BK111:=ak (blk_drew BK111.out)
    replace HB:=ak (below_drew1 HB.out)
    have p113 : 0 ≤ (x3_2 : Int):=od
    have q113 : x3_2 < (l0_1.length : Int):=od
    obtain ⟨ad113,e113,hx113_0⟩:=Kd.at_int HR0_1.out x3_2 p113 q113
    have hw113_0:=hx113_0
    cases e113
    replace hx113_0:=(HB.out.cell (World.block_lt_of_cell? w _ hx113_0)).trans hx113_0
    replace p113:=eq_true p113
    replace q113:=eq_true q113
    refine start_ (n:=43) (S:=fun w'=>w'.cell? ⟨gb111,0,none⟩ = some (.int .i64 a0_0) ∧ w'.cell? ⟨gb111,1,none⟩ = some (.slice (some ad113) l0_1.length c0_1) ∧ w'.cell? ⟨gb111,2,none⟩ = some (.slice A0_2 l0_2.length c0_2) ∧ w'.cell? (ad113.add (x3_2).toNat) = some (.int .i64 (rd l0_1 x3_2))) (ds:=[]) (lb 43 0) (by kernel_rfl) rfl rfl ⟨(blk_cell BK111.out 0).trans rfl,(blk_cell BK111.out 1).trans rfl,(blk_cell BK111.out 2).trans rfl,((HB.out.cell (World.block_lt_of_cell? w _ hw113_0)).trans hw113_0)⟩ (fun hHeld=>?_);refine with_tabW spec_l8Wire.tab6 spec_l8Wire.bits6 (fun HT_ HW_=>?_)
    generalize wr.drew = w41 at BK111 HB hx113_0 hHeld ⊢
    refine pq 0 (N:=some 30) (lb 43 1) HT_ ?_
    refine pq 2 (N:=some 32) (lb 43 5) HT_ ?_
    refine pq 5 (N:=some 35) (lb 43 37) HT_ ?_
    refine tq 1 (N:=some 31) (lb 43 39) HT_ HW_ hHeld ?_
    refine pq 3 (N:=some 33) (lb 43 47) HT_ ?_
    refine tq 4 (N:=some 34) (lb 43 63) HT_ HW_ hHeld ?_
    refine tq 6 (N:=some 36) (lb 43 127) HT_ HW_ hHeld ?_
    refine one_ (i:=7) (N:=some 37) (lb 43 255) rfl rfl (one_of HT_.out (by kernel_rfl)) (by decide) (fun K hK=>?_)
    refine goes_ Try.func58 (by kernel_rfl) rfl #[.int .i64 (rd l0_1 x3_2),.int .i64 0,.int .i64 a0_0] (by rfl) rfl rfl gl ?_
    with_reducible refine (spec_l1In.calls (rd l0_1 x3_2) 0 a0_0 false _ A13.out).mono ?_
    rintro e w' ⟨rfl,⟨nd,rfl⟩⟩
    refine ⟨_,rfl,?_⟩
    refine hK.out _ _ ⟨(blk_cell BK111.out 0).trans rfl,(blk_cell BK111.out 1).trans rfl,(blk_cell BK111.out 2).trans rfl,((HB.out.cell (World.block_lt_of_cell? w _ hw113_0)).trans hw113_0)⟩ (fun hHeld=>?_)
    clear hK K
    refine norm_ (a':=?_) ?_ ?_
    rotate_left
    ·show Act.put _ (some 37) _ = _
     simp only [ap]
     rfl
    refine pq 8 (N:=some 38) (lb 43 511) HT_ ?_
    refine pq 9 (N:=some 39) (lb 43 1023) HT_ ?_
    refine pz 10 (N:=some 40) (lb 43 2047) HT_ ?_
    refine pz 11 (N:=some 41) (lb 43 4095) HT_ ?_
    refine pz 12 (N:=some 42) (lb 43 8191) HT_ ?_
    refine pz 13 (N:=some 43) (lb 43 16383) HT_ ?_
    refine pz 14 (N:=some 44) (lb 43 32767) HT_ ?_
    refine pz 15 (N:=some 45) (lb 43 65535) HT_ ?_
    refine pz 16 (N:=some 46) (lb 43 131071) HT_ ?_
    refine pz 17 (N:=some 47) (lb 43 262143) HT_ ?_
    refine pz 18 (N:=some 48) (lb 43 524287) HT_ ?_
    refine pz 19 (N:=some 49) (lb 43 1048575) HT_ ?_
    refine pz 20 (N:=some 50) (lb 43 2097151) HT_ ?_
    refine pz 21 (N:=some 51) (lb 43 4194303) HT_ ?_
    refine pz 22 (N:=some 52) (lb 43 8388607) HT_ ?_
    refine pz 23 (N:=some 53) (lb 43 16777215) HT_ ?_
    refine pz 24 (N:=some 54) (lb 43 33554431) HT_ ?_
    refine pz 25 (N:=some 55) (lb 43 67108863) HT_ ?_
    refine pq 26 (N:=some 56) (lb 43 134217727) HT_ ?_
    refine pq 27 (N:=some 57) (lb 43 268435455) HT_ ?_
    refine pz 28 (N:=some 58) (lb 43 536870911) HT_ ?_
    refine pz 29 (N:=some 59) (lb 43 1073741823) HT_ ?_
    refine pz 30 (N:=some 60) (lb 43 2147483647) HT_ ?_
    refine pz 31 (N:=some 61) (lb 43 4294967295) HT_ ?_
    refine pz 32 (N:=some 62) (lb 43 8589934591) HT_ ?_
    refine pz 33 (N:=some 63) (lb 43 17179869183) HT_ ?_
    refine pz 34 (N:=some 64) (lb 43 34359738367) HT_ ?_
    refine pz 35 (N:=some 65) (lb 43 68719476735) HT_ ?_
    refine pz 36 (N:=some 66) (lb 43 137438953471) HT_ ?_
    refine pz 37 (N:=some 67) (lb 43 274877906943) HT_ ?_
    refine pz 38 (N:=some 68) (lb 43 549755813887) HT_ ?_
    refine pz 39 (N:=some 69) (lb 43 1099511627775) HT_ ?_
    refine pz 40 (N:=some 70) (lb 43 2199023255551) HT_ ?_
    refine pz 41 (N:=some 71) (lb 43 4398046511103) HT_ ?_
    refine pq 42 (N:=some 72) (lb 43 8796093022207) HT_ ?_
    refine done_ (done_of HT_.out (by kernel_rfl)) ?_
    try go_wp2
    go_ret
    exact ⟨fe,h1 HB.out GE111.out⟩
   subst c14
   rw [if_pos rfl] at H
   by_cases c15 : x3_2 > 0
   rotate_left
   ·rw [if_neg c15] at H
    have c15b0 : decide (0 < x3_2) = false:=decide_eq_false c15
    clear c15
    by_cases c31 : x3_2 < (l0_2.length : Int)
    rotate_left
    ·rw [if_neg c31] at H
     exact absurd H (by simp)
    rw [if_pos c31] at H
    have c31b0 : decide (x3_2 < (l0_2.length : Int)) = true:=decide_eq_true c31
    clear c31
    by_cases c32 : (rd l0_2 x3_2) = 1
    ·rw [if_pos c32] at H
     have c32b0 : ((rd l0_2 x3_2) == 1) = true:=beq_iff_eq.mpr c32
     have c32b1 : ((rd l0_2 x3_2) != 1) = false:=bne_eq_false_iff_eq.mpr c32
     clear c32
     have H':=Aside0.mk H
     clear H
     have hcz33_0 : wr.cell? ⟨gb111,0,none⟩ = some (.int .i64 a0_0):=(blk_cell BK111.out 0).trans rfl
     have hcz33_1 : wr.cell? ⟨gb111,1,none⟩ = some (.slice A0_1 l0_1.length c0_1):=(blk_cell BK111.out 1).trans rfl
     have hcz33_2 : wr.cell? ⟨gb111,2,none⟩ = some (.slice A0_2 l0_2.length c0_2):=(blk_cell BK111.out 2).trans rfl
     have hfz33_0:=blk_frozen BK111.out 0
     have hfz33_1:=blk_frozen BK111.out 1
     have hfz33_2:=blk_frozen BK111.out 2
     try go_wp2
     replace BK111:=ak (blk_drew BK111.out)
     replace HB:=ak (below_drew1 HB.out)
     have p113 : 0 ≤ (x3_2 : Int):=od
     have q113 : x3_2 < (l0_1.length : Int):=od
     obtain ⟨ad113,e113,hx113_0⟩:=Kd.at_int HR0_1.out x3_2 p113 q113
     have hw113_0:=hx113_0
     cases e113
     replace hx113_0:=(HB.out.cell (World.block_lt_of_cell? w _ hx113_0)).trans hx113_0
     replace p113:=eq_true p113
     replace q113:=eq_true q113
     have p119 : 0 ≤ (x3_2 : Int):=od
     have q119 : x3_2 < (l0_2.length : Int):=od
     obtain ⟨ad119,e119,hx119_0⟩:=Kd.at_int HR0_2.out x3_2 p119 q119
     have hw119_0:=hx119_0
     cases e119
     replace hx119_0:=(HB.out.cell (World.block_lt_of_cell? w _ hx119_0)).trans hx119_0
     replace p119:=eq_true p119
     replace q119:=eq_true q119
     refine start_ (n:=43) (S:=fun w'=>w'.cell? ⟨gb111,0,none⟩ = some (.int .i64 a0_0) ∧ w'.cell? ⟨gb111,1,none⟩ = some (.slice (some ad113) l0_1.length c0_1) ∧ w'.cell? ⟨gb111,2,none⟩ = some (.slice (some ad119) l0_2.length c0_2) ∧ w'.cell? (ad113.add (x3_2).toNat) = some (.int .i64 (rd l0_1 x3_2)) ∧ w'.cell? (ad119.add (x3_2).toNat) = some (.int .i64 (rd l0_2 x3_2))) (ds:=[]) (lb 43 0) (by kernel_rfl) rfl rfl ⟨(blk_cell BK111.out 0).trans rfl,(blk_cell BK111.out 1).trans rfl,(blk_cell BK111.out 2).trans rfl,((HB.out.cell (World.block_lt_of_cell? w _ hw113_0)).trans hw113_0),((HB.out.cell (World.block_lt_of_cell? w _ hw119_0)).trans hw119_0)⟩ (fun hHeld=>?_);refine with_tabW spec_l8Wire.tab6 spec_l8Wire.bits6 (fun HT_ HW_=>?_)
     generalize wr.drew = w34 at BK111 HB hx113_0 hx119_0 hHeld ⊢
     refine pq 0 (N:=some 30) (lb 43 1) HT_ ?_
     refine pq 2 (N:=some 32) (lb 43 5) HT_ ?_
     refine pq 5 (N:=some 35) (lb 43 37) HT_ ?_
     refine tq 1 (N:=some 31) (lb 43 39) HT_ HW_ hHeld ?_
     refine pq 3 (N:=some 33) (lb 43 47) HT_ ?_
     refine tq 4 (N:=some 34) (lb 43 63) HT_ HW_ hHeld ?_
     refine tq 6 (N:=some 36) (lb 43 127) HT_ HW_ hHeld ?_
     refine one_ (i:=7) (N:=some 37) (lb 43 255) rfl rfl (one_of HT_.out (by kernel_rfl)) (by decide) (fun K hK=>?_)
     refine goes_ Try.func58 (by kernel_rfl) rfl #[.int .i64 (rd l0_1 x3_2),.int .i64 0,.int .i64 a0_0] (by rfl) rfl rfl gl ?_
     with_reducible refine (spec_l1In.calls (rd l0_1 x3_2) 0 a0_0 true _ A13.out).mono ?_
     rintro e w' ⟨rfl,⟨nd,rfl⟩⟩
     refine ⟨_,rfl,?_⟩
     refine hK.out _ _ ⟨(blk_cell BK111.out 0).trans rfl,(blk_cell BK111.out 1).trans rfl,(blk_cell BK111.out 2).trans rfl,((HB.out.cell (World.block_lt_of_cell? w _ hw113_0)).trans hw113_0),((HB.out.cell (World.block_lt_of_cell? w _ hw119_0)).trans hw119_0)⟩ (fun hHeld=>?_)
     clear hK K
     refine norm_ (a':=?_) ?_ ?_
     rotate_left
     ·show Act.put _ (some 37) _ = _
      simp only [ap]
      rfl
     refine pq 8 (N:=some 38) (lb 43 511) HT_ ?_
     refine pq 9 (N:=some 39) (lb 43 1023) HT_ ?_
     refine pq 10 (N:=some 40) (lb 43 2047) HT_ ?_
     refine pq 11 (N:=some 41) (lb 43 4095) HT_ ?_
     refine pq 12 (N:=some 42) (lb 43 8191) HT_ ?_
     refine pz 13 (N:=some 43) (lb 43 16383) HT_ ?_
     refine pz 14 (N:=some 44) (lb 43 32767) HT_ ?_
     refine pz 15 (N:=some 45) (lb 43 65535) HT_ ?_
     refine pz 16 (N:=some 46) (lb 43 131071) HT_ ?_
     refine pz 17 (N:=some 47) (lb 43 262143) HT_ ?_
     refine pz 18 (N:=some 48) (lb 43 524287) HT_ ?_
     refine pz 19 (N:=some 49) (lb 43 1048575) HT_ ?_
     refine pz 20 (N:=some 50) (lb 43 2097151) HT_ ?_
     refine pz 21 (N:=some 51) (lb 43 4194303) HT_ ?_
     refine pz 22 (N:=some 52) (lb 43 8388607) HT_ ?_
     refine pz 23 (N:=some 53) (lb 43 16777215) HT_ ?_
     refine pz 24 (N:=some 54) (lb 43 33554431) HT_ ?_
     refine pq 25 (N:=some 55) (lb 43 67108863) HT_ ?_
     refine pq 26 (N:=some 56) (lb 43 134217727) HT_ ?_
     refine pq 27 (N:=some 57) (lb 43 268435455) HT_ ?_
     refine pq 28 (N:=some 58) (lb 43 536870911) HT_ ?_
     refine pq 30 (N:=some 60) (lb 43 1610612735) HT_ ?_
     refine tq 29 (N:=some 59) (lb 43 2147483647) HT_ HW_ hHeld ?_
     refine pq 31 (N:=some 61) (lb 43 4294967295) HT_ ?_
     refine tq 32 (N:=some 62) (lb 43 8589934591) HT_ HW_ hHeld ?_
     refine pq 33 (N:=some 63) (lb 43 17179869183) HT_ ?_
     refine pq 34 (N:=some 64) (lb 43 34359738367) HT_ ?_
     refine pz 35 (N:=some 65) (lb 43 68719476735) HT_ ?_
     refine pz 36 (N:=some 66) (lb 43 137438953471) HT_ ?_
     refine pz 37 (N:=some 67) (lb 43 274877906943) HT_ ?_
     refine pz 38 (N:=some 68) (lb 43 549755813887) HT_ ?_
     refine pz 39 (N:=some 69) (lb 43 1099511627775) HT_ ?_
     refine pz 40 (N:=some 70) (lb 43 2199023255551) HT_ ?_
     refine pq 41 (N:=some 71) (lb 43 4398046511103) HT_ ?_
     refine pq 42 (N:=some 72) (lb 43 8796093022207) HT_ ?_
     refine done_ (done_of HT_.out (by kernel_rfl)) ?_
     try go_wp2
     go_roundg k2
     case measure=>have:=HJ1.out;have:=HK2.out;omega
     case rel=>exact ⟨(wrap64 (x3_2 + 1)),fd,H',⟨by have:=HJ1.out;have:=HK2.out;omega⟩,⟨bm BK111.out⟩,⟨h1 HB.out GE111.out⟩⟩
    rw [if_neg c32] at H
    have c32b0 : ((rd l0_2 x3_2) == 1) = false:=beq_eq_false_iff_ne.mpr c32
    have c32b1 : ((rd l0_2 x3_2) != 1) = true:=bne_iff_ne.mpr c32
    by_cases c35 : (rd l0_2 x3_2) = (-1)
    rotate_left
    ·rw [if_neg c35] at H
     have c35b0 : ((rd l0_2 x3_2) == (-1)) = false:=beq_eq_false_iff_ne.mpr c35
     have c35b1 : ((rd l0_2 x3_2) != (-1)) = true:=bne_iff_ne.mpr c35
     obtain rfl:=Option.some.inj H
     have hcz38_0 : wr.cell? ⟨gb111,0,none⟩ = some (.int .i64 a0_0):=(blk_cell BK111.out 0).trans rfl
     have hcz38_1 : wr.cell? ⟨gb111,1,none⟩ = some (.slice A0_1 l0_1.length c0_1):=(blk_cell BK111.out 1).trans rfl
     have hcz38_2 : wr.cell? ⟨gb111,2,none⟩ = some (.slice A0_2 l0_2.length c0_2):=(blk_cell BK111.out 2).trans rfl
     have hfz38_0:=blk_frozen BK111.out 0
     have hfz38_1:=blk_frozen BK111.out 1
     have hfz38_2:=blk_frozen BK111.out 2
     try go_wp2
     replace BK111:=ak (blk_drew BK111.out)
     replace HB:=ak (below_drew1 HB.out)
     have p113 : 0 ≤ (x3_2 : Int):=od
     have q113 : x3_2 < (l0_1.length : Int):=od
     obtain ⟨ad113,e113,hx113_0⟩:=Kd.at_int HR0_1.out x3_2 p113 q113
     have hw113_0:=hx113_0
     cases e113
     replace hx113_0:=(HB.out.cell (World.block_lt_of_cell? w _ hx113_0)).trans hx113_0
     replace p113:=eq_true p113
     replace q113:=eq_true q113
     have p119 : 0 ≤ (x3_2 : Int):=od
     have q119 : x3_2 < (l0_2.length : Int):=od
     obtain ⟨ad119,e119,hx119_0⟩:=Kd.at_int HR0_2.out x3_2 p119 q119
     have hw119_0:=hx119_0
     cases e119
     replace hx119_0:=(HB.out.cell (World.block_lt_of_cell? w _ hx119_0)).trans hx119_0
     replace p119:=eq_true p119
     replace q119:=eq_true q119
     have p120 : 0 ≤ (x3_2 : Int):=od
     have q120 : x3_2 < (l0_2.length : Int):=od
     obtain ⟨ad120,e120,hx120_0⟩:=Kd.at_int HR0_2.out x3_2 p120 q120
     have hw120_0:=hx120_0
     obtain rfl : ad119 = ad120:=(by injection e120)
     replace hx120_0:=(HB.out.cell (World.block_lt_of_cell? w _ hx120_0)).trans hx120_0
     replace p120:=eq_true p120
     replace q120:=eq_true q120
     refine start_ (n:=43) (S:=fun w'=>w'.cell? ⟨gb111,0,none⟩ = some (.int .i64 a0_0) ∧ w'.cell? ⟨gb111,1,none⟩ = some (.slice (some ad113) l0_1.length c0_1) ∧ w'.cell? ⟨gb111,2,none⟩ = some (.slice (some ad119) l0_2.length c0_2) ∧ w'.cell? (ad113.add (x3_2).toNat) = some (.int .i64 (rd l0_1 x3_2)) ∧ w'.cell? (ad119.add (x3_2).toNat) = some (.int .i64 (rd l0_2 x3_2)) ∧ w'.cell? (ad119.add (x3_2).toNat) = some (.int .i64 (rd l0_2 x3_2))) (ds:=[]) (lb 43 0) (by kernel_rfl) rfl rfl ⟨(blk_cell BK111.out 0).trans rfl,(blk_cell BK111.out 1).trans rfl,(blk_cell BK111.out 2).trans rfl,((HB.out.cell (World.block_lt_of_cell? w _ hw113_0)).trans hw113_0),((HB.out.cell (World.block_lt_of_cell? w _ hw119_0)).trans hw119_0),((HB.out.cell (World.block_lt_of_cell? w _ hw120_0)).trans hw120_0)⟩ (fun hHeld=>?_);refine with_tabW spec_l8Wire.tab6 spec_l8Wire.bits6 (fun HT_ HW_=>?_)
     generalize wr.drew = w39 at BK111 HB hx113_0 hx119_0 hx120_0 hHeld ⊢
     refine pq 0 (N:=some 30) (lb 43 1) HT_ ?_
     refine pq 2 (N:=some 32) (lb 43 5) HT_ ?_
     refine pq 5 (N:=some 35) (lb 43 37) HT_ ?_
     refine tq 1 (N:=some 31) (lb 43 39) HT_ HW_ hHeld ?_
     refine pq 3 (N:=some 33) (lb 43 47) HT_ ?_
     refine tq 4 (N:=some 34) (lb 43 63) HT_ HW_ hHeld ?_
     refine tq 6 (N:=some 36) (lb 43 127) HT_ HW_ hHeld ?_
     refine one_ (i:=7) (N:=some 37) (lb 43 255) rfl rfl (one_of HT_.out (by kernel_rfl)) (by decide) (fun K hK=>?_)
     refine goes_ Try.func58 (by kernel_rfl) rfl #[.int .i64 (rd l0_1 x3_2),.int .i64 0,.int .i64 a0_0] (by rfl) rfl rfl gl ?_
     with_reducible refine (spec_l1In.calls (rd l0_1 x3_2) 0 a0_0 true _ A13.out).mono ?_
     rintro e w' ⟨rfl,⟨nd,rfl⟩⟩
     refine ⟨_,rfl,?_⟩
     refine hK.out _ _ ⟨(blk_cell BK111.out 0).trans rfl,(blk_cell BK111.out 1).trans rfl,(blk_cell BK111.out 2).trans rfl,((HB.out.cell (World.block_lt_of_cell? w _ hw113_0)).trans hw113_0),((HB.out.cell (World.block_lt_of_cell? w _ hw119_0)).trans hw119_0),((HB.out.cell (World.block_lt_of_cell? w _ hw120_0)).trans hw120_0)⟩ (fun hHeld=>?_)
     clear hK K
     refine norm_ (a':=?_) ?_ ?_
     rotate_left
     ·show Act.put _ (some 37) _ = _
      simp only [ap]
      rfl
     refine pq 8 (N:=some 38) (lb 43 511) HT_ ?_
     refine pq 9 (N:=some 39) (lb 43 1023) HT_ ?_
     refine pq 10 (N:=some 40) (lb 43 2047) HT_ ?_
     refine pq 11 (N:=some 41) (lb 43 4095) HT_ ?_
     refine pq 12 (N:=some 42) (lb 43 8191) HT_ ?_
     refine pz 13 (N:=some 43) (lb 43 16383) HT_ ?_
     refine pz 14 (N:=some 44) (lb 43 32767) HT_ ?_
     refine pz 15 (N:=some 45) (lb 43 65535) HT_ ?_
     refine pz 16 (N:=some 46) (lb 43 131071) HT_ ?_
     refine pz 17 (N:=some 47) (lb 43 262143) HT_ ?_
     refine pz 18 (N:=some 48) (lb 43 524287) HT_ ?_
     refine pz 19 (N:=some 49) (lb 43 1048575) HT_ ?_
     refine pz 20 (N:=some 50) (lb 43 2097151) HT_ ?_
     refine pz 21 (N:=some 51) (lb 43 4194303) HT_ ?_
     refine pz 22 (N:=some 52) (lb 43 8388607) HT_ ?_
     refine pz 23 (N:=some 53) (lb 43 16777215) HT_ ?_
     refine pz 24 (N:=some 54) (lb 43 33554431) HT_ ?_
     refine pq 25 (N:=some 55) (lb 43 67108863) HT_ ?_
     refine pq 26 (N:=some 56) (lb 43 134217727) HT_ ?_
     refine pq 27 (N:=some 57) (lb 43 268435455) HT_ ?_
     refine pq 28 (N:=some 58) (lb 43 536870911) HT_ ?_
     refine pq 30 (N:=some 60) (lb 43 1610612735) HT_ ?_
     refine tq 29 (N:=some 59) (lb 43 2147483647) HT_ HW_ hHeld ?_
     refine pq 31 (N:=some 61) (lb 43 4294967295) HT_ ?_
     refine tq 32 (N:=some 62) (lb 43 8589934591) HT_ HW_ hHeld ?_
     refine pq 33 (N:=some 63) (lb 43 17179869183) HT_ ?_
     refine pq 34 (N:=some 64) (lb 43 34359738367) HT_ ?_
     refine pq 35 (N:=some 65) (lb 43 68719476735) HT_ ?_
     refine pq 37 (N:=some 67) (lb 43 206158430207) HT_ ?_
     refine tq 36 (N:=some 66) (lb 43 274877906943) HT_ HW_ hHeld ?_
     refine pq 38 (N:=some 68) (lb 43 549755813887) HT_ ?_
     refine tq 39 (N:=some 69) (lb 43 1099511627775) HT_ HW_ hHeld ?_
     refine pq 40 (N:=some 70) (lb 43 2199023255551) HT_ ?_
     refine pq 41 (N:=some 71) (lb 43 4398046511103) HT_ ?_
     refine pq 42 (N:=some 72) (lb 43 8796093022207) HT_ ?_
     refine done_ (done_of HT_.out (by kernel_rfl)) ?_
     try go_wp2
     go_ret
     exact ⟨fe,h1 HB.out GE111.out⟩
    rw [if_pos c35] at H
    have c35b0 : ((rd l0_2 x3_2) == (-1)) = true:=beq_iff_eq.mpr c35
    have c35b1 : ((rd l0_2 x3_2) != (-1)) = false:=bne_eq_false_iff_eq.mpr c35
    clear c35
    have H':=Aside0.mk H
    clear H
    have hcz36_0 : wr.cell? ⟨gb111,0,none⟩ = some (.int .i64 a0_0):=(blk_cell BK111.out 0).trans rfl
    have hcz36_1 : wr.cell? ⟨gb111,1,none⟩ = some (.slice A0_1 l0_1.length c0_1):=(blk_cell BK111.out 1).trans rfl
    have hcz36_2 : wr.cell? ⟨gb111,2,none⟩ = some (.slice A0_2 l0_2.length c0_2):=(blk_cell BK111.out 2).trans rfl
    have hfz36_0:=blk_frozen BK111.out 0
    have hfz36_1:=blk_frozen BK111.out 1
    have hfz36_2:=blk_frozen BK111.out 2
    try go_wp2
    replace BK111:=ak (blk_drew BK111.out)
    replace HB:=ak (below_drew1 HB.out)
    have p113 : 0 ≤ (x3_2 : Int):=od
    have q113 : x3_2 < (l0_1.length : Int):=od
    obtain ⟨ad113,e113,hx113_0⟩:=Kd.at_int HR0_1.out x3_2 p113 q113
    have hw113_0:=hx113_0
    cases e113
    replace hx113_0:=(HB.out.cell (World.block_lt_of_cell? w _ hx113_0)).trans hx113_0
    replace p113:=eq_true p113
    replace q113:=eq_true q113
    have p119 : 0 ≤ (x3_2 : Int):=od
    have q119 : x3_2 < (l0_2.length : Int):=od
    obtain ⟨ad119,e119,hx119_0⟩:=Kd.at_int HR0_2.out x3_2 p119 q119
    have hw119_0:=hx119_0
    cases e119
    replace hx119_0:=(HB.out.cell (World.block_lt_of_cell? w _ hx119_0)).trans hx119_0
    replace p119:=eq_true p119
    replace q119:=eq_true q119
    have p120 : 0 ≤ (x3_2 : Int):=od
    have q120 : x3_2 < (l0_2.length : Int):=od
    obtain ⟨ad120,e120,hx120_0⟩:=Kd.at_int HR0_2.out x3_2 p120 q120
    have hw120_0:=hx120_0
    obtain rfl : ad119 = ad120:=(by injection e120)
    replace hx120_0:=(HB.out.cell (World.block_lt_of_cell? w _ hx120_0)).trans hx120_0
    replace p120:=eq_true p120
    replace q120:=eq_true q120
    refine start_ (n:=43) (S:=fun w'=>w'.cell? ⟨gb111,0,none⟩ = some (.int .i64 a0_0) ∧ w'.cell? ⟨gb111,1,none⟩ = some (.slice (some ad113) l0_1.length c0_1) ∧ w'.cell? ⟨gb111,2,none⟩ = some (.slice (some ad119) l0_2.length c0_2) ∧ w'.cell? (ad113.add (x3_2).toNat) = some (.int .i64 (rd l0_1 x3_2)) ∧ w'.cell? (ad119.add (x3_2).toNat) = some (.int .i64 (rd l0_2 x3_2)) ∧ w'.cell? (ad119.add (x3_2).toNat) = some (.int .i64 (rd l0_2 x3_2))) (ds:=[]) (lb 43 0) (by kernel_rfl) rfl rfl ⟨(blk_cell BK111.out 0).trans rfl,(blk_cell BK111.out 1).trans rfl,(blk_cell BK111.out 2).trans rfl,((HB.out.cell (World.block_lt_of_cell? w _ hw113_0)).trans hw113_0),((HB.out.cell (World.block_lt_of_cell? w _ hw119_0)).trans hw119_0),((HB.out.cell (World.block_lt_of_cell? w _ hw120_0)).trans hw120_0)⟩ (fun hHeld=>?_);refine with_tabW spec_l8Wire.tab6 spec_l8Wire.bits6 (fun HT_ HW_=>?_)
    generalize wr.drew = w37 at BK111 HB hx113_0 hx119_0 hx120_0 hHeld ⊢
    refine pq 0 (N:=some 30) (lb 43 1) HT_ ?_
    refine pq 2 (N:=some 32) (lb 43 5) HT_ ?_
    refine pq 5 (N:=some 35) (lb 43 37) HT_ ?_
    refine tq 1 (N:=some 31) (lb 43 39) HT_ HW_ hHeld ?_
    refine pq 3 (N:=some 33) (lb 43 47) HT_ ?_
    refine tq 4 (N:=some 34) (lb 43 63) HT_ HW_ hHeld ?_
    refine tq 6 (N:=some 36) (lb 43 127) HT_ HW_ hHeld ?_
    refine one_ (i:=7) (N:=some 37) (lb 43 255) rfl rfl (one_of HT_.out (by kernel_rfl)) (by decide) (fun K hK=>?_)
    refine goes_ Try.func58 (by kernel_rfl) rfl #[.int .i64 (rd l0_1 x3_2),.int .i64 0,.int .i64 a0_0] (by rfl) rfl rfl gl ?_
    with_reducible refine (spec_l1In.calls (rd l0_1 x3_2) 0 a0_0 true _ A13.out).mono ?_
    rintro e w' ⟨rfl,⟨nd,rfl⟩⟩
    refine ⟨_,rfl,?_⟩
    refine hK.out _ _ ⟨(blk_cell BK111.out 0).trans rfl,(blk_cell BK111.out 1).trans rfl,(blk_cell BK111.out 2).trans rfl,((HB.out.cell (World.block_lt_of_cell? w _ hw113_0)).trans hw113_0),((HB.out.cell (World.block_lt_of_cell? w _ hw119_0)).trans hw119_0),((HB.out.cell (World.block_lt_of_cell? w _ hw120_0)).trans hw120_0)⟩ (fun hHeld=>?_)
    clear hK K
    refine norm_ (a':=?_) ?_ ?_
    rotate_left
    ·show Act.put _ (some 37) _ = _
     simp only [ap]
     rfl
    refine pq 8 (N:=some 38) (lb 43 511) HT_ ?_
    refine pq 9 (N:=some 39) (lb 43 1023) HT_ ?_
    refine pq 10 (N:=some 40) (lb 43 2047) HT_ ?_
    refine pq 11 (N:=some 41) (lb 43 4095) HT_ ?_
    refine pq 12 (N:=some 42) (lb 43 8191) HT_ ?_
    refine pz 13 (N:=some 43) (lb 43 16383) HT_ ?_
    refine pz 14 (N:=some 44) (lb 43 32767) HT_ ?_
    refine pz 15 (N:=some 45) (lb 43 65535) HT_ ?_
    refine pz 16 (N:=some 46) (lb 43 131071) HT_ ?_
    refine pz 17 (N:=some 47) (lb 43 262143) HT_ ?_
    refine pz 18 (N:=some 48) (lb 43 524287) HT_ ?_
    refine pz 19 (N:=some 49) (lb 43 1048575) HT_ ?_
    refine pz 20 (N:=some 50) (lb 43 2097151) HT_ ?_
    refine pz 21 (N:=some 51) (lb 43 4194303) HT_ ?_
    refine pz 22 (N:=some 52) (lb 43 8388607) HT_ ?_
    refine pz 23 (N:=some 53) (lb 43 16777215) HT_ ?_
    refine pz 24 (N:=some 54) (lb 43 33554431) HT_ ?_
    refine pq 25 (N:=some 55) (lb 43 67108863) HT_ ?_
    refine pq 26 (N:=some 56) (lb 43 134217727) HT_ ?_
    refine pq 27 (N:=some 57) (lb 43 268435455) HT_ ?_
    refine pq 28 (N:=some 58) (lb 43 536870911) HT_ ?_
    refine pq 30 (N:=some 60) (lb 43 1610612735) HT_ ?_
    refine tq 29 (N:=some 59) (lb 43 2147483647) HT_ HW_ hHeld ?_
    refine pq 31 (N:=some 61) (lb 43 4294967295) HT_ ?_
    refine tq 32 (N:=some 62) (lb 43 8589934591) HT_ HW_ hHeld ?_
    refine pq 33 (N:=some 63) (lb 43 17179869183) HT_ ?_
    refine pq 34 (N:=some 64) (lb 43 34359738367) HT_ ?_
    refine pq 35 (N:=some 65) (lb 43 68719476735) HT_ ?_
    refine pq 37 (N:=some 67) (lb 43 206158430207) HT_ ?_
    refine tq 36 (N:=some 66) (lb 43 274877906943) HT_ HW_ hHeld ?_
    refine pq 38 (N:=some 68) (lb 43 549755813887) HT_ ?_
    refine tq 39 (N:=some 69) (lb 43 1099511627775) HT_ HW_ hHeld ?_
    refine pq 40 (N:=some 70) (lb 43 2199023255551) HT_ ?_
    refine pq 41 (N:=some 71) (lb 43 4398046511103) HT_ ?_
    refine pq 42 (N:=some 72) (lb 43 8796093022207) HT_ ?_
    refine done_ (done_of HT_.out (by kernel_rfl)) ?_
    try go_wp2
    go_roundg k2
    case measure=>have:=HJ1.out;have:=HK2.out;omega
    case rel=>exact ⟨(wrap64 (x3_2 + 1)),fd,H',⟨by have:=HJ1.out;have:=HK2.out;omega⟩,⟨bm BK111.out⟩,⟨h1 HB.out GE111.out⟩⟩
   rw [if_pos c15] at H
   have c15b0 : decide (0 < x3_2) = true:=decide_eq_true c15
   clear c15
   obtain ⟨ji16,hji16⟩ : ∃ j_ : Int,(wrap64 (x3_2 - 1)) = j_:=⟨_,rfl⟩
   replace H : (if 0 ≤ (ji16) then (if (ji16) < (l0_1.length : Int) then (if (rd l0_1 (ji16)) ≥ (rd l0_1 x3_2) then (some false) else (if x3_2 < (l0_2.length : Int) then (if (rd l0_2 x3_2) = 1 then (spec_l8Wire.l0 k2 (wrap64 (x3_2 + 1)) a0_0 l0_1 l0_2) else (if (rd l0_2 x3_2) = (-1) then (spec_l8Wire.l0 k2 (wrap64 (x3_2 + 1)) a0_0 l0_1 l0_2) else (some false))) else (none))) else (none)) else (none)) = some r:=by first|(rw [hji16] at H;exact H)|(simp only [hji16] at H ⊢;exact H)
   have hji16w : (IntKind.i64.wrap (x3_2 - 1)) = ji16:=(i64_w _).trans hji16
   by_cases c17 : 0 ≤ (ji16)
   rotate_left
   ·rw [if_neg c17] at H
    exact absurd H (by simp)
   rw [if_pos c17] at H
   have c17b0 : decide (0 ≤ (ji16)) = true:=decide_eq_true c17
   clear c17
   by_cases c18 : (ji16) < (l0_1.length : Int)
   rotate_left
   ·rw [if_neg c18] at H
    exact absurd H (by simp)
   rw [if_pos c18] at H
   have c18b0 : decide ((ji16) < (l0_1.length : Int)) = true:=decide_eq_true c18
   clear c18
   by_cases c19 : (rd l0_1 (ji16)) ≥ (rd l0_1 x3_2)
   ·rw [if_pos c19] at H
    have c19b0 : decide ((rd l0_1 x3_2) ≤ (rd l0_1 (ji16))) = true:=decide_eq_true c19
    clear c19
    obtain rfl:=Option.some.inj H
    have hcz20_0 : wr.cell? ⟨gb111,0,none⟩ = some (.int .i64 a0_0):=(blk_cell BK111.out 0).trans rfl
    have hcz20_1 : wr.cell? ⟨gb111,1,none⟩ = some (.slice A0_1 l0_1.length c0_1):=(blk_cell BK111.out 1).trans rfl
    have hcz20_2 : wr.cell? ⟨gb111,2,none⟩ = some (.slice A0_2 l0_2.length c0_2):=(blk_cell BK111.out 2).trans rfl
    have hfz20_0:=blk_frozen BK111.out 0
    have hfz20_1:=blk_frozen BK111.out 1
    have hfz20_2:=blk_frozen BK111.out 2
    try go_wp2
    replace BK111:=ak (blk_drew BK111.out)
    replace HB:=ak (below_drew1 HB.out)
    have p113 : 0 ≤ (x3_2 : Int):=od
    have q113 : x3_2 < (l0_1.length : Int):=od
    obtain ⟨ad113,e113,hx113_0⟩:=Kd.at_int HR0_1.out x3_2 p113 q113
    have hw113_0:=hx113_0
    cases e113
    replace hx113_0:=(HB.out.cell (World.block_lt_of_cell? w _ hx113_0)).trans hx113_0
    replace p113:=eq_true p113
    replace q113:=eq_true q113
    have p115 : 0 ≤ ((ji16) : Int):=od
    have q115 : (ji16) < (l0_1.length : Int):=od
    obtain ⟨ad115,e115,hx115_0⟩:=Kd.at_int HR0_1.out (ji16) p115 q115
    have hw115_0:=hx115_0
    obtain rfl : ad113 = ad115:=(by injection e115)
    replace hx115_0:=(HB.out.cell (World.block_lt_of_cell? w _ hx115_0)).trans hx115_0
    replace p115:=eq_true p115
    replace q115:=eq_true q115
    have p116 : 0 ≤ (x3_2 : Int):=od
    have q116 : x3_2 < (l0_1.length : Int):=od
    obtain ⟨ad116,e116,hx116_0⟩:=Kd.at_int HR0_1.out x3_2 p116 q116
    have hw116_0:=hx116_0
    obtain rfl : ad113 = ad116:=(by injection e116)
    replace hx116_0:=(HB.out.cell (World.block_lt_of_cell? w _ hx116_0)).trans hx116_0
    replace p116:=eq_true p116
    replace q116:=eq_true q116
    refine start_ (n:=43) (S:=fun w'=>w'.cell? ⟨gb111,0,none⟩ = some (.int .i64 a0_0) ∧ w'.cell? ⟨gb111,1,none⟩ = some (.slice (some ad113) l0_1.length c0_1) ∧ w'.cell? ⟨gb111,2,none⟩ = some (.slice A0_2 l0_2.length c0_2) ∧ w'.cell? (ad113.add (x3_2).toNat) = some (.int .i64 (rd l0_1 x3_2)) ∧ w'.cell? (ad113.add ((ji16)).toNat) = some (.int .i64 (rd l0_1 (ji16))) ∧ w'.cell? (ad113.add (x3_2).toNat) = some (.int .i64 (rd l0_1 x3_2))) (ds:=[]) (lb 43 0) (by kernel_rfl) rfl rfl ⟨(blk_cell BK111.out 0).trans rfl,(blk_cell BK111.out 1).trans rfl,(blk_cell BK111.out 2).trans rfl,((HB.out.cell (World.block_lt_of_cell? w _ hw113_0)).trans hw113_0),((HB.out.cell (World.block_lt_of_cell? w _ hw115_0)).trans hw115_0),((HB.out.cell (World.block_lt_of_cell? w _ hw116_0)).trans hw116_0)⟩ (fun hHeld=>?_);refine with_tabW spec_l8Wire.tab6 spec_l8Wire.bits6 (fun HT_ HW_=>?_)
    generalize wr.drew = w21 at BK111 HB hx113_0 hx115_0 hx116_0 hHeld ⊢
    refine pq 0 (N:=some 30) (lb 43 1) HT_ ?_
    refine pq 2 (N:=some 32) (lb 43 5) HT_ ?_
    refine pq 5 (N:=some 35) (lb 43 37) HT_ ?_
    refine tq 1 (N:=some 31) (lb 43 39) HT_ HW_ hHeld ?_
    refine pq 3 (N:=some 33) (lb 43 47) HT_ ?_
    refine tq 4 (N:=some 34) (lb 43 63) HT_ HW_ hHeld ?_
    refine tq 6 (N:=some 36) (lb 43 127) HT_ HW_ hHeld ?_
    refine one_ (i:=7) (N:=some 37) (lb 43 255) rfl rfl (one_of HT_.out (by kernel_rfl)) (by decide) (fun K hK=>?_)
    refine goes_ Try.func58 (by kernel_rfl) rfl #[.int .i64 (rd l0_1 x3_2),.int .i64 0,.int .i64 a0_0] (by rfl) rfl rfl gl ?_
    with_reducible refine (spec_l1In.calls (rd l0_1 x3_2) 0 a0_0 true _ A13.out).mono ?_
    rintro e w' ⟨rfl,⟨nd,rfl⟩⟩
    refine ⟨_,rfl,?_⟩
    refine hK.out _ _ ⟨(blk_cell BK111.out 0).trans rfl,(blk_cell BK111.out 1).trans rfl,(blk_cell BK111.out 2).trans rfl,((HB.out.cell (World.block_lt_of_cell? w _ hw113_0)).trans hw113_0),((HB.out.cell (World.block_lt_of_cell? w _ hw115_0)).trans hw115_0),((HB.out.cell (World.block_lt_of_cell? w _ hw116_0)).trans hw116_0)⟩ (fun hHeld=>?_)
    clear hK K
    refine norm_ (a':=?_) ?_ ?_
    rotate_left
    ·show Act.put _ (some 37) _ = _
     simp only [ap]
     rfl
    refine pq 8 (N:=some 38) (lb 43 511) HT_ ?_
    refine pq 9 (N:=some 39) (lb 43 1023) HT_ ?_
    refine pq 10 (N:=some 40) (lb 43 2047) HT_ ?_
    refine pq 11 (N:=some 41) (lb 43 4095) HT_ ?_
    refine pq 12 (N:=some 42) (lb 43 8191) HT_ ?_
    refine pq 13 (N:=some 43) (lb 43 16383) HT_ ?_
    refine pq 15 (N:=some 45) (lb 43 49151) HT_ ?_
    refine pq 16 (N:=some 46) (lb 43 114687) HT_ ?_
    refine pq 19 (N:=some 49) (lb 43 638975) HT_ ?_
    refine pq 21 (N:=some 51) (lb 43 2736127) HT_ ?_
    refine tq 14 (N:=some 44) (lb 43 2752511) HT_ HW_ hHeld ?_
    refine pq 17 (N:=some 47) (lb 43 2883583) HT_ ?_
    refine tq 18 (N:=some 48) (lb 43 3145727) HT_ HW_ hHeld ?_
    refine tq 20 (N:=some 50) (lb 43 4194303) HT_ HW_ hHeld ?_
    refine pq 22 (N:=some 52) (lb 43 8388607) HT_ ?_
    refine tq 23 (N:=some 53) (lb 43 16777215) HT_ HW_ hHeld ?_
    refine pq 24 (N:=some 54) (lb 43 33554431) HT_ ?_
    refine pq 25 (N:=some 55) (lb 43 67108863) HT_ ?_
    refine pq 26 (N:=some 56) (lb 43 134217727) HT_ ?_
    refine pq 27 (N:=some 57) (lb 43 268435455) HT_ ?_
    refine pz 28 (N:=some 58) (lb 43 536870911) HT_ ?_
    refine pz 29 (N:=some 59) (lb 43 1073741823) HT_ ?_
    refine pz 30 (N:=some 60) (lb 43 2147483647) HT_ ?_
    refine pz 31 (N:=some 61) (lb 43 4294967295) HT_ ?_
    refine pz 32 (N:=some 62) (lb 43 8589934591) HT_ ?_
    refine pz 33 (N:=some 63) (lb 43 17179869183) HT_ ?_
    refine pz 34 (N:=some 64) (lb 43 34359738367) HT_ ?_
    refine pz 35 (N:=some 65) (lb 43 68719476735) HT_ ?_
    refine pz 36 (N:=some 66) (lb 43 137438953471) HT_ ?_
    refine pz 37 (N:=some 67) (lb 43 274877906943) HT_ ?_
    refine pz 38 (N:=some 68) (lb 43 549755813887) HT_ ?_
    refine pz 39 (N:=some 69) (lb 43 1099511627775) HT_ ?_
    refine pz 40 (N:=some 70) (lb 43 2199023255551) HT_ ?_
    refine pz 41 (N:=some 71) (lb 43 4398046511103) HT_ ?_
    refine pq 42 (N:=some 72) (lb 43 8796093022207) HT_ ?_
    refine done_ (done_of HT_.out (by kernel_rfl)) ?_
    try go_wp2
    go_ret
    exact ⟨by first|rfl|(simp [errW_none,errW_some] <;> rfl)|(simp only [← hji16];first|rfl|(simp [errW_none,errW_some] <;> rfl))|(simp [*,errW_none,errW_some] <;> rfl),h1 HB.out GE111.out⟩
   rw [if_neg c19] at H
   have c19b0 : decide ((rd l0_1 x3_2) ≤ (rd l0_1 (ji16))) = false:=decide_eq_false c19
   clear c19
   by_cases c22 : x3_2 < (l0_2.length : Int)
   rotate_left
   ·rw [if_neg c22] at H
    exact absurd H (by simp)
   rw [if_pos c22] at H
   have c22b0 : decide (x3_2 < (l0_2.length : Int)) = true:=decide_eq_true c22
   clear c22
   by_cases c23 : (rd l0_2 x3_2) = 1
   ·rw [if_pos c23] at H
    have c23b0 : ((rd l0_2 x3_2) == 1) = true:=beq_iff_eq.mpr c23
    have c23b1 : ((rd l0_2 x3_2) != 1) = false:=bne_eq_false_iff_eq.mpr c23
    clear c23
    have H':=Aside0.mk H
    clear H
    have hcz24_0 : wr.cell? ⟨gb111,0,none⟩ = some (.int .i64 a0_0):=(blk_cell BK111.out 0).trans rfl
    have hcz24_1 : wr.cell? ⟨gb111,1,none⟩ = some (.slice A0_1 l0_1.length c0_1):=(blk_cell BK111.out 1).trans rfl
    have hcz24_2 : wr.cell? ⟨gb111,2,none⟩ = some (.slice A0_2 l0_2.length c0_2):=(blk_cell BK111.out 2).trans rfl
    have hfz24_0:=blk_frozen BK111.out 0
    have hfz24_1:=blk_frozen BK111.out 1
    have hfz24_2:=blk_frozen BK111.out 2
    try go_wp2
    replace BK111:=ak (blk_drew BK111.out)
    replace HB:=ak (below_drew1 HB.out)
    have p113 : 0 ≤ (x3_2 : Int):=od
    have q113 : x3_2 < (l0_1.length : Int):=od
    obtain ⟨ad113,e113,hx113_0⟩:=Kd.at_int HR0_1.out x3_2 p113 q113
    have hw113_0:=hx113_0
    cases e113
    replace hx113_0:=(HB.out.cell (World.block_lt_of_cell? w _ hx113_0)).trans hx113_0
    replace p113:=eq_true p113
    replace q113:=eq_true q113
    have p115 : 0 ≤ ((ji16) : Int):=od
    have q115 : (ji16) < (l0_1.length : Int):=od
    obtain ⟨ad115,e115,hx115_0⟩:=Kd.at_int HR0_1.out (ji16) p115 q115
    have hw115_0:=hx115_0
    obtain rfl : ad113 = ad115:=(by injection e115)
    replace hx115_0:=(HB.out.cell (World.block_lt_of_cell? w _ hx115_0)).trans hx115_0
    replace p115:=eq_true p115
    replace q115:=eq_true q115
    have p116 : 0 ≤ (x3_2 : Int):=od
    have q116 : x3_2 < (l0_1.length : Int):=od
    obtain ⟨ad116,e116,hx116_0⟩:=Kd.at_int HR0_1.out x3_2 p116 q116
    have hw116_0:=hx116_0
    obtain rfl : ad113 = ad116:=(by injection e116)
    replace hx116_0:=(HB.out.cell (World.block_lt_of_cell? w _ hx116_0)).trans hx116_0
    replace p116:=eq_true p116
    replace q116:=eq_true q116
    have p117 : 0 ≤ (x3_2 : Int):=od
    have q117 : x3_2 < (l0_2.length : Int):=od
    obtain ⟨ad117,e117,hx117_0⟩:=Kd.at_int HR0_2.out x3_2 p117 q117
    have hw117_0:=hx117_0
    cases e117
    replace hx117_0:=(HB.out.cell (World.block_lt_of_cell? w _ hx117_0)).trans hx117_0
    replace p117:=eq_true p117
    replace q117:=eq_true q117
    refine start_ (n:=43) (S:=fun w'=>w'.cell? ⟨gb111,0,none⟩ = some (.int .i64 a0_0) ∧ w'.cell? ⟨gb111,1,none⟩ = some (.slice (some ad113) l0_1.length c0_1) ∧ w'.cell? ⟨gb111,2,none⟩ = some (.slice (some ad117) l0_2.length c0_2) ∧ w'.cell? (ad113.add (x3_2).toNat) = some (.int .i64 (rd l0_1 x3_2)) ∧ w'.cell? (ad113.add ((ji16)).toNat) = some (.int .i64 (rd l0_1 (ji16))) ∧ w'.cell? (ad113.add (x3_2).toNat) = some (.int .i64 (rd l0_1 x3_2)) ∧ w'.cell? (ad117.add (x3_2).toNat) = some (.int .i64 (rd l0_2 x3_2))) (ds:=[]) (lb 43 0) (by kernel_rfl) rfl rfl ⟨(blk_cell BK111.out 0).trans rfl,(blk_cell BK111.out 1).trans rfl,(blk_cell BK111.out 2).trans rfl,((HB.out.cell (World.block_lt_of_cell? w _ hw113_0)).trans hw113_0),((HB.out.cell (World.block_lt_of_cell? w _ hw115_0)).trans hw115_0),((HB.out.cell (World.block_lt_of_cell? w _ hw116_0)).trans hw116_0),((HB.out.cell (World.block_lt_of_cell? w _ hw117_0)).trans hw117_0)⟩ (fun hHeld=>?_);refine with_tabW spec_l8Wire.tab6 spec_l8Wire.bits6 (fun HT_ HW_=>?_)
    generalize wr.drew = w25 at BK111 HB hx113_0 hx115_0 hx116_0 hx117_0 hHeld ⊢
    refine pq 0 (N:=some 30) (lb 43 1) HT_ ?_
    refine pq 2 (N:=some 32) (lb 43 5) HT_ ?_
    refine pq 5 (N:=some 35) (lb 43 37) HT_ ?_
    refine take_ (i:=1) (N:=some 31) (v:=?_) (a':=?_) (lb 43 39) rfl rfl (take_ofW HT_.out HW_.out (by kernel_rfl)) (fun _ _ _ h=>h) (Or.inl ⟨by rfl,?_⟩) hHeld ?_ ?_
    rotate_left
    ·rintro w' ⟨s0,s1,s2,s3,s4,s5,s6⟩
     go_simp
     with_reducible rfl
    rotate_left
    ·simp only [ap]
     rfl
    refine pq 3 (N:=some 33) (lb 43 47) HT_ ?_
    refine take_ (i:=4) (N:=some 34) (v:=?_) (a':=?_) (lb 43 63) rfl rfl (take_ofW HT_.out HW_.out (by kernel_rfl)) (fun _ _ _ h=>h) (Or.inl ⟨by rfl,?_⟩) hHeld ?_ ?_
    rotate_left
    ·rintro w' ⟨s0,s1,s2,s3,s4,s5,s6⟩
     go_simp
     with_reducible rfl
    rotate_left
    ·simp only [ap]
     rfl
    refine take_ (i:=6) (N:=some 36) (v:=?_) (a':=?_) (lb 43 127) rfl rfl (take_ofW HT_.out HW_.out (by kernel_rfl)) (fun _ _ _ h=>h) (Or.inl ⟨by rfl,?_⟩) hHeld ?_ ?_
    rotate_left
    ·rintro w' ⟨s0,s1,s2,s3,s4,s5,s6⟩
     go_simp
     with_reducible rfl
    rotate_left
    ·simp only [ap]
     rfl
    refine one_ (i:=7) (N:=some 37) (lb 43 255) rfl rfl (one_of HT_.out (by kernel_rfl)) (by decide) (fun K hK=>?_)
    refine goes_ Try.func58 (by kernel_rfl) rfl #[.int .i64 (rd l0_1 x3_2),.int .i64 0,.int .i64 a0_0] (by rfl) rfl rfl gl ?_
    with_reducible refine (spec_l1In.calls (rd l0_1 x3_2) 0 a0_0 true _ A13.out).mono ?_
    rintro e w' ⟨rfl,⟨nd,rfl⟩⟩
    refine ⟨_,rfl,?_⟩
    refine hK.out _ _ ⟨(blk_cell BK111.out 0).trans rfl,(blk_cell BK111.out 1).trans rfl,(blk_cell BK111.out 2).trans rfl,((HB.out.cell (World.block_lt_of_cell? w _ hw113_0)).trans hw113_0),((HB.out.cell (World.block_lt_of_cell? w _ hw115_0)).trans hw115_0),((HB.out.cell (World.block_lt_of_cell? w _ hw116_0)).trans hw116_0),((HB.out.cell (World.block_lt_of_cell? w _ hw117_0)).trans hw117_0)⟩ (fun hHeld=>?_)
    clear hK K
    refine norm_ (a':=?_) ?_ ?_
    rotate_left
    ·show Act.put _ (some 37) _ = _
     simp only [ap]
     rfl
    refine pq 8 (N:=some 38) (lb 43 511) HT_ ?_
    refine pq 9 (N:=some 39) (lb 43 1023) HT_ ?_
    refine pq 10 (N:=some 40) (lb 43 2047) HT_ ?_
    refine pq 11 (N:=some 41) (lb 43 4095) HT_ ?_
    refine pq 12 (N:=some 42) (lb 43 8191) HT_ ?_
    refine pq 13 (N:=some 43) (lb 43 16383) HT_ ?_
    refine pq 15 (N:=some 45) (lb 43 49151) HT_ ?_
    refine pq 16 (N:=some 46) (lb 43 114687) HT_ ?_
    refine pq 19 (N:=some 49) (lb 43 638975) HT_ ?_
    refine pq 21 (N:=some 51) (lb 43 2736127) HT_ ?_
    refine take_ (i:=14) (N:=some 44) (v:=?_) (a':=?_) (lb 43 2752511) rfl rfl (take_ofW HT_.out HW_.out (by kernel_rfl)) (fun _ _ _ h=>h) (Or.inl ⟨by rfl,?_⟩) hHeld ?_ ?_
    rotate_left
    ·rintro w' ⟨s0,s1,s2,s3,s4,s5,s6⟩
     go_simp
     with_reducible rfl
    rotate_left
    ·simp only [ap]
     rfl
    refine pq 17 (N:=some 47) (lb 43 2883583) HT_ ?_
    refine take_ (i:=18) (N:=some 48) (v:=?_) (a':=?_) (lb 43 3145727) rfl rfl (take_ofW HT_.out HW_.out (by kernel_rfl)) (fun _ _ _ h=>h) (Or.inl ⟨by rfl,?_⟩) hHeld ?_ ?_
    rotate_left
    ·rintro w' ⟨s0,s1,s2,s3,s4,s5,s6⟩
     go_simp
     with_reducible rfl
    rotate_left
    ·simp only [ap]
     rfl
    refine take_ (i:=20) (N:=some 50) (v:=?_) (a':=?_) (lb 43 4194303) rfl rfl (take_ofW HT_.out HW_.out (by kernel_rfl)) (fun _ _ _ h=>h) (Or.inl ⟨by rfl,?_⟩) hHeld ?_ ?_
    rotate_left
    ·rintro w' ⟨s0,s1,s2,s3,s4,s5,s6⟩
     go_simp
     with_reducible rfl
    rotate_left
    ·simp only [ap]
     rfl
    refine pq 22 (N:=some 52) (lb 43 8388607) HT_ ?_
    refine take_ (i:=23) (N:=some 53) (v:=?_) (a':=?_) (lb 43 16777215) rfl rfl (take_ofW HT_.out HW_.out (by kernel_rfl)) (fun _ _ _ h=>h) (Or.inl ⟨by rfl,?_⟩) hHeld ?_ ?_
    rotate_left
    ·rintro w' ⟨s0,s1,s2,s3,s4,s5,s6⟩
     go_simp
     with_reducible rfl
    rotate_left
    ·simp only [ap]
     rfl
    refine pq 24 (N:=some 54) (lb 43 33554431) HT_ ?_
    refine pq 25 (N:=some 55) (lb 43 67108863) HT_ ?_
    refine pq 26 (N:=some 56) (lb 43 134217727) HT_ ?_
    refine pq 27 (N:=some 57) (lb 43 268435455) HT_ ?_
    refine pq 28 (N:=some 58) (lb 43 536870911) HT_ ?_
    refine pq 30 (N:=some 60) (lb 43 1610612735) HT_ ?_
    refine take_ (i:=29) (N:=some 59) (v:=?_) (a':=?_) (lb 43 2147483647) rfl rfl (take_ofW HT_.out HW_.out (by kernel_rfl)) (fun _ _ _ h=>h) (Or.inl ⟨by rfl,?_⟩) hHeld ?_ ?_
    rotate_left
    ·rintro w' ⟨s0,s1,s2,s3,s4,s5,s6⟩
     go_simp
     with_reducible rfl
    rotate_left
    ·simp only [ap]
     rfl
    refine pq 31 (N:=some 61) (lb 43 4294967295) HT_ ?_
    refine take_ (i:=32) (N:=some 62) (v:=?_) (a':=?_) (lb 43 8589934591) rfl rfl (take_ofW HT_.out HW_.out (by kernel_rfl)) (fun _ _ _ h=>h) (Or.inl ⟨by rfl,?_⟩) hHeld ?_ ?_
    rotate_left
    ·rintro w' ⟨s0,s1,s2,s3,s4,s5,s6⟩
     go_simp
     with_reducible rfl
    rotate_left
    ·simp only [ap]
     rfl
    refine pq 33 (N:=some 63) (lb 43 17179869183) HT_ ?_
    refine pq 34 (N:=some 64) (lb 43 34359738367) HT_ ?_
    refine pz 35 (N:=some 65) (lb 43 68719476735) HT_ ?_
    refine pz 36 (N:=some 66) (lb 43 137438953471) HT_ ?_
    refine pz 37 (N:=some 67) (lb 43 274877906943) HT_ ?_
    refine pz 38 (N:=some 68) (lb 43 549755813887) HT_ ?_
    refine pz 39 (N:=some 69) (lb 43 1099511627775) HT_ ?_
    refine pz 40 (N:=some 70) (lb 43 2199023255551) HT_ ?_
    refine pq 41 (N:=some 71) (lb 43 4398046511103) HT_ ?_
    refine pq 42 (N:=some 72) (lb 43 8796093022207) HT_ ?_
    refine done_ (done_of HT_.out (by kernel_rfl)) ?_
    try go_wp2
    go_roundg k2
    case measure=>have:=HJ1.out;have:=HK2.out;omega
    case rel=>exact ⟨(wrap64 (x3_2 + 1)),fd,H',⟨by have:=HJ1.out;have:=HK2.out;omega⟩,⟨bm BK111.out⟩,⟨h1 HB.out GE111.out⟩⟩
   rw [if_neg c23] at H
   have c23b0 : ((rd l0_2 x3_2) == 1) = false:=beq_eq_false_iff_ne.mpr c23
   have c23b1 : ((rd l0_2 x3_2) != 1) = true:=bne_iff_ne.mpr c23
   by_cases c26 : (rd l0_2 x3_2) = (-1)
   rotate_left
   ·rw [if_neg c26] at H
    have c26b0 : ((rd l0_2 x3_2) == (-1)) = false:=beq_eq_false_iff_ne.mpr c26
    have c26b1 : ((rd l0_2 x3_2) != (-1)) = true:=bne_iff_ne.mpr c26
    obtain rfl:=Option.some.inj H
    have hcz29_0 : wr.cell? ⟨gb111,0,none⟩ = some (.int .i64 a0_0):=(blk_cell BK111.out 0).trans rfl
    have hcz29_1 : wr.cell? ⟨gb111,1,none⟩ = some (.slice A0_1 l0_1.length c0_1):=(blk_cell BK111.out 1).trans rfl
    have hcz29_2 : wr.cell? ⟨gb111,2,none⟩ = some (.slice A0_2 l0_2.length c0_2):=(blk_cell BK111.out 2).trans rfl
    have hfz29_0:=blk_frozen BK111.out 0
    have hfz29_1:=blk_frozen BK111.out 1
    have hfz29_2:=blk_frozen BK111.out 2
    try go_wp2
    replace BK111:=ak (blk_drew BK111.out)
    replace HB:=ak (below_drew1 HB.out)
    have p113 : 0 ≤ (x3_2 : Int):=od
    have q113 : x3_2 < (l0_1.length : Int):=od
    obtain ⟨ad113,e113,hx113_0⟩:=Kd.at_int HR0_1.out x3_2 p113 q113
    have hw113_0:=hx113_0
    cases e113
    replace hx113_0:=(HB.out.cell (World.block_lt_of_cell? w _ hx113_0)).trans hx113_0
    replace p113:=eq_true p113
    replace q113:=eq_true q113
    have p115 : 0 ≤ ((ji16) : Int):=od
    have q115 : (ji16) < (l0_1.length : Int):=od
    obtain ⟨ad115,e115,hx115_0⟩:=Kd.at_int HR0_1.out (ji16) p115 q115
    have hw115_0:=hx115_0
    obtain rfl : ad113 = ad115:=(by injection e115)
    replace hx115_0:=(HB.out.cell (World.block_lt_of_cell? w _ hx115_0)).trans hx115_0
    replace p115:=eq_true p115
    replace q115:=eq_true q115
    have p116 : 0 ≤ (x3_2 : Int):=od
    have q116 : x3_2 < (l0_1.length : Int):=od
    obtain ⟨ad116,e116,hx116_0⟩:=Kd.at_int HR0_1.out x3_2 p116 q116
    have hw116_0:=hx116_0
    obtain rfl : ad113 = ad116:=(by injection e116)
    replace hx116_0:=(HB.out.cell (World.block_lt_of_cell? w _ hx116_0)).trans hx116_0
    replace p116:=eq_true p116
    replace q116:=eq_true q116
    have p117 : 0 ≤ (x3_2 : Int):=od
    have q117 : x3_2 < (l0_2.length : Int):=od
    obtain ⟨ad117,e117,hx117_0⟩:=Kd.at_int HR0_2.out x3_2 p117 q117
    have hw117_0:=hx117_0
    cases e117
    replace hx117_0:=(HB.out.cell (World.block_lt_of_cell? w _ hx117_0)).trans hx117_0
    replace p117:=eq_true p117
    replace q117:=eq_true q117
    have p118 : 0 ≤ (x3_2 : Int):=od
    have q118 : x3_2 < (l0_2.length : Int):=od
    obtain ⟨ad118,e118,hx118_0⟩:=Kd.at_int HR0_2.out x3_2 p118 q118
    have hw118_0:=hx118_0
    obtain rfl : ad117 = ad118:=(by injection e118)
    replace hx118_0:=(HB.out.cell (World.block_lt_of_cell? w _ hx118_0)).trans hx118_0
    replace p118:=eq_true p118
    replace q118:=eq_true q118
    refine start_ (n:=43) (S:=fun w'=>w'.cell? ⟨gb111,0,none⟩ = some (.int .i64 a0_0) ∧ w'.cell? ⟨gb111,1,none⟩ = some (.slice (some ad113) l0_1.length c0_1) ∧ w'.cell? ⟨gb111,2,none⟩ = some (.slice (some ad117) l0_2.length c0_2) ∧ w'.cell? (ad113.add (x3_2).toNat) = some (.int .i64 (rd l0_1 x3_2)) ∧ w'.cell? (ad113.add ((ji16)).toNat) = some (.int .i64 (rd l0_1 (ji16))) ∧ w'.cell? (ad113.add (x3_2).toNat) = some (.int .i64 (rd l0_1 x3_2)) ∧ w'.cell? (ad117.add (x3_2).toNat) = some (.int .i64 (rd l0_2 x3_2)) ∧ w'.cell? (ad117.add (x3_2).toNat) = some (.int .i64 (rd l0_2 x3_2))) (ds:=[]) (lb 43 0) (by kernel_rfl) rfl rfl ⟨(blk_cell BK111.out 0).trans rfl,(blk_cell BK111.out 1).trans rfl,(blk_cell BK111.out 2).trans rfl,((HB.out.cell (World.block_lt_of_cell? w _ hw113_0)).trans hw113_0),((HB.out.cell (World.block_lt_of_cell? w _ hw115_0)).trans hw115_0),((HB.out.cell (World.block_lt_of_cell? w _ hw116_0)).trans hw116_0),((HB.out.cell (World.block_lt_of_cell? w _ hw117_0)).trans hw117_0),((HB.out.cell (World.block_lt_of_cell? w _ hw118_0)).trans hw118_0)⟩ (fun hHeld=>?_);refine with_tabW spec_l8Wire.tab6 spec_l8Wire.bits6 (fun HT_ HW_=>?_)
    generalize wr.drew = w30 at BK111 HB hx113_0 hx115_0 hx116_0 hx117_0 hx118_0 hHeld ⊢
    refine pq 0 (N:=some 30) (lb 43 1) HT_ ?_
    refine pq 2 (N:=some 32) (lb 43 5) HT_ ?_
    refine pq 5 (N:=some 35) (lb 43 37) HT_ ?_
    refine take_ (i:=1) (N:=some 31) (v:=?_) (a':=?_) (lb 43 39) rfl rfl (take_ofW HT_.out HW_.out (by kernel_rfl)) (fun _ _ _ h=>h) (Or.inl ⟨by rfl,?_⟩) hHeld ?_ ?_
    rotate_left
    ·rintro w' ⟨s0,s1,s2,s3,s4,s5,s6,s7⟩
     go_simp
     with_reducible rfl
    rotate_left
    ·simp only [ap]
     rfl
    refine pq 3 (N:=some 33) (lb 43 47) HT_ ?_
    refine take_ (i:=4) (N:=some 34) (v:=?_) (a':=?_) (lb 43 63) rfl rfl (take_ofW HT_.out HW_.out (by kernel_rfl)) (fun _ _ _ h=>h) (Or.inl ⟨by rfl,?_⟩) hHeld ?_ ?_
    rotate_left
    ·rintro w' ⟨s0,s1,s2,s3,s4,s5,s6,s7⟩
     go_simp
     with_reducible rfl
    rotate_left
    ·simp only [ap]
     rfl
    refine take_ (i:=6) (N:=some 36) (v:=?_) (a':=?_) (lb 43 127) rfl rfl (take_ofW HT_.out HW_.out (by kernel_rfl)) (fun _ _ _ h=>h) (Or.inl ⟨by rfl,?_⟩) hHeld ?_ ?_
    rotate_left
    ·rintro w' ⟨s0,s1,s2,s3,s4,s5,s6,s7⟩
     go_simp
     with_reducible rfl
    rotate_left
    ·simp only [ap]
     rfl
    refine one_ (i:=7) (N:=some 37) (lb 43 255) rfl rfl (one_of HT_.out (by kernel_rfl)) (by decide) (fun K hK=>?_)
    refine goes_ Try.func58 (by kernel_rfl) rfl #[.int .i64 (rd l0_1 x3_2),.int .i64 0,.int .i64 a0_0] (by rfl) rfl rfl gl ?_
    with_reducible refine (spec_l1In.calls (rd l0_1 x3_2) 0 a0_0 true _ A13.out).mono ?_
    rintro e w' ⟨rfl,⟨nd,rfl⟩⟩
    refine ⟨_,rfl,?_⟩
    refine hK.out _ _ ⟨(blk_cell BK111.out 0).trans rfl,(blk_cell BK111.out 1).trans rfl,(blk_cell BK111.out 2).trans rfl,((HB.out.cell (World.block_lt_of_cell? w _ hw113_0)).trans hw113_0),((HB.out.cell (World.block_lt_of_cell? w _ hw115_0)).trans hw115_0),((HB.out.cell (World.block_lt_of_cell? w _ hw116_0)).trans hw116_0),((HB.out.cell (World.block_lt_of_cell? w _ hw117_0)).trans hw117_0),((HB.out.cell (World.block_lt_of_cell? w _ hw118_0)).trans hw118_0)⟩ (fun hHeld=>?_)
    clear hK K
    refine norm_ (a':=?_) ?_ ?_
    rotate_left
    ·show Act.put _ (some 37) _ = _
     simp only [ap]
     rfl
    refine pq 8 (N:=some 38) (lb 43 511) HT_ ?_
    refine pq 9 (N:=some 39) (lb 43 1023) HT_ ?_
    refine pq 10 (N:=some 40) (lb 43 2047) HT_ ?_
    refine pq 11 (N:=some 41) (lb 43 4095) HT_ ?_
    refine pq 12 (N:=some 42) (lb 43 8191) HT_ ?_
    refine pq 13 (N:=some 43) (lb 43 16383) HT_ ?_
    refine pq 15 (N:=some 45) (lb 43 49151) HT_ ?_
    refine pq 16 (N:=some 46) (lb 43 114687) HT_ ?_
    refine pq 19 (N:=some 49) (lb 43 638975) HT_ ?_
    refine pq 21 (N:=some 51) (lb 43 2736127) HT_ ?_
    refine take_ (i:=14) (N:=some 44) (v:=?_) (a':=?_) (lb 43 2752511) rfl rfl (take_ofW HT_.out HW_.out (by kernel_rfl)) (fun _ _ _ h=>h) (Or.inl ⟨by rfl,?_⟩) hHeld ?_ ?_
    rotate_left
    ·rintro w' ⟨s0,s1,s2,s3,s4,s5,s6,s7⟩
     go_simp
     with_reducible rfl
    rotate_left
    ·simp only [ap]
     rfl
    refine pq 17 (N:=some 47) (lb 43 2883583) HT_ ?_
    refine take_ (i:=18) (N:=some 48) (v:=?_) (a':=?_) (lb 43 3145727) rfl rfl (take_ofW HT_.out HW_.out (by kernel_rfl)) (fun _ _ _ h=>h) (Or.inl ⟨by rfl,?_⟩) hHeld ?_ ?_
    rotate_left
    ·rintro w' ⟨s0,s1,s2,s3,s4,s5,s6,s7⟩
     go_simp
     with_reducible rfl
    rotate_left
    ·simp only [ap]
     rfl
    refine take_ (i:=20) (N:=some 50) (v:=?_) (a':=?_) (lb 43 4194303) rfl rfl (take_ofW HT_.out HW_.out (by kernel_rfl)) (fun _ _ _ h=>h) (Or.inl ⟨by rfl,?_⟩) hHeld ?_ ?_
    rotate_left
    ·rintro w' ⟨s0,s1,s2,s3,s4,s5,s6,s7⟩
     go_simp
     with_reducible rfl
    rotate_left
    ·simp only [ap]
     rfl
    refine pq 22 (N:=some 52) (lb 43 8388607) HT_ ?_
    refine take_ (i:=23) (N:=some 53) (v:=?_) (a':=?_) (lb 43 16777215) rfl rfl (take_ofW HT_.out HW_.out (by kernel_rfl)) (fun _ _ _ h=>h) (Or.inl ⟨by rfl,?_⟩) hHeld ?_ ?_
    rotate_left
    ·rintro w' ⟨s0,s1,s2,s3,s4,s5,s6,s7⟩
     go_simp
     with_reducible rfl
    rotate_left
    ·simp only [ap]
     rfl
    refine pq 24 (N:=some 54) (lb 43 33554431) HT_ ?_
    refine pq 25 (N:=some 55) (lb 43 67108863) HT_ ?_
    refine pq 26 (N:=some 56) (lb 43 134217727) HT_ ?_
    refine pq 27 (N:=some 57) (lb 43 268435455) HT_ ?_
    refine pq 28 (N:=some 58) (lb 43 536870911) HT_ ?_
    refine pq 30 (N:=some 60) (lb 43 1610612735) HT_ ?_
    refine take_ (i:=29) (N:=some 59) (v:=?_) (a':=?_) (lb 43 2147483647) rfl rfl (take_ofW HT_.out HW_.out (by kernel_rfl)) (fun _ _ _ h=>h) (Or.inl ⟨by rfl,?_⟩) hHeld ?_ ?_
    rotate_left
    ·rintro w' ⟨s0,s1,s2,s3,s4,s5,s6,s7⟩
     go_simp
     with_reducible rfl
    rotate_left
    ·simp only [ap]
     rfl
    refine pq 31 (N:=some 61) (lb 43 4294967295) HT_ ?_
    refine take_ (i:=32) (N:=some 62) (v:=?_) (a':=?_) (lb 43 8589934591) rfl rfl (take_ofW HT_.out HW_.out (by kernel_rfl)) (fun _ _ _ h=>h) (Or.inl ⟨by rfl,?_⟩) hHeld ?_ ?_
    rotate_left
    ·rintro w' ⟨s0,s1,s2,s3,s4,s5,s6,s7⟩
     go_simp
     with_reducible rfl
    rotate_left
    ·simp only [ap]
     rfl
    refine pq 33 (N:=some 63) (lb 43 17179869183) HT_ ?_
    refine pq 34 (N:=some 64) (lb 43 34359738367) HT_ ?_
    refine pq 35 (N:=some 65) (lb 43 68719476735) HT_ ?_
    refine pq 37 (N:=some 67) (lb 43 206158430207) HT_ ?_
    refine take_ (i:=36) (N:=some 66) (v:=?_) (a':=?_) (lb 43 274877906943) rfl rfl (take_ofW HT_.out HW_.out (by kernel_rfl)) (fun _ _ _ h=>h) (Or.inl ⟨by rfl,?_⟩) hHeld ?_ ?_
    rotate_left
    ·rintro w' ⟨s0,s1,s2,s3,s4,s5,s6,s7⟩
     go_simp
     with_reducible rfl
    rotate_left
    ·simp only [ap]
     rfl
    refine pq 38 (N:=some 68) (lb 43 549755813887) HT_ ?_
    refine take_ (i:=39) (N:=some 69) (v:=?_) (a':=?_) (lb 43 1099511627775) rfl rfl (take_ofW HT_.out HW_.out (by kernel_rfl)) (fun _ _ _ h=>h) (Or.inl ⟨by rfl,?_⟩) hHeld ?_ ?_
    rotate_left
    ·rintro w' ⟨s0,s1,s2,s3,s4,s5,s6,s7⟩
     go_simp
     with_reducible rfl
    rotate_left
    ·simp only [ap]
     rfl
    refine pq 40 (N:=some 70) (lb 43 2199023255551) HT_ ?_
    refine pq 41 (N:=some 71) (lb 43 4398046511103) HT_ ?_
    refine pq 42 (N:=some 72) (lb 43 8796093022207) HT_ ?_
    refine done_ (done_of HT_.out (by kernel_rfl)) ?_
    try go_wp2
    go_ret
    exact ⟨by first|rfl|(simp [errW_none,errW_some] <;> rfl)|(simp only [← hji16];first|rfl|(simp [errW_none,errW_some] <;> rfl))|(simp [*,errW_none,errW_some] <;> rfl),h1 HB.out GE111.out⟩
   rw [if_pos c26] at H
   have c26b0 : ((rd l0_2 x3_2) == (-1)) = true:=beq_iff_eq.mpr c26
   have c26b1 : ((rd l0_2 x3_2) != (-1)) = false:=bne_eq_false_iff_eq.mpr c26
   clear c26
   have H':=Aside0.mk H
   clear H
   have hcz27_0 : wr.cell? ⟨gb111,0,none⟩ = some (.int .i64 a0_0):=(blk_cell BK111.out 0).trans rfl
   have hcz27_1 : wr.cell? ⟨gb111,1,none⟩ = some (.slice A0_1 l0_1.length c0_1):=(blk_cell BK111.out 1).trans rfl
   have hcz27_2 : wr.cell? ⟨gb111,2,none⟩ = some (.slice A0_2 l0_2.length c0_2):=(blk_cell BK111.out 2).trans rfl
   have hfz27_0:=blk_frozen BK111.out 0
   have hfz27_1:=blk_frozen BK111.out 1
   have hfz27_2:=blk_frozen BK111.out 2
   try go_wp2
   replace BK111:=ak (blk_drew BK111.out)
   replace HB:=ak (below_drew1 HB.out)
   have p113 : 0 ≤ (x3_2 : Int):=od
   have q113 : x3_2 < (l0_1.length : Int):=od
   obtain ⟨ad113,e113,hx113_0⟩:=Kd.at_int HR0_1.out x3_2 p113 q113
   have hw113_0:=hx113_0
   cases e113
   replace hx113_0:=(HB.out.cell (World.block_lt_of_cell? w _ hx113_0)).trans hx113_0
   replace p113:=eq_true p113
   replace q113:=eq_true q113
   have p115 : 0 ≤ ((ji16) : Int):=od
   have q115 : (ji16) < (l0_1.length : Int):=od
   obtain ⟨ad115,e115,hx115_0⟩:=Kd.at_int HR0_1.out (ji16) p115 q115
   have hw115_0:=hx115_0
   obtain rfl : ad113 = ad115:=(by injection e115)
   replace hx115_0:=(HB.out.cell (World.block_lt_of_cell? w _ hx115_0)).trans hx115_0
   replace p115:=eq_true p115
   replace q115:=eq_true q115
   have p116 : 0 ≤ (x3_2 : Int):=od
   have q116 : x3_2 < (l0_1.length : Int):=od
   obtain ⟨ad116,e116,hx116_0⟩:=Kd.at_int HR0_1.out x3_2 p116 q116
   have hw116_0:=hx116_0
   obtain rfl : ad113 = ad116:=(by injection e116)
   replace hx116_0:=(HB.out.cell (World.block_lt_of_cell? w _ hx116_0)).trans hx116_0
   replace p116:=eq_true p116
   replace q116:=eq_true q116
   have p117 : 0 ≤ (x3_2 : Int):=od
   have q117 : x3_2 < (l0_2.length : Int):=od
   obtain ⟨ad117,e117,hx117_0⟩:=Kd.at_int HR0_2.out x3_2 p117 q117
   have hw117_0:=hx117_0
   cases e117
   replace hx117_0:=(HB.out.cell (World.block_lt_of_cell? w _ hx117_0)).trans hx117_0
   replace p117:=eq_true p117
   replace q117:=eq_true q117
   have p118 : 0 ≤ (x3_2 : Int):=od
   have q118 : x3_2 < (l0_2.length : Int):=od
   obtain ⟨ad118,e118,hx118_0⟩:=Kd.at_int HR0_2.out x3_2 p118 q118
   have hw118_0:=hx118_0
   obtain rfl : ad117 = ad118:=(by injection e118)
   replace hx118_0:=(HB.out.cell (World.block_lt_of_cell? w _ hx118_0)).trans hx118_0
   replace p118:=eq_true p118
   replace q118:=eq_true q118
   refine start_ (n:=43) (S:=fun w'=>w'.cell? ⟨gb111,0,none⟩ = some (.int .i64 a0_0) ∧ w'.cell? ⟨gb111,1,none⟩ = some (.slice (some ad113) l0_1.length c0_1) ∧ w'.cell? ⟨gb111,2,none⟩ = some (.slice (some ad117) l0_2.length c0_2) ∧ w'.cell? (ad113.add (x3_2).toNat) = some (.int .i64 (rd l0_1 x3_2)) ∧ w'.cell? (ad113.add ((ji16)).toNat) = some (.int .i64 (rd l0_1 (ji16))) ∧ w'.cell? (ad113.add (x3_2).toNat) = some (.int .i64 (rd l0_1 x3_2)) ∧ w'.cell? (ad117.add (x3_2).toNat) = some (.int .i64 (rd l0_2 x3_2)) ∧ w'.cell? (ad117.add (x3_2).toNat) = some (.int .i64 (rd l0_2 x3_2))) (ds:=[]) (lb 43 0) (by kernel_rfl) rfl rfl ⟨(blk_cell BK111.out 0).trans rfl,(blk_cell BK111.out 1).trans rfl,(blk_cell BK111.out 2).trans rfl,((HB.out.cell (World.block_lt_of_cell? w _ hw113_0)).trans hw113_0),((HB.out.cell (World.block_lt_of_cell? w _ hw115_0)).trans hw115_0),((HB.out.cell (World.block_lt_of_cell? w _ hw116_0)).trans hw116_0),((HB.out.cell (World.block_lt_of_cell? w _ hw117_0)).trans hw117_0),((HB.out.cell (World.block_lt_of_cell? w _ hw118_0)).trans hw118_0)⟩ (fun hHeld=>?_);refine with_tabW spec_l8Wire.tab6 spec_l8Wire.bits6 (fun HT_ HW_=>?_)
   generalize wr.drew = w28 at BK111 HB hx113_0 hx115_0 hx116_0 hx117_0 hx118_0 hHeld ⊢
   refine pq 0 (N:=some 30) (lb 43 1) HT_ ?_
   refine pq 2 (N:=some 32) (lb 43 5) HT_ ?_
   refine pq 5 (N:=some 35) (lb 43 37) HT_ ?_
   refine take_ (i:=1) (N:=some 31) (v:=?_) (a':=?_) (lb 43 39) rfl rfl (take_ofW HT_.out HW_.out (by kernel_rfl)) (fun _ _ _ h=>h) (Or.inl ⟨by rfl,?_⟩) hHeld ?_ ?_
   rotate_left
   ·rintro w' ⟨s0,s1,s2,s3,s4,s5,s6,s7⟩
    go_simp
    with_reducible rfl
   rotate_left
   ·simp only [ap]
    rfl
   refine pq 3 (N:=some 33) (lb 43 47) HT_ ?_
   refine take_ (i:=4) (N:=some 34) (v:=?_) (a':=?_) (lb 43 63) rfl rfl (take_ofW HT_.out HW_.out (by kernel_rfl)) (fun _ _ _ h=>h) (Or.inl ⟨by rfl,?_⟩) hHeld ?_ ?_
   rotate_left
   ·rintro w' ⟨s0,s1,s2,s3,s4,s5,s6,s7⟩
    go_simp
    with_reducible rfl
   rotate_left
   ·simp only [ap]
    rfl
   refine take_ (i:=6) (N:=some 36) (v:=?_) (a':=?_) (lb 43 127) rfl rfl (take_ofW HT_.out HW_.out (by kernel_rfl)) (fun _ _ _ h=>h) (Or.inl ⟨by rfl,?_⟩) hHeld ?_ ?_
   rotate_left
   ·rintro w' ⟨s0,s1,s2,s3,s4,s5,s6,s7⟩
    go_simp
    with_reducible rfl
   rotate_left
   ·simp only [ap]
    rfl
   refine one_ (i:=7) (N:=some 37) (lb 43 255) rfl rfl (one_of HT_.out (by kernel_rfl)) (by decide) (fun K hK=>?_)
   refine goes_ Try.func58 (by kernel_rfl) rfl #[.int .i64 (rd l0_1 x3_2),.int .i64 0,.int .i64 a0_0] (by rfl) rfl rfl gl ?_
   with_reducible refine (spec_l1In.calls (rd l0_1 x3_2) 0 a0_0 true _ A13.out).mono ?_
   rintro e w' ⟨rfl,⟨nd,rfl⟩⟩
   refine ⟨_,rfl,?_⟩
   refine hK.out _ _ ⟨(blk_cell BK111.out 0).trans rfl,(blk_cell BK111.out 1).trans rfl,(blk_cell BK111.out 2).trans rfl,((HB.out.cell (World.block_lt_of_cell? w _ hw113_0)).trans hw113_0),((HB.out.cell (World.block_lt_of_cell? w _ hw115_0)).trans hw115_0),((HB.out.cell (World.block_lt_of_cell? w _ hw116_0)).trans hw116_0),((HB.out.cell (World.block_lt_of_cell? w _ hw117_0)).trans hw117_0),((HB.out.cell (World.block_lt_of_cell? w _ hw118_0)).trans hw118_0)⟩ (fun hHeld=>?_)
   clear hK K
   refine norm_ (a':=?_) ?_ ?_
   rotate_left
   ·show Act.put _ (some 37) _ = _
    simp only [ap]
    rfl
   refine pq 8 (N:=some 38) (lb 43 511) HT_ ?_
   refine pq 9 (N:=some 39) (lb 43 1023) HT_ ?_
   refine pq 10 (N:=some 40) (lb 43 2047) HT_ ?_
   refine pq 11 (N:=some 41) (lb 43 4095) HT_ ?_
   refine pq 12 (N:=some 42) (lb 43 8191) HT_ ?_
   refine pq 13 (N:=some 43) (lb 43 16383) HT_ ?_
   refine pq 15 (N:=some 45) (lb 43 49151) HT_ ?_
   refine pq 16 (N:=some 46) (lb 43 114687) HT_ ?_
   refine pq 19 (N:=some 49) (lb 43 638975) HT_ ?_
   refine pq 21 (N:=some 51) (lb 43 2736127) HT_ ?_
   refine take_ (i:=14) (N:=some 44) (v:=?_) (a':=?_) (lb 43 2752511) rfl rfl (take_ofW HT_.out HW_.out (by kernel_rfl)) (fun _ _ _ h=>h) (Or.inl ⟨by rfl,?_⟩) hHeld ?_ ?_
   rotate_left
   ·rintro w' ⟨s0,s1,s2,s3,s4,s5,s6,s7⟩
    go_simp
    with_reducible rfl
   rotate_left
   ·simp only [ap]
    rfl
   refine pq 17 (N:=some 47) (lb 43 2883583) HT_ ?_
   refine take_ (i:=18) (N:=some 48) (v:=?_) (a':=?_) (lb 43 3145727) rfl rfl (take_ofW HT_.out HW_.out (by kernel_rfl)) (fun _ _ _ h=>h) (Or.inl ⟨by rfl,?_⟩) hHeld ?_ ?_
   rotate_left
   ·rintro w' ⟨s0,s1,s2,s3,s4,s5,s6,s7⟩
    go_simp
    with_reducible rfl
   rotate_left
   ·simp only [ap]
    rfl
   refine take_ (i:=20) (N:=some 50) (v:=?_) (a':=?_) (lb 43 4194303) rfl rfl (take_ofW HT_.out HW_.out (by kernel_rfl)) (fun _ _ _ h=>h) (Or.inl ⟨by rfl,?_⟩) hHeld ?_ ?_
   rotate_left
   ·rintro w' ⟨s0,s1,s2,s3,s4,s5,s6,s7⟩
    go_simp
    with_reducible rfl
   rotate_left
   ·simp only [ap]
    rfl
   refine pq 22 (N:=some 52) (lb 43 8388607) HT_ ?_
   refine take_ (i:=23) (N:=some 53) (v:=?_) (a':=?_) (lb 43 16777215) rfl rfl (take_ofW HT_.out HW_.out (by kernel_rfl)) (fun _ _ _ h=>h) (Or.inl ⟨by rfl,?_⟩) hHeld ?_ ?_
   rotate_left
   ·rintro w' ⟨s0,s1,s2,s3,s4,s5,s6,s7⟩
    go_simp
    with_reducible rfl
   rotate_left
   ·simp only [ap]
    rfl
   refine pq 24 (N:=some 54) (lb 43 33554431) HT_ ?_
   refine pq 25 (N:=some 55) (lb 43 67108863) HT_ ?_
   refine pq 26 (N:=some 56) (lb 43 134217727) HT_ ?_
   refine pq 27 (N:=some 57) (lb 43 268435455) HT_ ?_
   refine pq 28 (N:=some 58) (lb 43 536870911) HT_ ?_
   refine pq 30 (N:=some 60) (lb 43 1610612735) HT_ ?_
   refine take_ (i:=29) (N:=some 59) (v:=?_) (a':=?_) (lb 43 2147483647) rfl rfl (take_ofW HT_.out HW_.out (by kernel_rfl)) (fun _ _ _ h=>h) (Or.inl ⟨by rfl,?_⟩) hHeld ?_ ?_
   rotate_left
   ·rintro w' ⟨s0,s1,s2,s3,s4,s5,s6,s7⟩
    go_simp
    with_reducible rfl
   rotate_left
   ·simp only [ap]
    rfl
   refine pq 31 (N:=some 61) (lb 43 4294967295) HT_ ?_
   refine take_ (i:=32) (N:=some 62) (v:=?_) (a':=?_) (lb 43 8589934591) rfl rfl (take_ofW HT_.out HW_.out (by kernel_rfl)) (fun _ _ _ h=>h) (Or.inl ⟨by rfl,?_⟩) hHeld ?_ ?_
   rotate_left
   ·rintro w' ⟨s0,s1,s2,s3,s4,s5,s6,s7⟩
    go_simp
    with_reducible rfl
   rotate_left
   ·simp only [ap]
    rfl
   refine pq 33 (N:=some 63) (lb 43 17179869183) HT_ ?_
   refine pq 34 (N:=some 64) (lb 43 34359738367) HT_ ?_
   refine pq 35 (N:=some 65) (lb 43 68719476735) HT_ ?_
   refine pq 37 (N:=some 67) (lb 43 206158430207) HT_ ?_
   refine take_ (i:=36) (N:=some 66) (v:=?_) (a':=?_) (lb 43 274877906943) rfl rfl (take_ofW HT_.out HW_.out (by kernel_rfl)) (fun _ _ _ h=>h) (Or.inl ⟨by rfl,?_⟩) hHeld ?_ ?_
   rotate_left
   ·rintro w' ⟨s0,s1,s2,s3,s4,s5,s6,s7⟩
    go_simp
    with_reducible rfl
   rotate_left
   ·simp only [ap]
    rfl
   refine pq 38 (N:=some 68) (lb 43 549755813887) HT_ ?_
   refine take_ (i:=39) (N:=some 69) (v:=?_) (a':=?_) (lb 43 1099511627775) rfl rfl (take_ofW HT_.out HW_.out (by kernel_rfl)) (fun _ _ _ h=>h) (Or.inl ⟨by rfl,?_⟩) hHeld ?_ ?_
   rotate_left
   ·rintro w' ⟨s0,s1,s2,s3,s4,s5,s6,s7⟩
    go_simp
    with_reducible rfl
   rotate_left
   ·simp only [ap]
    rfl
   refine pq 40 (N:=some 70) (lb 43 2199023255551) HT_ ?_
   refine pq 41 (N:=some 71) (lb 43 4398046511103) HT_ ?_
   refine pq 42 (N:=some 72) (lb 43 8796093022207) HT_ ?_
   refine done_ (done_of HT_.out (by kernel_rfl)) ?_
   try go_wp2
   go_roundg k2
   case measure=>have:=HJ1.out;have:=HK2.out;omega
   case rel=>exact ⟨(wrap64 (x3_2 + 1)),fd,H',⟨by have:=HJ1.out;have:=HK2.out;omega⟩,⟨bm BK111.out⟩,⟨h1 HB.out GE111.out⟩⟩


end
end Go.Proofs.Ytciihopkgblpkaa.QFnWires
