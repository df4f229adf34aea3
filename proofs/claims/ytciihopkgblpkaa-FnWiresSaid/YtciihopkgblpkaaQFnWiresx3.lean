/- Functions that the law FnWires comes to, and their walks: no condition but those named. -/
import Derived.Test.YtciihopkgblpkaaQFnWiresx0
import Derived.Test.YtciihopkgblpkaaQFnWiresx1
import Derived.Test.YtciihopkgblpkaaQFnWiresx2
namespace Go.Proofs.Ytciihopkgblpkaa.QFnWires
open Go.RowKit Go.Proofs.YtciihopkgblpkaaW.PrintWords Go.Proofs.YtciihopkgblpkaaW.PrintLast Go.Proofs.YtciihopkgblpkaaW.PrintMore Go.Proofs.Ytciihopkgblpkaa.Short
attribute [local go_sem] max2_int min2_int max_two min_two max_three min_three max_four min_four
set_option linter.unusedVariables false
set_option linter.unusedSimpArgs false

section
open Kd
/-! ### spec_CountMeets: function 16 -/
mutual
def spec_CountMeets.l0 : Nat → Int → Int → Int → List Int → List Int → Option (Int × Bool)
 | 0,_,_,_,_,_=>none
 | k + 1,x4,x5,x122000,x122001,x122002=>if x5 < (x122002.length : Int) then (spec_CountMeets.l1 k x4 x5 (wrap64 (x5 + 1)) x122000 x122001 x122002) else (some (x4,true))
def spec_CountMeets.l1 : Nat → Int → Int → Int → Int → List Int → List Int → Option (Int × Bool)
 | 0,_,_,_,_,_,_=>none
 | k + 1,x4,x5,x6,x122000,x122001,x122002=>if x6 < (x122002.length : Int) then (if 0 ≤ x5 then (if x5 < (x122002.length : Int) then (if (rd x122002 x5) = 1 then (if 0 ≤ x6 then (if (rd x122002 x6) = (-1) then (spec_CountMeets.l1 k (wrap64 (x4 + 1)) x5 (wrap64 (x6 + 1)) x122000 x122001 x122002) else (spec_CountMeets.l1 k x4 x5 (wrap64 (x6 + 1)) x122000 x122001 x122002)) else (none)) else (spec_CountMeets.l1 k x4 x5 (wrap64 (x6 + 1)) x122000 x122001 x122002)) else (none)) else (none)) else (spec_CountMeets.l0 k x4 (wrap64 (x5 + 1)) x122000 x122001 x122002)
end
def spec_CountMeets.f (k : Nat) (a0_0 : Int) (l0_1 : List Int) (l0_2 : List Int) : Option (Int × Bool):=(spec_l8Wire.f k a0_0 l0_1 l0_2).bind fun t122=>(if t122 = true then (spec_CountMeets.l0 k 0 0 a0_0 l0_1 l0_2) else (some (0,false)))
theorem spec_CountMeets.mono_l : ∀ k,(∀ y0 y1 y2 y3 y4,LeO (spec_CountMeets.l0 k y0 y1 y2 y3 y4) (spec_CountMeets.l0 (k + 1) y0 y1 y2 y3 y4)) ∧ (∀ y0 y1 y2 y3 y4 y5,LeO (spec_CountMeets.l1 k y0 y1 y2 y3 y4 y5) (spec_CountMeets.l1 (k + 1) y0 y1 y2 y3 y4 y5))
 | 0=>by
  refine ⟨?_,?_⟩<;>(intros;intro r h;simp [spec_CountMeets.l0,spec_CountMeets.l1] at h)
 | k + 1=>by
  obtain ⟨ih0,ih1⟩:=spec_CountMeets.mono_l k
  refine ⟨?_,?_⟩<;>intros<;>(first|unfold spec_CountMeets.l0 | unfold spec_CountMeets.l1)<;>(repeat' first|(with_reducible exact ih0 ..)|(with_reducible exact ih1 ..)|(with_reducible exact spec_l8Wire.mono _ _ _ _)|(with_reducible exact LeO.refl _)|(with_reducible exact LeO.none _)|(with_reducible refine LeO.ite ?_ ?_)|(with_reducible refine LeO.bind ?_ (fun _=>?_))|exact ih0 ..|exact ih1 ..|exact spec_l8Wire.mono _ _ _ _|exact LeO.none _|refine LeO.ite ?_ ?_|refine LeO.bind ?_ (fun _=>?_))
theorem spec_CountMeets.mono : ∀ a0 a1 a2 k,LeO (spec_CountMeets.f k a0 a1 a2) (spec_CountMeets.f (k + 1) a0 a1 a2):=by
 intro a0 a1 a2 k
 obtain ⟨ih0,ih1⟩:=spec_CountMeets.mono_l k
 unfold spec_CountMeets.f
 repeat' first
   | (with_reducible exact ih0 _ _ _ _ _)
   | (with_reducible exact ih1 _ _ _ _ _ _)
   | (with_reducible exact spec_l8Wire.mono _ _ _ _)
   | (with_reducible exact LeO.refl _)
   | (with_reducible exact LeO.none _)
   | (with_reducible refine LeO.ite ?_ ?_)
   | (with_reducible refine LeO.bind ?_ (fun _=>?_))
   | exact ih0 _ _ _ _ _
   | exact ih1 _ _ _ _ _ _
   | exact spec_l8Wire.mono _ _ _ _
   | exact LeO.none _
   | refine LeO.ite ?_ ?_
   | refine LeO.bind ?_ (fun _=>?_)
set_option maxHeartbeats 8000000 in
set_option maxRecDepth 100000 in
theorem spec_CountMeets.calls (k : Nat) (a0_0 : Int) (A0_1 : Option Addr) (c0_1 : Nat) (l0_1 : List Int) (A0_2 : Option Addr) (c0_2 : Nat) (l0_2 : List Int) (r1 : Int) (r2 : Bool) (w : World) (hr0_1 : Kd.C (Kd.int .i64) w A0_1 l0_1.length l0_1) (hc0_1 : l0_1.length ≤ c0_1) (hr0_2 : Kd.C (Kd.int .i64) w A0_2 l0_2.length l0_2) (hc0_2 : l0_2.length ≤ c0_2) (h : spec_CountMeets.f k a0_0 l0_1 l0_2 = some (r1,r2)) :
  Calls Try.prog 16 #[.agg #[.int .i64 a0_0,.slice A0_1 l0_1.length c0_1,.slice A0_2 l0_2.length c0_2]] w fun e w'=>e = .returned (.tuple #[.int .i64 r1,.bool r2]) ∧ Below w.heap.size w w':=by
 have hu27:=Try.underlying27
 have HR0_1:=Aside0.mk hr0_1
 have HC0_1:=Aside0.mk hc0_1
 clear hr0_1 hc0_1
 have HR0_2:=Aside0.mk hr0_2
 have HC0_2:=Aside0.mk hc0_2
 clear hr0_2 hc0_2
 have HB:=Aside0.mk (Below.refl w.heap.size w)
 have H : ((spec_l8Wire.f k a0_0 l0_1 l0_2).bind fun t122=>(if t122 = true then (spec_CountMeets.l0 k 0 0 a0_0 l0_1 l0_2) else (some (0,false)))) = some (r1,r2):=h
 clear h
 replace H:=Option.bind_eq_some_iff.mp H
 obtain ⟨t122,A20,H⟩:=H
 have A2:=Aside0.mk A20
 clear A20
 by_cases c3 : t122 = true
 rotate_left
 ·replace c3:=Bool.eq_false_iff.mpr c3
  subst c3
  rw [if_neg (show ¬ (false = true) by decide)] at H
  simp only [Option.some.injEq,Prod.mk.injEq] at H
  obtain ⟨rfl,rfl⟩:=H
  go_enter Try.func16,Try.ntmps16
  go_wp2_with (first|((with_reducible refine gate_dst (N:=1) rfl ?_);refine box_event ?hg (N:=1) ?hd (cs:=#[.int .i64 a0_0,.slice A0_1 l0_1.length c0_1,.slice A0_2 l0_2.length c0_2]) (t:=27) ?hr ?_;(case hd=>rfl);(case hg=>rfl);(case hr=>first|(go_simp;done)|(go_simp;rfl));intro gb121 hg w20 hbox hb;have BK121:=ak hbox;have GW121:=ak ((by rw [hg];exact (below_size (hm HB.out)) : w.heap.size ≤ gb121));have GE121:=ak ((by rw [hg];exact (below_size (hm HB.out)) : w.heap.size ≤ gb121));replace HB:=bs HB hb;clear hb hbox hg;have hcz21_0 : w20.cell? ⟨gb121,0,none⟩ = some (.int .i64 a0_0):=(blk_cell BK121.out 0).trans rfl;have hcz21_1 : w20.cell? ⟨gb121,1,none⟩ = some (.slice A0_1 l0_1.length c0_1):=(blk_cell BK121.out 1).trans rfl;have hcz21_2 : w20.cell? ⟨gb121,2,none⟩ = some (.slice A0_2 l0_2.length c0_2):=(blk_cell BK121.out 2).trans rfl;have hfz21_0:=blk_frozen BK121.out 0;have hfz21_1:=blk_frozen BK121.out 1;have hfz21_2:=blk_frozen BK121.out 2)|((with_reducible refine gate_callee (f:=40) rfl ?_);refine goesL_ (some 8) rfl rfl Try.func40 (by kernel_rfl) rfl #[.agg #[.int .i64 a0_0,.slice A0_1 l0_1.length c0_1,.slice A0_2 l0_2.length c0_2]] rfl gl ?_;(with_reducible refine (spec_l8Wire.calls k a0_0 _ _ l0_1 _ _ l0_2 false _ ?side1 ?side2 ?side3 ?side4 A2.out).mono ?_);(case side1=>exact cm (C_below HR0_1.out HB.out));(case side2=>exact HC0_1.out);(case side3=>exact cm (C_below HR0_2.out HB.out));(case side4=>exact HC0_2.out);rintro e w22 ⟨rfl,hb⟩;refine ⟨_,rfl,?_⟩;replace BK121:=kb BK121 hb;replace HB:=ak (below_step (h1 HB.out GE121.out) hb);(try clear hb)))
  go_ret2
  exact ⟨fe,h1 HB.out GE121.out⟩
 subst c3
 rw [if_pos rfl] at H
 have H':=Aside0.mk H
 clear H
 go_enter Try.func16,Try.ntmps16
 go_wp2_with (first|((with_reducible refine gate_dst (N:=1) rfl ?_);refine box_event ?hg (N:=1) ?hd (cs:=#[.int .i64 a0_0,.slice A0_1 l0_1.length c0_1,.slice A0_2 l0_2.length c0_2]) (t:=27) ?hr ?_;(case hd=>rfl);(case hg=>rfl);(case hr=>first|(go_simp;done)|(go_simp;rfl));intro gb121 hg w4 hbox hb;have BK121:=ak hbox;have GW121:=ak ((by rw [hg];exact (below_size (hm HB.out)) : w.heap.size ≤ gb121));have GE121:=ak ((by rw [hg];exact (below_size (hm HB.out)) : w.heap.size ≤ gb121));replace HB:=bs HB hb;clear hb hbox hg;have hcz5_0 : w4.cell? ⟨gb121,0,none⟩ = some (.int .i64 a0_0):=(blk_cell BK121.out 0).trans rfl;have hcz5_1 : w4.cell? ⟨gb121,1,none⟩ = some (.slice A0_1 l0_1.length c0_1):=(blk_cell BK121.out 1).trans rfl;have hcz5_2 : w4.cell? ⟨gb121,2,none⟩ = some (.slice A0_2 l0_2.length c0_2):=(blk_cell BK121.out 2).trans rfl;have hfz5_0:=blk_frozen BK121.out 0;have hfz5_1:=blk_frozen BK121.out 1;have hfz5_2:=blk_frozen BK121.out 2)|((with_reducible refine gate_callee (f:=40) rfl ?_);refine goesL_ (some 8) rfl rfl Try.func40 (by kernel_rfl) rfl #[.agg #[.int .i64 a0_0,.slice A0_1 l0_1.length c0_1,.slice A0_2 l0_2.length c0_2]] rfl gl ?_;(with_reducible refine (spec_l8Wire.calls k a0_0 _ _ l0_1 _ _ l0_2 true _ ?side1 ?side2 ?side3 ?side4 A2.out).mono ?_);(case side1=>exact cm (C_below HR0_1.out HB.out));(case side2=>exact HC0_1.out);(case side3=>exact cm (C_below HR0_2.out HB.out));(case side4=>exact HC0_2.out);rintro e w6 ⟨rfl,hb⟩;refine ⟨_,rfl,?_⟩;replace BK121:=kb BK121 hb;replace HB:=ak (below_step (h1 HB.out GE121.out) hb);(try clear hb)))
 go_loopg [4,5] k (fun kq v4 v5 w'=>∃ (x4_1 : Int) (x5_1 : Int),v4 = .int .i64 x4_1 ∧ v5 = .int .i64 x5_1 ∧ Aside0 (spec_CountMeets.l0 kq x4_1 x5_1 a0_0 l0_1 l0_2 = some (r1,r2)) ∧ Aside0 (kq ≤ k) ∧ Aside0 (w'.heap[gb121]? = some (.cells #[.int .i64 a0_0,(.slice A0_1 l0_1.length c0_1),(.slice A0_2 l0_2.length c0_2)] 27 (0,0))) ∧ Aside0 (Below w.heap.size w w'))
 case atStart=>exact ⟨(0),(0),fd,fd,H',⟨Nat.le_refl _⟩,⟨bm BK121.out⟩,⟨h1 HB.out GE121.out⟩⟩
 clear H'
 clear hcz5_0 hcz5_1 hcz5_2 hfz5_0 hfz5_1 hfz5_2
 obtain ⟨x4_1,x5_1,rfl,rfl,HA,HK1,BK121,HB⟩:=hrel
 cases gk with
 | zero=>exact absurd HA.out (by simp [spec_CountMeets.l0])
 | succ k1 =>
  have H:=HA.out
  clear HA
  simp only [spec_CountMeets.l0] at H
  by_cases c7 : x5_1 < (l0_2.length : Int)
  rotate_left
  ·rw [if_neg c7] at H
   have c7b0 : decide (x5_1 < (l0_2.length : Int)) = false:=decide_eq_false c7
   clear c7
   simp only [Option.some.injEq,Prod.mk.injEq] at H
   obtain ⟨rfl,rfl⟩:=H
   have hcz19_0 : wr.cell? ⟨gb121,0,none⟩ = some (.int .i64 a0_0):=(blk_cell BK121.out 0).trans rfl
   have hcz19_1 : wr.cell? ⟨gb121,1,none⟩ = some (.slice A0_1 l0_1.length c0_1):=(blk_cell BK121.out 1).trans rfl
   have hcz19_2 : wr.cell? ⟨gb121,2,none⟩ = some (.slice A0_2 l0_2.length c0_2):=(blk_cell BK121.out 2).trans rfl
   have hfz19_0:=blk_frozen BK121.out 0
   have hfz19_1:=blk_frozen BK121.out 1
   have hfz19_2:=blk_frozen BK121.out 2
   go_wp2
   go_ret2
   exact ⟨fe,h1 HB.out GE121.out⟩
  rw [if_pos c7] at H
  have c7b0 : decide (x5_1 < (l0_2.length : Int)) = true:=decide_eq_true c7
  clear c7
  have H':=Aside0.mk H
  clear H
  have hcz8_0 : wr.cell? ⟨gb121,0,none⟩ = some (.int .i64 a0_0):=(blk_cell BK121.out 0).trans rfl
  have hcz8_1 : wr.cell? ⟨gb121,1,none⟩ = some (.slice A0_1 l0_1.length c0_1):=(blk_cell BK121.out 1).trans rfl
  have hcz8_2 : wr.cell? ⟨gb121,2,none⟩ = some (.slice A0_2 l0_2.length c0_2):=(blk_cell BK121.out 2).trans rfl
  have hfz8_0:=blk_frozen BK121.out 0
  have hfz8_1:=blk_frozen BK121.out 1
  have hfz8_2:=blk_frozen BK121.out 2
  go_wp2
  go_loopg [4,6] k1 (fun kq v4 v6 w'=>∃ (x4_2 : Int) (x6_2 : Int),v4 = .int .i64 x4_2 ∧ v6 = .int .i64 x6_2 ∧ Aside0 (spec_CountMeets.l1 kq x4_2 x5_1 x6_2 a0_0 l0_1 l0_2 = some (r1,r2)) ∧ Aside0 (kq ≤ k1) ∧ Aside0 (w'.heap[gb121]? = some (.cells #[.int .i64 a0_0,(.slice A0_1 l0_1.length c0_1),(.slice A0_2 l0_2.length c0_2)] 27 (0,0))) ∧ Aside0 (Below w.heap.size w w'))
  case atStart=>exact ⟨(x4_1),(wrap64 (x5_1 + 1)),fd,fd,H',⟨Nat.le_refl _⟩,⟨bm BK121.out⟩,⟨h1 HB.out GE121.out⟩⟩
  clear H'
  clear c7b0 hcz8_0 hcz8_1 hcz8_2 hfz8_0 hfz8_1 hfz8_2
  obtain ⟨x4_2,x6_2,rfl,rfl,HA,HK2,BK121,HB⟩:=hrel
  cases gk with
  | zero=>exact absurd HA.out (by simp [spec_CountMeets.l1])
  | succ k2 =>
   have H:=HA.out
   clear HA
   simp only [spec_CountMeets.l1] at H
   by_cases c9 : x6_2 < (l0_2.length : Int)
   rotate_left
   ·rw [if_neg c9] at H
    have c9b0 : decide (x6_2 < (l0_2.length : Int)) = false:=decide_eq_false c9
    clear c9
    have H':=Aside0.mk H
    clear H
    have hcz18_0 : wr.cell? ⟨gb121,0,none⟩ = some (.int .i64 a0_0):=(blk_cell BK121.out 0).trans rfl
    have hcz18_1 : wr.cell? ⟨gb121,1,none⟩ = some (.slice A0_1 l0_1.length c0_1):=(blk_cell BK121.out 1).trans rfl
    have hcz18_2 : wr.cell? ⟨gb121,2,none⟩ = some (.slice A0_2 l0_2.length c0_2):=(blk_cell BK121.out 2).trans rfl
    have hfz18_0:=blk_frozen BK121.out 0
    have hfz18_1:=blk_frozen BK121.out 1
    have hfz18_2:=blk_frozen BK121.out 2
    go_wp2
    go_roundg k2
    case measure=>have:=HK1.out;have:=HK2.out;omega
    case rel=>exact ⟨(x4_2),(wrap64 (x5_1 + 1)),fd,fd,H',⟨by have:=HK1.out;have:=HK2.out;omega⟩,⟨bm BK121.out⟩,⟨h1 HB.out GE121.out⟩⟩
   rw [if_pos c9] at H
   have c9b0 : decide (x6_2 < (l0_2.length : Int)) = true:=decide_eq_true c9
   clear c9
   by_cases c10 : 0 ≤ x5_1
   rotate_left
   ·rw [if_neg c10] at H
    exact absurd H (by simp)
   rw [if_pos c10] at H
   have c10b0 : decide (0 ≤ x5_1) = true:=decide_eq_true c10
   clear c10
   by_cases c11 : x5_1 < (l0_2.length : Int)
   rotate_left
   ·rw [if_neg c11] at H
    exact absurd H (by simp)
   rw [if_pos c11] at H
   have c11b0 : decide (x5_1 < (l0_2.length : Int)) = true:=decide_eq_true c11
   clear c11
   by_cases c12 : (rd l0_2 x5_1) = 1
   rotate_left
   ·rw [if_neg c12] at H
    have c12b0 : ((rd l0_2 x5_1) == 1) = false:=beq_eq_false_iff_ne.mpr c12
    have c12b1 : ((rd l0_2 x5_1) != 1) = true:=bne_iff_ne.mpr c12
    have H':=Aside0.mk H
    clear H
    have hcz17_0 : wr.cell? ⟨gb121,0,none⟩ = some (.int .i64 a0_0):=(blk_cell BK121.out 0).trans rfl
    have hcz17_1 : wr.cell? ⟨gb121,1,none⟩ = some (.slice A0_1 l0_1.length c0_1):=(blk_cell BK121.out 1).trans rfl
    have hcz17_2 : wr.cell? ⟨gb121,2,none⟩ = some (.slice A0_2 l0_2.length c0_2):=(blk_cell BK121.out 2).trans rfl
    have hfz17_0:=blk_frozen BK121.out 0
    have hfz17_1:=blk_frozen BK121.out 1
    have hfz17_2:=blk_frozen BK121.out 2
    have p123 : 0 ≤ (x5_1 : Int):=od
    have q123 : x5_1 < (l0_2.length : Int):=od
    obtain ⟨ad123,e123,hx123_0⟩:=Kd.at_int HR0_2.out x5_1 p123 q123
    cases e123
    replace hx123_0:=(HB.out.cell (World.block_lt_of_cell? w _ hx123_0)).trans hx123_0
    replace p123:=eq_true p123
    replace q123:=eq_true q123
    go_wp2
    go_roundg k2
    case measure=>have:=HK1.out;have:=HK2.out;omega
    case rel=>exact ⟨(x4_2),(wrap64 (x6_2 + 1)),fd,fd,H',⟨by have:=HK1.out;have:=HK2.out;omega⟩,⟨bm BK121.out⟩,⟨h1 HB.out GE121.out⟩⟩
   rw [if_pos c12] at H
   have c12b0 : ((rd l0_2 x5_1) == 1) = true:=beq_iff_eq.mpr c12
   have c12b1 : ((rd l0_2 x5_1) != 1) = false:=bne_eq_false_iff_eq.mpr c12
   clear c12
   by_cases c13 : 0 ≤ x6_2
   rotate_left
   ·rw [if_neg c13] at H
    exact absurd H (by simp)
   rw [if_pos c13] at H
   have c13b0 : decide (0 ≤ x6_2) = true:=decide_eq_true c13
   clear c13
   by_cases c14 : (rd l0_2 x6_2) = (-1)
   rotate_left
   ·rw [if_neg c14] at H
    have c14b0 : ((rd l0_2 x6_2) == (-1)) = false:=beq_eq_false_iff_ne.mpr c14
    have c14b1 : ((rd l0_2 x6_2) != (-1)) = true:=bne_iff_ne.mpr c14
    have H':=Aside0.mk H
    clear H
    have hcz16_0 : wr.cell? ⟨gb121,0,none⟩ = some (.int .i64 a0_0):=(blk_cell BK121.out 0).trans rfl
    have hcz16_1 : wr.cell? ⟨gb121,1,none⟩ = some (.slice A0_1 l0_1.length c0_1):=(blk_cell BK121.out 1).trans rfl
    have hcz16_2 : wr.cell? ⟨gb121,2,none⟩ = some (.slice A0_2 l0_2.length c0_2):=(blk_cell BK121.out 2).trans rfl
    have hfz16_0:=blk_frozen BK121.out 0
    have hfz16_1:=blk_frozen BK121.out 1
    have hfz16_2:=blk_frozen BK121.out 2
    have p123 : 0 ≤ (x5_1 : Int):=od
    have q123 : x5_1 < (l0_2.length : Int):=od
    obtain ⟨ad123,e123,hx123_0⟩:=Kd.at_int HR0_2.out x5_1 p123 q123
    cases e123
    replace hx123_0:=(HB.out.cell (World.block_lt_of_cell? w _ hx123_0)).trans hx123_0
    replace p123:=eq_true p123
    replace q123:=eq_true q123
    have p124 : 0 ≤ (x6_2 : Int):=od
    have q124 : x6_2 < (l0_2.length : Int):=od
    obtain ⟨ad124,e124,hx124_0⟩:=Kd.at_int HR0_2.out x6_2 p124 q124
    obtain rfl : ad123 = ad124:=(by injection e124)
    replace hx124_0:=(HB.out.cell (World.block_lt_of_cell? w _ hx124_0)).trans hx124_0
    replace p124:=eq_true p124
    replace q124:=eq_true q124
    go_wp2
    go_roundg k2
    case measure=>have:=HK1.out;have:=HK2.out;omega
    case rel=>exact ⟨(x4_2),(wrap64 (x6_2 + 1)),fd,fd,H',⟨by have:=HK1.out;have:=HK2.out;omega⟩,⟨bm BK121.out⟩,⟨h1 HB.out GE121.out⟩⟩
   rw [if_pos c14] at H
   have c14b0 : ((rd l0_2 x6_2) == (-1)) = true:=beq_iff_eq.mpr c14
   have c14b1 : ((rd l0_2 x6_2) != (-1)) = false:=bne_eq_false_iff_eq.mpr c14
   clear c14
   have H':=Aside0.mk H
   clear H
   have hcz15_0 : wr.cell? ⟨gb121,0,none⟩ = some (.int .i64 a0_0):=(blk_cell BK121.out 0).trans rfl
   have hcz15_1 : wr.cell? ⟨gb121,1,none⟩ = some (.slice A0_1 l0_1.length c0_1):=(blk_cell BK121.out 1).trans rfl
   have hcz15_2 : wr.cell? ⟨gb121,2,none⟩ = some (.slice A0_2 l0_2.length c0_2):=(blk_cell BK121.out 2).trans rfl
   have hfz15_0:=blk_frozen BK121.out 0
   have hfz15_1:=blk_frozen BK121.out 1
   have hfz15_2:=blk_frozen BK121.out 2
   have p123 : 0 ≤ (x5_1 : Int):=od
   have q123 : x5_1 < (l0_2.length : Int):=od
   obtain ⟨ad123,e123,hx123_0⟩:=Kd.at_int HR0_2.out x5_1 p123 q123
   cases e123
   replace hx123_0:=(HB.out.cell (World.block_lt_of_cell? w _ hx123_0)).trans hx123_0
   replace p123:=eq_true p123
   replace q123:=eq_true q123
   have p124 : 0 ≤ (x6_2 : Int):=od
   have q124 : x6_2 < (l0_2.length : Int):=od
   obtain ⟨ad124,e124,hx124_0⟩:=Kd.at_int HR0_2.out x6_2 p124 q124
   obtain rfl : ad123 = ad124:=(by injection e124)
   replace hx124_0:=(HB.out.cell (World.block_lt_of_cell? w _ hx124_0)).trans hx124_0
   replace p124:=eq_true p124
   replace q124:=eq_true q124
   go_wp2
   go_roundg k2
   case measure=>have:=HK1.out;have:=HK2.out;omega
   case rel=>exact ⟨(wrap64 (x4_2 + 1)),(wrap64 (x6_2 + 1)),fd,fd,H',⟨by have:=HK1.out;have:=HK2.out;omega⟩,⟨bm BK121.out⟩,⟨h1 HB.out GE121.out⟩⟩

/-! ### impl_CountMeets: function 17 -/
def impl_CountMeets.l0 : Nat → Int → Int → List Int → Int → Int → Option (Int × Bool)
 | 0,_,_,_,_,_=>none
 | k + 1,x4,x5,x12,x13,x14=>if x14 < x13 then (if 0 ≤ x14 then (if x14 < (x12.length : Int) then (if (rd x12 x14) > 0 then (impl_CountMeets.l0 k (wrap64 (x4 + 1)) x5 x12 x13 (wrap64 (x14 + 1))) else (impl_CountMeets.l0 k x4 (wrap64 (x5 + x4)) x12 x13 (wrap64 (x14 + 1)))) else (none)) else (none)) else (some (x5,true))
def impl_CountMeets.f (k : Nat) (a0_0 : Int) (l0_1 : List Int) (l0_2 : List Int) : Option (Int × Bool):=(impl_IsWire.f k a0_0 l0_1 l0_2).bind fun t126=>(if t126 = true then (impl_CountMeets.l0 k 0 0 l0_2 (l0_2.length : Int) 0) else (some (0,false)))
theorem impl_CountMeets.mono_l : ∀ k,(∀ y0 y1 y2 y3 y4,LeO (impl_CountMeets.l0 k y0 y1 y2 y3 y4) (impl_CountMeets.l0 (k + 1) y0 y1 y2 y3 y4))
 | 0=>by
  refine ?_<;>(intros;intro r h;simp [impl_CountMeets.l0] at h)
 | k + 1=>by
  have ih0:=impl_CountMeets.mono_l k
  refine ?_<;>intros<;>(first|unfold impl_CountMeets.l0)<;>(repeat' first|(with_reducible exact ih0 ..)|(with_reducible exact impl_IsWire.mono _ _ _ _)|(with_reducible exact LeO.refl _)|(with_reducible exact LeO.none _)|(with_reducible refine LeO.ite ?_ ?_)|(with_reducible refine LeO.bind ?_ (fun _=>?_))|exact ih0 ..|exact impl_IsWire.mono _ _ _ _|exact LeO.none _|refine LeO.ite ?_ ?_|refine LeO.bind ?_ (fun _=>?_))
theorem impl_CountMeets.mono : ∀ a0 a1 a2 k,LeO (impl_CountMeets.f k a0 a1 a2) (impl_CountMeets.f (k + 1) a0 a1 a2):=by
 intro a0 a1 a2 k
 have ih0:=impl_CountMeets.mono_l k
 unfold impl_CountMeets.f
 repeat' first
   | (with_reducible exact ih0 _ _ _ _ _)
   | (with_reducible exact impl_IsWire.mono _ _ _ _)
   | (with_reducible exact LeO.refl _)
   | (with_reducible exact LeO.none _)
   | (with_reducible refine LeO.ite ?_ ?_)
   | (with_reducible refine LeO.bind ?_ (fun _=>?_))
   | exact ih0 _ _ _ _ _
   | exact impl_IsWire.mono _ _ _ _
   | exact LeO.none _
   | refine LeO.ite ?_ ?_
   | refine LeO.bind ?_ (fun _=>?_)
set_option maxHeartbeats 8000000 in
set_option maxRecDepth 100000 in
theorem impl_CountMeets.calls (k : Nat) (a0_0 : Int) (A0_1 : Option Addr) (c0_1 : Nat) (l0_1 : List Int) (A0_2 : Option Addr) (c0_2 : Nat) (l0_2 : List Int) (r1 : Int) (r2 : Bool) (w : World) (hr0_1 : Kd.C (Kd.int .i64) w A0_1 l0_1.length l0_1) (hc0_1 : l0_1.length ≤ c0_1) (hr0_2 : Kd.C (Kd.int .i64) w A0_2 l0_2.length l0_2) (hc0_2 : l0_2.length ≤ c0_2) (h : impl_CountMeets.f k a0_0 l0_1 l0_2 = some (r1,r2)) :
  Calls Try.prog 17 #[.agg #[.int .i64 a0_0,.slice A0_1 l0_1.length c0_1,.slice A0_2 l0_2.length c0_2]] w fun e w'=>e = .returned (.tuple #[.int .i64 r1,.bool r2]) ∧ Below w.heap.size w w':=by
 have hu27:=Try.underlying27
 have HR0_1:=Aside0.mk hr0_1
 have HC0_1:=Aside0.mk hc0_1
 clear hr0_1 hc0_1
 have HR0_2:=Aside0.mk hr0_2
 have HC0_2:=Aside0.mk hc0_2
 clear hr0_2 hc0_2
 have HB:=Aside0.mk (Below.refl w.heap.size w)
 have H : ((impl_IsWire.f k a0_0 l0_1 l0_2).bind fun t126=>(if t126 = true then (impl_CountMeets.l0 k 0 0 l0_2 (l0_2.length : Int) 0) else (some (0,false)))) = some (r1,r2):=h
 clear h
 replace H:=Option.bind_eq_some_iff.mp H
 obtain ⟨t126,A20,H⟩:=H
 have A2:=Aside0.mk A20
 clear A20
 by_cases c3 : t126 = true
 rotate_left
 ·replace c3:=Bool.eq_false_iff.mpr c3
  subst c3
  rw [if_neg (show ¬ (false = true) by decide)] at H
  simp only [Option.some.injEq,Prod.mk.injEq] at H
  obtain ⟨rfl,rfl⟩:=H
  go_enter Try.func17,Try.ntmps17
  go_wp2_with (first|((with_reducible refine gate_dst (N:=1) rfl ?_);refine box_event ?hg (N:=1) ?hd (cs:=#[.int .i64 a0_0,.slice A0_1 l0_1.length c0_1,.slice A0_2 l0_2.length c0_2]) (t:=27) ?hr ?_;(case hd=>rfl);(case hg=>rfl);(case hr=>first|(go_simp;done)|(go_simp;rfl));intro gb125 hg w12 hbox hb;have BK125:=ak hbox;have GW125:=ak ((by rw [hg];exact (below_size (hm HB.out)) : w.heap.size ≤ gb125));have GE125:=ak ((by rw [hg];exact (below_size (hm HB.out)) : w.heap.size ≤ gb125));replace HB:=bs HB hb;clear hb hbox hg;have hcz13_0 : w12.cell? ⟨gb125,0,none⟩ = some (.int .i64 a0_0):=(blk_cell BK125.out 0).trans rfl;have hcz13_1 : w12.cell? ⟨gb125,1,none⟩ = some (.slice A0_1 l0_1.length c0_1):=(blk_cell BK125.out 1).trans rfl;have hcz13_2 : w12.cell? ⟨gb125,2,none⟩ = some (.slice A0_2 l0_2.length c0_2):=(blk_cell BK125.out 2).trans rfl;have hfz13_0:=blk_frozen BK125.out 0;have hfz13_1:=blk_frozen BK125.out 1;have hfz13_2:=blk_frozen BK125.out 2)|((with_reducible refine gate_callee (f:=14) rfl ?_);refine goesL_ (some 9) rfl rfl Try.func14 (by kernel_rfl) rfl #[.agg #[.int .i64 a0_0,.slice A0_1 l0_1.length c0_1,.slice A0_2 l0_2.length c0_2]] rfl gl ?_;(with_reducible refine (impl_IsWire.calls k a0_0 _ _ l0_1 _ _ l0_2 false _ ?side1 ?side2 ?side3 ?side4 A2.out).mono ?_);(case side1=>exact cm (C_below HR0_1.out HB.out));(case side2=>exact HC0_1.out);(case side3=>exact cm (C_below HR0_2.out HB.out));(case side4=>exact HC0_2.out);rintro e w14 ⟨rfl,hb⟩;refine ⟨_,rfl,?_⟩;replace BK125:=kb BK125 hb;replace HB:=ak (below_step (h1 HB.out GE125.out) hb);(try clear hb)))
  go_ret2
  exact ⟨fe,h1 HB.out GE125.out⟩
 subst c3
 rw [if_pos rfl] at H
 have H':=Aside0.mk H
 clear H
 go_enter Try.func17,Try.ntmps17
 go_wp2_with (first|((with_reducible refine gate_dst (N:=1) rfl ?_);refine box_event ?hg (N:=1) ?hd (cs:=#[.int .i64 a0_0,.slice A0_1 l0_1.length c0_1,.slice A0_2 l0_2.length c0_2]) (t:=27) ?hr ?_;(case hd=>rfl);(case hg=>rfl);(case hr=>first|(go_simp;done)|(go_simp;rfl));intro gb125 hg w4 hbox hb;have BK125:=ak hbox;have GW125:=ak ((by rw [hg];exact (below_size (hm HB.out)) : w.heap.size ≤ gb125));have GE125:=ak ((by rw [hg];exact (below_size (hm HB.out)) : w.heap.size ≤ gb125));replace HB:=bs HB hb;clear hb hbox hg;have hcz5_0 : w4.cell? ⟨gb125,0,none⟩ = some (.int .i64 a0_0):=(blk_cell BK125.out 0).trans rfl;have hcz5_1 : w4.cell? ⟨gb125,1,none⟩ = some (.slice A0_1 l0_1.length c0_1):=(blk_cell BK125.out 1).trans rfl;have hcz5_2 : w4.cell? ⟨gb125,2,none⟩ = some (.slice A0_2 l0_2.length c0_2):=(blk_cell BK125.out 2).trans rfl;have hfz5_0:=blk_frozen BK125.out 0;have hfz5_1:=blk_frozen BK125.out 1;have hfz5_2:=blk_frozen BK125.out 2)|((with_reducible refine gate_callee (f:=14) rfl ?_);refine goesL_ (some 9) rfl rfl Try.func14 (by kernel_rfl) rfl #[.agg #[.int .i64 a0_0,.slice A0_1 l0_1.length c0_1,.slice A0_2 l0_2.length c0_2]] rfl gl ?_;(with_reducible refine (impl_IsWire.calls k a0_0 _ _ l0_1 _ _ l0_2 true _ ?side1 ?side2 ?side3 ?side4 A2.out).mono ?_);(case side1=>exact cm (C_below HR0_1.out HB.out));(case side2=>exact HC0_1.out);(case side3=>exact cm (C_below HR0_2.out HB.out));(case side4=>exact HC0_2.out);rintro e w6 ⟨rfl,hb⟩;refine ⟨_,rfl,?_⟩;replace BK125:=kb BK125 hb;replace HB:=ak (below_step (h1 HB.out GE125.out) hb);(try clear hb);have hcz7_0 : w6.cell? ⟨gb125,0,none⟩ = some (.int .i64 a0_0):=(blk_cell BK125.out 0).trans rfl;have hcz7_1 : w6.cell? ⟨gb125,1,none⟩ = some (.slice A0_1 l0_1.length c0_1):=(blk_cell BK125.out 1).trans rfl;have hcz7_2 : w6.cell? ⟨gb125,2,none⟩ = some (.slice A0_2 l0_2.length c0_2):=(blk_cell BK125.out 2).trans rfl;have hfz7_0:=blk_frozen BK125.out 0;have hfz7_1:=blk_frozen BK125.out 1;have hfz7_2:=blk_frozen BK125.out 2))
 go_loopg [4,5,14] k (fun kq v4 v5 v14 w'=>∃ (x4_1 : Int) (x5_1 : Int) (x14_1 : Int),v4 = .int .i64 x4_1 ∧ v5 = .int .i64 x5_1 ∧ v14 = .int .i64 x14_1 ∧ Aside0 (impl_CountMeets.l0 kq x4_1 x5_1 l0_2 (l0_2.length : Int) x14_1 = some (r1,r2)) ∧ Aside0 (kq ≤ k) ∧ Aside0 (w'.heap[gb125]? = some (.cells #[.int .i64 a0_0,(.slice A0_1 l0_1.length c0_1),(.slice A0_2 l0_2.length c0_2)] 27 (0,0))) ∧ Aside0 (Below w.heap.size w w'))
 case atStart=>exact ⟨(0),(0),(0),fd,fd,fd,H',⟨Nat.le_refl _⟩,⟨bm BK125.out⟩,⟨h1 HB.out GE125.out⟩⟩
 clear H'
 clear hcz5_0 hcz5_1 hcz5_2 hcz7_0 hcz7_1 hcz7_2 hfz5_0 hfz5_1 hfz5_2 hfz7_0 hfz7_1 hfz7_2
 obtain ⟨x4_1,x5_1,x14_1,rfl,rfl,rfl,HA,HK1,BK125,HB⟩:=hrel
 cases gk with
 | zero=>exact absurd HA.out (by simp [impl_CountMeets.l0])
 | succ k1 =>
  have H:=HA.out
  clear HA
  simp only [impl_CountMeets.l0] at H
  by_cases c8 : x14_1 < (l0_2.length : Int)
  rotate_left
  ·rw [if_neg c8] at H
   have c8b0 : decide (x14_1 < (l0_2.length : Int)) = false:=decide_eq_false c8
   clear c8
   simp only [Option.some.injEq,Prod.mk.injEq] at H
   obtain ⟨rfl,rfl⟩:=H
   go_wp2
   go_ret2
   exact ⟨fe,h1 HB.out GE125.out⟩
  rw [if_pos c8] at H
  have c8b0 : decide (x14_1 < (l0_2.length : Int)) = true:=decide_eq_true c8
  clear c8
  by_cases c9 : 0 ≤ x14_1
  rotate_left
  ·rw [if_neg c9] at H
   exact absurd H (by simp)
  rw [if_pos c9] at H
  have c9b0 : decide (0 ≤ x14_1) = true:=decide_eq_true c9
  clear c9
  by_cases c10 : x14_1 < (l0_2.length : Int)
  rotate_left
  ·rw [if_neg c10] at H
   exact absurd H (by simp)
  rw [if_pos c10] at H
  have c10b0 : decide (x14_1 < (l0_2.length : Int)) = true:=decide_eq_true c10
  clear c10
  by_cases c11 : (rd l0_2 x14_1) > 0
  ·rw [if_pos c11] at H
   have c11b0 : decide (0 < (rd l0_2 x14_1)) = true:=decide_eq_true c11
   clear c11
   have H':=Aside0.mk H
   clear H
   have p127 : 0 ≤ (x14_1 : Int):=od
   have q127 : x14_1 < (l0_2.length : Int):=od
   obtain ⟨ad127,e127,hx127_0⟩:=Kd.at_int HR0_2.out x14_1 p127 q127
   cases e127
   replace hx127_0:=(HB.out.cell (World.block_lt_of_cell? w _ hx127_0)).trans hx127_0
   replace p127:=eq_true p127
   replace q127:=eq_true q127
   go_wp2
   go_roundg k1
   case measure=>have:=HK1.out;omega
   case rel=>exact ⟨(wrap64 (x4_1 + 1)),(x5_1),(wrap64 (x14_1 + 1)),fd,fd,fd,H',⟨by have:=HK1.out;omega⟩,⟨bm BK125.out⟩,⟨h1 HB.out GE125.out⟩⟩
  rw [if_neg c11] at H
  have c11b0 : decide (0 < (rd l0_2 x14_1)) = false:=decide_eq_false c11
  clear c11
  have H':=Aside0.mk H
  clear H
  have p127 : 0 ≤ (x14_1 : Int):=od
  have q127 : x14_1 < (l0_2.length : Int):=od
  obtain ⟨ad127,e127,hx127_0⟩:=Kd.at_int HR0_2.out x14_1 p127 q127
  cases e127
  replace hx127_0:=(HB.out.cell (World.block_lt_of_cell? w _ hx127_0)).trans hx127_0
  replace p127:=eq_true p127
  replace q127:=eq_true q127
  go_wp2
  go_roundg k1
  case measure=>have:=HK1.out;omega
  case rel=>exact ⟨(x4_1),(wrap64 (x5_1 + x4_1)),(wrap64 (x14_1 + 1)),fd,fd,fd,H',⟨by have:=HK1.out;omega⟩,⟨bm BK125.out⟩,⟨h1 HB.out GE125.out⟩⟩

/-! ### spec_l8Shades: function 44 -/
def spec_l8Shades.l0 : Nat → List Int → Int → Int → List Int → List Int → Option (List Int)
 | 0,_,_,_,_,_=>none
 | k + 1,x3,x4,x129000,x129001,x129002=>if x4 < (x129001.length : Int) then (if 0 ≤ x4 then (if x4 < (x129002.length : Int) then (if (rd x129002 x4) < 0 then (if x3.length < 17592186044416 then (spec_l8Shades.l0 k (x3 ++ [rd x129001 x4]) (wrap64 (x4 + 1)) x129000 x129001 x129002) else (none)) else (if x3.length < 17592186044416 then (spec_l8Shades.l0 k (x3 ++ [wrap64 (x129000 - (rd x129001 x4))]) (wrap64 (x4 + 1)) x129000 x129001 x129002) else (none))) else (none)) else (none)) else (some x3)
def spec_l8Shades.f (k : Nat) (a0_0 : Int) (l0_1 : List Int) (l0_2 : List Int) : Option (List Int):=spec_l8Shades.l0 k (([] : List Int)) 0 a0_0 l0_1 l0_2
theorem spec_l8Shades.mono_l : ∀ k,(∀ y0 y1 y2 y3 y4,LeO (spec_l8Shades.l0 k y0 y1 y2 y3 y4) (spec_l8Shades.l0 (k + 1) y0 y1 y2 y3 y4))
 | 0=>by
  refine ?_<;>(intros;intro r h;simp [spec_l8Shades.l0] at h)
 | k + 1=>by
  have ih0:=spec_l8Shades.mono_l k
  refine ?_<;>intros<;>(first|unfold spec_l8Shades.l0)<;>(repeat' first|(with_reducible exact ih0 ..)|(with_reducible exact LeO.refl _)|(with_reducible exact LeO.none _)|(with_reducible refine LeO.ite ?_ ?_)|(with_reducible refine LeO.bind ?_ (fun _=>?_))|exact ih0 ..|exact LeO.none _|refine LeO.ite ?_ ?_|refine LeO.bind ?_ (fun _=>?_))
theorem spec_l8Shades.mono : ∀ a0 a1 a2 k,LeO (spec_l8Shades.f k a0 a1 a2) (spec_l8Shades.f (k + 1) a0 a1 a2):=by
 intro a0 a1 a2 k
 have ih0:=spec_l8Shades.mono_l k
 unfold spec_l8Shades.f
 repeat' first
   | (with_reducible exact ih0 _ _ _ _ _)
   | (with_reducible exact LeO.refl _)
   | (with_reducible exact LeO.none _)
   | (with_reducible refine LeO.ite ?_ ?_)
   | (with_reducible refine LeO.bind ?_ (fun _=>?_))
   | exact ih0 _ _ _ _ _
   | exact LeO.none _
   | refine LeO.ite ?_ ?_
   | refine LeO.bind ?_ (fun _=>?_)
def spec_l8Shades.T7 : Bool × List (List Nat × List Nat):=(true,[([],[]),([],[]),([1],[1]),([],[]),([3],[3]),([],[]),([4,5],[4,5]),([6],[6]),([2,7],[2,7]),([8],[8]),([0,9],[0,9]),([10,10,0,1,2,3,4,5,6,7,8,9,10],[0,10])])
def spec_l8Shades.B7 : List Nat:=[0,0,2,0,8,0,56,120,254,510,1023,2047]
theorem spec_l8Shades.tab7 : rtab .any (opsOf Try.f44 7) = spec_l8Shades.T7:=by kernel_rfl
theorem spec_l8Shades.bits7 : waitsOk spec_l8Shades.T7.2 spec_l8Shades.B7 = true:=by kernel_rfl
set_option maxHeartbeats 8000000 in
set_option maxRecDepth 100000 in
theorem spec_l8Shades.calls (k : Nat) (a0_0 : Int) (A0_1 : Option Addr) (c0_1 : Nat) (l0_1 : List Int) (A0_2 : Option Addr) (c0_2 : Nat) (l0_2 : List Int) (r : List Int) (w : World) (hr0_1 : Kd.C (Kd.int .i64) w A0_1 l0_1.length l0_1) (hc0_1 : l0_1.length ≤ c0_1) (hr0_2 : Kd.C (Kd.int .i64) w A0_2 l0_2.length l0_2) (hc0_2 : l0_2.length ≤ c0_2) (h : spec_l8Shades.f k a0_0 l0_1 l0_2 = some r) :
  Calls Try.prog 44 #[.agg #[.int .i64 a0_0,.slice A0_1 l0_1.length c0_1,.slice A0_2 l0_2.length c0_2]] w fun e w'=>∃ v0_ : Value,e = .returned (v0_) ∧ Kd.R (Kd.int .i64) 3 w' w.heap.size (fun _=>True) v0_ r ∧ Below w.heap.size w w':=by
 have hu27:=Try.underlying27
 have HR0_1:=Aside0.mk hr0_1
 have HC0_1:=Aside0.mk hc0_1
 clear hr0_1 hc0_1
 have HR0_2:=Aside0.mk hr0_2
 have HC0_2:=Aside0.mk hc0_2
 clear hr0_2 hc0_2
 have HB:=Aside0.mk (Below.refl w.heap.size w)
 have H : (spec_l8Shades.l0 k (([] : List Int)) 0 a0_0 l0_1 l0_2) = some r:=h
 clear h
 obtain ⟨y129,hy129⟩ : ∃ y_ : List Int,y_ = (([] : List Int)):=⟨_,rfl⟩
 replace H : (spec_l8Shades.l0 k y129 0 a0_0 l0_1 l0_2) = some r:=by first|(rw [hy129];with_reducible exact H)|(have H2_:=(Option.bind_some _ _).symm.trans H;rw [hy129];with_reducible exact H2_)|(have H2_:=(Option.bind_some _ _).symm.trans H;with_reducible exact H2_)|with_reducible exact H|(rw [hy129];exact H)|exact H
 have Ny129:=Aside0.mk hy129
 clear hy129
 have H':=Aside0.mk H
 clear H
 go_enter Try.func44,Try.ntmps44
 go_wp2_with (first|((with_reducible refine gate_dst (N:=1) rfl ?_);refine box_event ?hg (N:=1) ?hd (cs:=#[.int .i64 a0_0,.slice A0_1 l0_1.length c0_1,.slice A0_2 l0_2.length c0_2]) (t:=27) ?hr ?_;(case hd=>rfl);(case hg=>rfl);(case hr=>first|(go_simp;done)|(go_simp;rfl));intro gb128 hg w2 hbox hb;have BK128:=ak hbox;have GW128:=ak ((by rw [hg];exact (below_size (hm HB.out)) : w.heap.size ≤ gb128));have GE128:=ak ((by rw [hg];exact (below_size (hm HB.out)) : w.heap.size ≤ gb128));replace HB:=bs HB hb;clear hb hbox hg)|((with_reducible refine gate_dst (N:=5) rfl ?_);refine R_lit (Kd.int .i64) _ 3 ?hg (N:=5) ?hd (xs:=([] : List Int)) (inner:=[]) (ok:=fun _=>True) (okp:=fun _=>True) ?hr ?hp (fun _ hk=>hk) trivial (Below.refl _ _) (Nat.le_refl _) (by simp) ?_;(case hd=>rfl);(case hg=>rfl);(case hr=>first|(go_simp;done)|(go_simp;rfl));(case hp=>exact (Reps.none _ _));intro v130 w3 ho4 hb hg_ hnew_;clear hg_ hnew_;(rw [← Ny129.out] at ho4);have HO131:=ak (R_lower ho4 (below_size (h1 HB.out GE128.out)));replace BK128:=kb BK128 hb;replace HB:=ak (below_step (h1 HB.out GE128.out) hb);clear hb ho4))
 go_loopg [3,4] k (fun kq v3 v4 w'=>∃ (x3_1 : List Int) (x4_1 : Int),v4 = .int .i64 x4_1 ∧ Aside0 (spec_l8Shades.l0 kq x3_1 x4_1 a0_0 l0_1 l0_2 = some r) ∧ Aside0 (kq ≤ k) ∧ Aside0 (Kd.R (Kd.int .i64) 3 w' w.heap.size (fun _=>True) v3 x3_1) ∧ Aside0 (w'.heap[gb128]? = some (.cells #[.int .i64 a0_0,(.slice A0_1 l0_1.length c0_1),(.slice A0_2 l0_2.length c0_2)] 27 (0,0))) ∧ Aside0 (Below w.heap.size w w'))
 case atStart=>exact ⟨(y129),(0),fd,H',⟨Nat.le_refl _⟩,⟨rm HO131.out⟩,⟨bm BK128.out⟩,⟨h1 HB.out GE128.out⟩⟩
 clear H'
 obtain ⟨x3_1,x4_1,rfl,HA,HK1,HO_3,BK128,HB⟩:=hrel
 cases gk with
 | zero=>exact absurd HA.out (by simp [spec_l8Shades.l0])
 | succ k1 =>
  have H:=HA.out
  clear HA
  simp only [spec_l8Shades.l0] at H
  by_cases c5 : x4_1 < (l0_1.length : Int)
  rotate_left
  ·rw [if_neg c5] at H
   have c5b0 : decide (x4_1 < (l0_1.length : Int)) = false:=decide_eq_false c5
   clear c5
   obtain rfl:=Option.some.inj H
   have hcz16_0 : wr.cell? ⟨gb128,0,none⟩ = some (.int .i64 a0_0):=(blk_cell BK128.out 0).trans rfl
   have hcz16_1 : wr.cell? ⟨gb128,1,none⟩ = some (.slice A0_1 l0_1.length c0_1):=(blk_cell BK128.out 1).trans rfl
   have hcz16_2 : wr.cell? ⟨gb128,2,none⟩ = some (.slice A0_2 l0_2.length c0_2):=(blk_cell BK128.out 2).trans rfl
   have hfz16_0:=blk_frozen BK128.out 0
   have hfz16_1:=blk_frozen BK128.out 1
   have hfz16_2:=blk_frozen BK128.out 2
   go_wp2
   go_ret
   exact ⟨_,fe,rm HO_3.out,h1 HB.out GE128.out⟩
  rw [if_pos c5] at H
  have c5b0 : decide (x4_1 < (l0_1.length : Int)) = true:=decide_eq_true c5
  clear c5
  by_cases c6 : 0 ≤ x4_1
  rotate_left
  ·rw [if_neg c6] at H
   exact absurd H (by simp)
  rw [if_pos c6] at H
  have c6b0 : decide (0 ≤ x4_1) = true:=decide_eq_true c6
  clear c6
  by_cases c7 : x4_1 < (l0_2.length : Int)
  rotate_left
  ·rw [if_neg c7] at H
   exact absurd H (by simp)
  rw [if_pos c7] at H
  have c7b0 : decide (x4_1 < (l0_2.length : Int)) = true:=decide_eq_true c7
  clear c7
  by_cases c8 : (rd l0_2 x4_1) < 0
  ·rw [if_pos c8] at H
   have c8b0 : decide ((rd l0_2 x4_1) < 0) = true:=decide_eq_true c8
   clear c8
   by_cases c9 : x3_1.length < 17592186044416
   rotate_left
   ·rw [if_neg c9] at H
    exact absurd H (by simp)
   rw [if_pos c9] at H
   have LMc9:=Aside0.mk c9
   clear c9
   obtain ⟨y134,hy134⟩ : ∃ y_ : List Int,y_ = (x3_1 ++ [rd l0_1 x4_1]):=⟨_,rfl⟩
   replace H : (spec_l8Shades.l0 k1 y134 (wrap64 (x4_1 + 1)) a0_0 l0_1 l0_2) = some r:=by first|(rw [hy134];with_reducible exact H)|(have H2_:=(Option.bind_some _ _).symm.trans H;rw [hy134];with_reducible exact H2_)|(have H2_:=(Option.bind_some _ _).symm.trans H;with_reducible exact H2_)|with_reducible exact H|(rw [hy134];exact H)|exact H
   have Ny134:=Aside0.mk hy134
   clear hy134
   have H':=Aside0.mk H
   clear H
   have hcz10_0 : wr.cell? ⟨gb128,0,none⟩ = some (.int .i64 a0_0):=(blk_cell BK128.out 0).trans rfl
   have hcz10_1 : wr.cell? ⟨gb128,1,none⟩ = some (.slice A0_1 l0_1.length c0_1):=(blk_cell BK128.out 1).trans rfl
   have hcz10_2 : wr.cell? ⟨gb128,2,none⟩ = some (.slice A0_2 l0_2.length c0_2):=(blk_cell BK128.out 2).trans rfl
   have hfz10_0:=blk_frozen BK128.out 0
   have hfz10_1:=blk_frozen BK128.out 1
   have hfz10_2:=blk_frozen BK128.out 2
   have p132 : 0 ≤ (x4_1 : Int):=od
   have q132 : x4_1 < (l0_2.length : Int):=od
   obtain ⟨ad132,e132,hx132_0⟩:=Kd.at_int HR0_2.out x4_1 p132 q132
   cases e132
   replace hx132_0:=(HB.out.cell (World.block_lt_of_cell? w _ hx132_0)).trans hx132_0
   replace p132:=eq_true p132
   replace q132:=eq_true q132
   have p133 : 0 ≤ (x4_1 : Int):=od
   have q133 : x4_1 < (l0_1.length : Int):=od
   obtain ⟨ad133,e133,hx133_0⟩:=Kd.at_int HR0_1.out x4_1 p133 q133
   cases e133
   replace hx133_0:=(HB.out.cell (World.block_lt_of_cell? w _ hx133_0)).trans hx133_0
   replace p133:=eq_true p133
   replace q133:=eq_true q133
   go_wp2_with (((with_reducible refine gate_builtin (b:=.append) (xs:=#[.tmp 19,.tmp 25]) rfl ?_);at_builtin;refine R_append (Kd.int .i64) (w0:=w) w.heap.size rfl (.tmp 19) (.tmp 25) 22 3 (.int .i64 0) 8 rfl Try.underlying22 info3 rfl (by decide) (by omega) u3 x3_1 (rd l0_1 x4_1) [.int .i64 (rd l0_1 x4_1)] (fun _=>True) (fun _=>False) rfl rfl ?aP (fun _ hk=>hk.elim) ?aF ?aO ?aB ?aS ?aL ?_;(case aP=>exact rfl);(case aB=>exact (h1 HB.out GE128.out));(case aF=>exact (fun _ _=>trivial));(case aO=>exact (rm HO_3.out));(case aS=>exact (below_size (h1 HB.out GE128.out)));(case aL=>have:=LMc9.out;omega);intro v135 w11 ho hb hg hat;rw [← Ny134.out] at ho;replace BK128:=ak (blk_grown (g:=gb128) (o:=.cells #[.int .i64 a0_0,.slice (some ad133) l0_1.length c0_1,.slice (some ad132) l0_2.length c0_2] 27 (0,0)) (bm BK128.out) hg (R_ne HO_3.out BK128.out (by decide)));replace HB:=ak hb;have HO136:=ak ho;clear HO_3;clear ho hb hg hat))
   go_roundg k1
   case measure=>have:=HK1.out;omega
   case rel=>exact ⟨(y134),(wrap64 (x4_1 + 1)),fd,H',⟨by have:=HK1.out;omega⟩,⟨rm HO136.out⟩,⟨bm BK128.out⟩,⟨h1 HB.out GE128.out⟩⟩
  rw [if_neg c8] at H
  have c8b0 : decide ((rd l0_2 x4_1) < 0) = false:=decide_eq_false c8
  clear c8
  by_cases c12 : x3_1.length < 17592186044416
  rotate_left
  ·rw [if_neg c12] at H
   exact absurd H (by simp)
  rw [if_pos c12] at H
  have LMc12:=Aside0.mk c12
  clear c12
  obtain ⟨y138,hy138⟩ : ∃ y_ : List Int,y_ = (x3_1 ++ [wrap64 (a0_0 - (rd l0_1 x4_1))]):=⟨_,rfl⟩
  replace H : (spec_l8Shades.l0 k1 y138 (wrap64 (x4_1 + 1)) a0_0 l0_1 l0_2) = some r:=by first|(rw [hy138];with_reducible exact H)|(have H2_:=(Option.bind_some _ _).symm.trans H;rw [hy138];with_reducible exact H2_)|(have H2_:=(Option.bind_some _ _).symm.trans H;with_reducible exact H2_)|with_reducible exact H|(rw [hy138];exact H)|exact H
  have Ny138:=Aside0.mk hy138
  clear hy138
  have H':=Aside0.mk H
  clear H
  have hcz13_0 : wr.cell? ⟨gb128,0,none⟩ = some (.int .i64 a0_0):=(blk_cell BK128.out 0).trans rfl
  have hcz13_1 : wr.cell? ⟨gb128,1,none⟩ = some (.slice A0_1 l0_1.length c0_1):=(blk_cell BK128.out 1).trans rfl
  have hcz13_2 : wr.cell? ⟨gb128,2,none⟩ = some (.slice A0_2 l0_2.length c0_2):=(blk_cell BK128.out 2).trans rfl
  have hfz13_0:=blk_frozen BK128.out 0
  have hfz13_1:=blk_frozen BK128.out 1
  have hfz13_2:=blk_frozen BK128.out 2
  have p132 : 0 ≤ (x4_1 : Int):=od
  have q132 : x4_1 < (l0_2.length : Int):=od
  obtain ⟨ad132,e132,hx132_0⟩:=Kd.at_int HR0_2.out x4_1 p132 q132
  cases e132
  replace hx132_0:=(HB.out.cell (World.block_lt_of_cell? w _ hx132_0)).trans hx132_0
  replace p132:=eq_true p132
  replace q132:=eq_true q132
  try go_wp2
  replace HO_3:=ak (R_drew HO_3.out)
  replace BK128:=ak (blk_drew BK128.out)
  replace HB:=ak (below_drew1 HB.out)
  have p137 : 0 ≤ (x4_1 : Int):=od
  have q137 : x4_1 < (l0_1.length : Int):=od
  obtain ⟨ad137,e137,hx137_0⟩:=Kd.at_int HR0_1.out x4_1 p137 q137
  have hw137_0:=hx137_0
  cases e137
  replace hx137_0:=(HB.out.cell (World.block_lt_of_cell? w _ hx137_0)).trans hx137_0
  replace p137:=eq_true p137
  replace q137:=eq_true q137
  refine start_ (n:=12) (S:=fun w'=>w'.cell? ⟨gb128,0,none⟩ = some (.int .i64 a0_0) ∧ w'.cell? ⟨gb128,1,none⟩ = some (.slice (some ad137) l0_1.length c0_1) ∧ w'.cell? ⟨gb128,2,none⟩ = some (.slice (some ad132) l0_2.length c0_2) ∧ w'.cell? (ad137.add (x4_1).toNat) = some (.int .i64 (rd l0_1 x4_1))) (ds:=[]) (lb 12 0) (by kernel_rfl) rfl rfl ⟨(blk_cell BK128.out 0).trans rfl,(blk_cell BK128.out 1).trans rfl,(blk_cell BK128.out 2).trans rfl,((HB.out.cell (World.block_lt_of_cell? w _ hw137_0)).trans hw137_0)⟩ (fun hHeld=>?_);refine with_tabW spec_l8Shades.tab7 spec_l8Shades.bits7 (fun HT_ HW_=>?_)
  generalize wr.drew = w14 at HO_3 BK128 HB hx137_0 hHeld ⊢
  refine pq 0 (N:=some 27) (lb 12 1) HT_ ?_
  refine pq 1 (N:=some 28) (lb 12 3) HT_ ?_
  refine pq 3 (N:=some 30) (lb 12 11) HT_ ?_
  refine pq 5 (N:=some 32) (lb 12 43) HT_ ?_
  refine tq 2 (N:=some 29) (lb 12 47) HT_ HW_ hHeld ?_
  refine tq 4 (N:=some 31) (lb 12 63) HT_ HW_ hHeld ?_
  refine pq 6 (N:=some 33) (lb 12 127) HT_ ?_
  refine tq 7 (N:=some 34) (lb 12 255) HT_ HW_ hHeld ?_
  refine pq 8 (N:=some 35) (lb 12 511) HT_ ?_
  refine one_ (i:=9) (N:=some 36) (lb 12 1023) rfl rfl (one_of HT_.out (by kernel_rfl)) (by decide) (fun K hK=>?_)
  refine value_ (w1:=?_) (v:=?_) (by rfl) rfl ?_ ?_
  rotate_left 2
  ·go_simp
   constructor
   rotate_left
   ·rfl
   rfl
  refine hK.out _ _ ⟨(blk_cell (blk_alloc BK128.out _) 0).trans rfl,(blk_cell (blk_alloc BK128.out _) 1).trans rfl,(blk_cell (blk_alloc BK128.out _) 2).trans rfl,(World.cell?_alloc_lt _ _ _ (World.block_lt_of_cell? _ _ (((HB.out.cell (World.block_lt_of_cell? w _ hw137_0)).trans hw137_0)))).trans (((HB.out.cell (World.block_lt_of_cell? w _ hw137_0)).trans hw137_0))⟩ (fun hHeld=>?_)
  clear hK K
  refine norm_ (a':=?_) ?_ ?_
  rotate_left
  ·show Act.put _ (some 36) _ = _
   simp only [ap]
   rfl
  refine one_ (i:=10) (N:=some 37) (lb 12 2047) rfl rfl (one_of HT_.out (by kernel_rfl)) (by decide) (fun K hK=>?_)
  refine R_append_step (Kd.int .i64) (w0:=w) w.heap.size (by rfl) (.tmp 27) (.tmp 36) 22 3 (.int .i64 0) 8 rfl Try.underlying22 info3 rfl (by decide) (by omega) u3 x3_1 (wrap64 (a0_0 - (rd l0_1 x4_1))) [.int .i64 (wrap64 (a0_0 - (rd l0_1 x4_1)))] (fun _=>True) (fun _=>False) rfl rfl ?aP (fun _ hk=>hk.elim) ?aF ?aO ?aB ?aS ?aL ?_
  (case aP=>exact rfl)
  (case aB=>exact (h1 HB.out GE128.out))
  (case aF=>exact (fun _ _=>trivial))
  (case aO=>exact (rm HO_3.out))
  (case aS=>exact (below_size (h1 HB.out GE128.out)))
  (case aL=>have:=LMc12.out;omega)
  intro v139 w15 ho hb hg hat
  rw [← Ny138.out] at ho
  replace BK128:=ak (blk_grown (g:=gb128) (o:=.cells #[.int .i64 a0_0,.slice (some ad137) l0_1.length c0_1,.slice (some ad132) l0_2.length c0_2] 27 (0,0)) (bm BK128.out) hg (R_ne HO_3.out BK128.out (by decide)))
  replace HB:=ak hb
  have HO140:=ak ho
  clear HO_3
  clear ho hb hg hat
  refine hK.out _ _ ⟨(blk_cell BK128.out 0).trans rfl,(blk_cell BK128.out 1).trans rfl,(blk_cell BK128.out 2).trans rfl,((HB.out.cell (World.block_lt_of_cell? w _ hw137_0)).trans hw137_0)⟩ (fun hHeld=>?_)
  clear hK K
  refine norm_ (a':=?_) ?_ ?_
  rotate_left
  ·show Act.put _ (some 37) _ = _
   simp only [ap]
   rfl
  refine pq 11 (N:=some 3) (lb 12 4095) HT_ ?_
  refine done_ (done_of HT_.out (by kernel_rfl)) ?_
  try go_wp2
  go_roundg k1
  case measure=>have:=HK1.out;omega
  case rel=>exact ⟨(y138),(wrap64 (x4_1 + 1)),fd,H',⟨by have:=HK1.out;omega⟩,⟨rm HO140.out⟩,⟨bm BK128.out⟩,⟨h1 HB.out GE128.out⟩⟩

/-! ### spec_l1Most: function 45 -/
def spec_l1Most.f (a0 : Int) (a1 : Int) : Option (Int):=if a0 > a1 then (some a0) else (some a1)
set_option maxHeartbeats 8000000 in
set_option maxRecDepth 100000 in
theorem spec_l1Most.calls (a0 : Int) (a1 : Int) (r : Int) (w : World) (h : spec_l1Most.f a0 a1 = some r) :
  Calls Try.prog 45 #[.int .i64 a0,.int .i64 a1] w fun e w'=>e = .returned (.int .i64 r) ∧ Drawn0 w w':=by
 have H : (if a0 > a1 then (some a0) else (some a1)) = some r:=h
 clear h
 by_cases c3 : a0 > a1
 ·rw [if_pos c3] at H
  have c3b0 : decide (a1 < a0) = true:=decide_eq_true c3
  clear c3
  obtain rfl:=Option.some.inj H
  go_enter Try.func45,Try.ntmps45
  go_wp2
  go_ret
  exact ⟨by first|rfl|(simp;done)|(simp [*];done),by repeat (exact Drawn0.refl _)⟩
 rw [if_neg c3] at H
 have c3b0 : decide (a1 < a0) = false:=decide_eq_false c3
 clear c3
 obtain rfl:=Option.some.inj H
 go_enter Try.func45,Try.ntmps45
 go_wp2
 go_ret
 exact ⟨by first|rfl|(simp;done)|(simp [*];done),by repeat (exact Drawn0.refl _)⟩


end
end Go.Proofs.Ytciihopkgblpkaa.QFnWires
