/- Functions that the law FnSensors comes to, as Lean functions, with the proof that the Go code does what they say: written by a program of this session over the kit's print. No condition but those named. -/
import Derived.Test.YtknfhoghimnieaaQFnSensorsx0
import Derived.Test.YtknfhoghimnieaaQFnSensorsx3
import Derived.Test.YtknfhoghimnieaaQFnSensorsx5
namespace Go.Proofs.Ytknfhoghimnieaa.QFnSensors
open Go.RowKit Go.Proofs.YtknfhoghimnieaaW.PrintWords Go.Proofs.YtknfhoghimnieaaW.PrintLast Go.Proofs.YtknfhoghimnieaaW.PrintMore Go.Proofs.Ytknfhoghimnieaa.Short
attribute [local go_sem] max2_int min2_int max_two min_two max_three min_three max_four min_four   -- for this text's walks alone
set_option linter.unusedVariables false
set_option linter.unusedSimpArgs false

section
open Kd
/-! ### spec_l9Seen: function 53 -/
mutual
def spec_l9Seen.l0 : Nat → List (S59) → List Int → Int → Int → Bool → Option (List Int)
 | 0,_,_,_,_,_=>none
 | k + 1,x1,x5,x6,x163000,x163001=>if x6 < x163000 then (spec_l9Seen.l1 k x1 x5 x6 0 x163000 x163001) else (some x5)
def spec_l9Seen.l1 : Nat → List (S59) → List Int → Int → Int → Int → Bool → Option (List Int)
 | 0,_,_,_,_,_,_=>none
 | k + 1,x1,x5,x6,x7,x163000,x163001=>if x7 < (x1.length : Int) then (if 0 ≤ x7 then ((spec_l2Gap.f x163000 x163001 ((rd_T59 x1 x7).f0) x6).bind fun t167=>(if t167 ≤ ((rd_T59 x1 x7).f1) then (if 0 ≤ x6 then (if x6 < (x5.length : Int) then (spec_l9Seen.l1 k x1 (x5.set (x6 : Int).toNat (wrap64 ((rd x5 x6) + 1))) x6 (wrap64 (x7 + 1)) x163000 x163001) else (none)) else (none)) else (spec_l9Seen.l1 k x1 x5 x6 (wrap64 (x7 + 1)) x163000 x163001))) else (none)) else (spec_l9Seen.l0 k x1 x5 (wrap64 (x6 + 1)) x163000 x163001)
end
def spec_l9Seen.f (k : Nat) (a0_0 : Int) (a0_1 : Bool) (l1 : List (S59)) : Option (List Int):=if 0 ≤ a0_0 then (if (a0_0 : Int).toNat ≤ 35184372088832 then (spec_l9Seen.l0 k l1 (List.replicate (a0_0 : Int).toNat 0) 0 a0_0 a0_1) else (none)) else (none)
theorem spec_l9Seen.mono_l : ∀ k,(∀ y0 y1 y2 y3 y4,LeO (spec_l9Seen.l0 k y0 y1 y2 y3 y4) (spec_l9Seen.l0 (k + 1) y0 y1 y2 y3 y4)) ∧ (∀ y0 y1 y2 y3 y4 y5,LeO (spec_l9Seen.l1 k y0 y1 y2 y3 y4 y5) (spec_l9Seen.l1 (k + 1) y0 y1 y2 y3 y4 y5))
 | 0=>by
  refine ⟨?_,?_⟩<;>(intros;intro r h;simp [spec_l9Seen.l0,spec_l9Seen.l1] at h)
 | k + 1=>by
  obtain ⟨ih0,ih1⟩:=spec_l9Seen.mono_l k
  refine ⟨?_,?_⟩<;>intros<;>(first|unfold spec_l9Seen.l0 | unfold spec_l9Seen.l1)<;>(repeat' first|(with_reducible exact ih0 ..)|(with_reducible exact ih1 ..)|(with_reducible exact LeO.refl _)|(with_reducible exact LeO.none _)|(with_reducible refine LeO.ite ?_ ?_)|(with_reducible refine LeO.bind ?_ (fun _=>?_))|exact ih0 ..|exact ih1 ..|exact LeO.none _|refine LeO.ite ?_ ?_|refine LeO.bind ?_ (fun _=>?_))
theorem spec_l9Seen.mono : ∀ a0 a1 a2 k,LeO (spec_l9Seen.f k a0 a1 a2) (spec_l9Seen.f (k + 1) a0 a1 a2):=by
 intro a0 a1 a2 k
 obtain ⟨ih0,ih1⟩:=spec_l9Seen.mono_l k
 unfold spec_l9Seen.f
 repeat' first
   | (with_reducible exact ih0 _ _ _ _ _)
   | (with_reducible exact ih1 _ _ _ _ _ _)
   | (with_reducible exact LeO.refl _)
   | (with_reducible exact LeO.none _)
   | (with_reducible refine LeO.ite ?_ ?_)
   | (with_reducible refine LeO.bind ?_ (fun _=>?_))
   | exact ih0 _ _ _ _ _
   | exact ih1 _ _ _ _ _ _
   | exact LeO.none _
   | refine LeO.ite ?_ ?_
   | refine LeO.bind ?_ (fun _=>?_)
def spec_l9Seen.T8 : Bool × List (List Nat × List Nat):=(true,[([],[]),([],[]),([],[]),([1,2],[1,2]),([3],[3]),([4],[4]),([],[]),([0,5,6],[0,5,6]),([],[]),([],[]),([8,9],[8,9]),([10],[10]),([11],[11]),([7,12],[7,12])])
def spec_l9Seen.B8 : List Nat:=[0,0,0,6,14,30,0,127,0,0,768,1792,3840,8191]
theorem spec_l9Seen.tab8 : rtab .any (opsOf Try.f53 8) = spec_l9Seen.T8:=by kernel_rfl
theorem spec_l9Seen.bits8 : waitsOk spec_l9Seen.T8.2 spec_l9Seen.B8 = true:=by kernel_rfl
set_option maxHeartbeats 8000000 in
set_option maxRecDepth 100000 in
theorem spec_l9Seen.calls (k : Nat) (a0_0 : Int) (a0_1 : Bool) (A1 : Option Addr) (c1 : Nat) (l1 : List (S59)) (r : List Int) (w : World) (hr1 : Kd.C k59 w A1 l1.length l1) (hc1 : l1.length ≤ c1) (h : spec_l9Seen.f k a0_0 a0_1 l1 = some r) :
  Calls Try.prog 53 #[.agg #[.int .i64 a0_0,.bool a0_1],.slice A1 l1.length c1] w fun e w'=>∃ v0_ : Value,e = .returned (v0_) ∧ Kd.R (Kd.int .i64) 3 w' w.heap.size (fun _=>True) v0_ r ∧ Below w.heap.size w w':=by
 have hu28:=Try.underlying28
 have HR1:=Aside0.mk hr1
 have HC1:=Aside0.mk hc1
 clear hr1 hc1
 have HB:=Aside0.mk (Below.refl w.heap.size w)
 have H : (if 0 ≤ a0_0 then (if (a0_0 : Int).toNat ≤ 35184372088832 then (spec_l9Seen.l0 k l1 (List.replicate (a0_0 : Int).toNat 0) 0 a0_0 a0_1) else (none)) else (none)) = some r:=h
 clear h
 by_cases c3 : 0 ≤ a0_0
 rotate_left
 ·rw [if_neg c3] at H
  exact absurd H (by simp)
 rw [if_pos c3] at H
 have c3b0:=eq_true c3
 have c3b1 : decide (0 ≤ a0_0) = true:=decide_eq_true c3
 clear c3
 by_cases c4 : (a0_0 : Int).toNat ≤ 35184372088832
 rotate_left
 ·rw [if_neg c4] at H
  exact absurd H (by simp)
 rw [if_pos c4] at H
 have c4b0:=eq_true c4
 have c4b1 : decide ((a0_0 : Int).toNat ≤ 35184372088832) = true:=decide_eq_true c4
 clear c4
 obtain ⟨y163,hy163⟩ : ∃ y_ : List Int,y_ = (List.replicate (a0_0 : Int).toNat 0):=⟨_,rfl⟩
 replace H : (spec_l9Seen.l0 k l1 y163 0 a0_0 a0_1) = some r:=by first|(rw [hy163];with_reducible exact H)|(have H2_:=(Option.bind_some _ _).symm.trans H;rw [hy163];with_reducible exact H2_)|(have H2_:=(Option.bind_some _ _).symm.trans H;with_reducible exact H2_)|with_reducible exact H|(rw [hy163];exact H)|exact H
 have Ny163:=Aside0.mk hy163
 clear hy163
 have H':=Aside0.mk H
 clear H
 go_enter Try.func53,Try.ntmps53
 go_wp2_with (first|((with_reducible refine gate_dst (N:=2) rfl ?_);refine box_event ?hg (N:=2) ?hd (cs:=#[.int .i64 a0_0,.bool a0_1]) (t:=28) ?hr ?_;(case hd=>rfl);(case hg=>rfl);(case hr=>first|(go_simp;done)|(go_simp;rfl));intro gb162 hg w5 hbox hb;have BK162:=ak hbox;have GW162:=ak ((by rw [hg];exact (below_size (hm HB.out)) : w.heap.size ≤ gb162));have GE162:=ak ((by rw [hg];exact (below_size (hm HB.out)) : w.heap.size ≤ gb162));replace HB:=bs HB hb;clear hb hbox hg;have hcz6_0 : w5.cell? ⟨gb162,0,none⟩ = some (.int .i64 a0_0):=(blk_cell BK162.out 0).trans rfl;have hcz6_1 : w5.cell? ⟨gb162,1,none⟩ = some (.bool a0_1):=(blk_cell BK162.out 1).trans rfl;have hfz6_0:=blk_frozen BK162.out 0;have hfz6_1:=blk_frozen BK162.out 1)|((with_reducible refine gate_dst (N:=10) rfl ?_);refine R_make (Kd.int .i64) _ 3 rfl (N:=10) rfl 39 _ _ rfl a0_0 rfl rfl Try.underlying39 (.int .i64 0) 8 info3 rfl (by decide) (by omega) 0 (ok:=fun _=>True) (okp:=fun _=>True) rfl (fun _ hk=>hk) trivial (od) (Nat.le_trans (Nat.mul_le_mul_right _ (od : a0_0.toNat ≤ 35184372088832)) (by omega)) (Below.refl _ _) (Nat.le_refl _) ?_;intro v164 w7 ho8 hb hg_ hnew_;clear hg_ hnew_;(first|rw [← Ny163.out] at ho8|(simp only [Int.reduceToNat] at ho8;rw [← Ny163.out] at ho8));have HO165:=ak (R_lower ho8 (below_size (h1 HB.out GE162.out)));replace BK162:=kb BK162 hb;replace HB:=ak (below_step (h1 HB.out GE162.out) hb);clear hb ho8))
 go_loopg [6] k (fun kq v6 w'=>∃ (x5_1 : List Int) (x6_1 : Int),v6 = .int .i64 x6_1 ∧ Aside0 (spec_l9Seen.l0 kq l1 x5_1 x6_1 a0_0 a0_1 = some r) ∧ Aside0 (kq ≤ k) ∧ Aside0 (Kd.R (Kd.int .i64) 3 w' w.heap.size (fun _=>True) v164 x5_1) ∧ Aside0 (w'.heap[gb162]? = some (.cells #[.int .i64 a0_0,.bool a0_1] 28 (0,0))) ∧ Aside0 (Below w.heap.size w w'))
 case atStart=>exact ⟨(y163),(0),fd,H',⟨Nat.le_refl _⟩,⟨rm HO165.out⟩,⟨bm BK162.out⟩,⟨h1 HB.out GE162.out⟩⟩
 clear H'
 try clear c1
 try clear p2
 try clear c3
 try clear c3b0
 try clear c3b1
 try clear c4
 try clear c4b0
 try clear c4b1
 try clear c5
 try clear hcz6_0
 try clear hcz6_1
 try clear hfz6_0
 try clear hfz6_1
 obtain ⟨x5_1,x6_1,rfl,HA,HK1,HO_5,BK162,HB⟩:=hrel
 cases gk with
 | zero=>exact absurd HA.out (by simp [spec_l9Seen.l0])
 | succ k1 =>
  have H:=HA.out
  clear HA
  simp only [spec_l9Seen.l0] at H
  by_cases c9 : x6_1 < a0_0
  rotate_left
  ·rw [if_neg c9] at H
   have c9b0 : decide (x6_1 < a0_0) = false:=decide_eq_false c9
   clear c9
   obtain rfl:=Option.some.inj H
   have hcz25_0 : wr.cell? ⟨gb162,0,none⟩ = some (.int .i64 a0_0):=(blk_cell BK162.out 0).trans rfl
   have hcz25_1 : wr.cell? ⟨gb162,1,none⟩ = some (.bool a0_1):=(blk_cell BK162.out 1).trans rfl
   have hfz25_0:=blk_frozen BK162.out 0
   have hfz25_1:=blk_frozen BK162.out 1
   go_wp2
   go_ret
   exact ⟨_,fe,rm HO_5.out,h1 HB.out GE162.out⟩
  rw [if_pos c9] at H
  have c9b0 : decide (x6_1 < a0_0) = true:=decide_eq_true c9
  clear c9
  have H':=Aside0.mk H
  clear H
  have hcz10_0 : wr.cell? ⟨gb162,0,none⟩ = some (.int .i64 a0_0):=(blk_cell BK162.out 0).trans rfl
  have hcz10_1 : wr.cell? ⟨gb162,1,none⟩ = some (.bool a0_1):=(blk_cell BK162.out 1).trans rfl
  have hfz10_0:=blk_frozen BK162.out 0
  have hfz10_1:=blk_frozen BK162.out 1
  go_wp2
  go_loopg [7] k1 (fun kq v7 w'=>∃ (x5_2 : List Int) (x7_2 : Int),v7 = .int .i64 x7_2 ∧ Aside0 (spec_l9Seen.l1 kq l1 x5_2 x6_1 x7_2 a0_0 a0_1 = some r) ∧ Aside0 (kq ≤ k1) ∧ Aside0 (Kd.R (Kd.int .i64) 3 w' w.heap.size (fun _=>True) v164 x5_2) ∧ Aside0 (w'.heap[gb162]? = some (.cells #[.int .i64 a0_0,.bool a0_1] 28 (0,0))) ∧ Aside0 (Below w.heap.size w w'))
  case atStart=>exact ⟨(x5_1),(0),fd,H',⟨Nat.le_refl _⟩,⟨rm HO_5.out⟩,⟨bm BK162.out⟩,⟨h1 HB.out GE162.out⟩⟩
  clear H'
  try clear c1
  try clear p2
  try clear c3
  try clear c3b0
  try clear c3b1
  try clear c4
  try clear c4b0
  try clear c4b1
  try clear c5
  try clear c9
  try clear c9b0
  try clear hcz10_0
  try clear hcz10_1
  try clear hcz6_0
  try clear hcz6_1
  try clear hfz10_0
  try clear hfz10_1
  try clear hfz6_0
  try clear hfz6_1
  try clear p2
  obtain ⟨x5_2,x7_2,rfl,HA,HK2,HO_5,BK162,HB⟩:=hrel
  cases gk with
  | zero=>exact absurd HA.out (by simp [spec_l9Seen.l1])
  | succ k2 =>
   have H:=HA.out
   clear HA
   simp only [spec_l9Seen.l1] at H
   by_cases c11 : x7_2 < (l1.length : Int)
   rotate_left
   ·rw [if_neg c11] at H
    have c11b0 : decide (x7_2 < (l1.length : Int)) = false:=decide_eq_false c11
    clear c11
    have H':=Aside0.mk H
    clear H
    go_wp2
    go_roundg k2
    case measure=>have:=HK1.out;have:=HK2.out;omega
    case rel=>exact ⟨(x5_2),(wrap64 (x6_1 + 1)),fd,H',⟨by have:=HK1.out;have:=HK2.out;omega⟩,⟨rm HO_5.out⟩,⟨bm BK162.out⟩,⟨h1 HB.out GE162.out⟩⟩
   rw [if_pos c11] at H
   have c11b0 : decide (x7_2 < (l1.length : Int)) = true:=decide_eq_true c11
   clear c11
   by_cases c12 : 0 ≤ x7_2
   rotate_left
   ·rw [if_neg c12] at H
    exact absurd H (by simp)
   rw [if_pos c12] at H
   have c12b0 : decide (0 ≤ x7_2) = true:=decide_eq_true c12
   clear c12
   replace H:=Option.bind_eq_some_iff.mp H
   obtain ⟨t167,A130,H⟩:=H
   (try dsimp only at H)
   have A13:=Aside0.mk A130
   clear A130
   by_cases c14 : t167 ≤ ((rd_T59 l1 x7_2).f1)
   rotate_left
   ·rw [if_neg c14] at H
    have c14b0 : decide (t167 ≤ ((rd_T59 l1 x7_2).f1)) = false:=decide_eq_false c14
    clear c14
    have H':=Aside0.mk H
    clear H
    try go_wp2
    replace HO_5:=ak (R_drew HO_5.out)
    replace BK162:=ak (blk_drew BK162.out)
    replace HB:=ak (below_drew1 HB.out)
    have p166 : 0 ≤ (x7_2 : Int):=od
    have q166 : x7_2 < (l1.length : Int):=od
    obtain ⟨ad166,e166,hx166_0,hx166_1⟩:=at_T59 HR1.out x7_2 p166 q166
    have hw166_1:=hx166_1
    have hw166_0:=hx166_0
    cases e166
    replace hx166_0:=(HB.out.cell (World.block_lt_of_cell? w _ hx166_0)).trans hx166_0
    replace hx166_1:=(HB.out.cell (World.block_lt_of_cell? w _ hx166_1)).trans hx166_1
    replace p166:=eq_true p166
    replace q166:=eq_true q166
    have p168 : 0 ≤ (x7_2 : Int):=od
    have q168 : x7_2 < (l1.length : Int):=od
    obtain ⟨ad168,e168,hx168_0,hx168_1⟩:=at_T59 HR1.out x7_2 p168 q168
    have hw168_1:=hx168_1
    have hw168_0:=hx168_0
    obtain rfl : ad166 = ad168:=(by injection e168)
    replace hx168_0:=(HB.out.cell (World.block_lt_of_cell? w _ hx168_0)).trans hx168_0
    replace hx168_1:=(HB.out.cell (World.block_lt_of_cell? w _ hx168_1)).trans hx168_1
    replace p168:=eq_true p168
    replace q168:=eq_true q168
    refine start_ (n:=14) (S:=fun w'=>w'.cell? ⟨gb162,0,none⟩ = some (.int .i64 a0_0) ∧ w'.cell? ⟨gb162,1,none⟩ = some (.bool a0_1) ∧ w'.cell? (ad166.add ((x7_2).toNat * 2)) = some (.int .i64 ((rd_T59 l1 x7_2).f0)) ∧ w'.cell? ⟨(ad166.add ((x7_2).toNat * 2)).block,(ad166.add ((x7_2).toNat * 2)).off + 1,none⟩ = some (.int .i64 ((rd_T59 l1 x7_2).f1)) ∧ w'.cell? (ad166.add ((x7_2).toNat * 2)) = some (.int .i64 ((rd_T59 l1 x7_2).f0)) ∧ w'.cell? ⟨(ad166.add ((x7_2).toNat * 2)).block,(ad166.add ((x7_2).toNat * 2)).off + 1,none⟩ = some (.int .i64 ((rd_T59 l1 x7_2).f1))) (ds:=[]) (lb 14 0) (by kernel_rfl) rfl rfl ⟨(blk_cell BK162.out 0).trans rfl,(blk_cell BK162.out 1).trans rfl,((HB.out.cell (World.block_lt_of_cell? w _ hw166_0)).trans hw166_0),((HB.out.cell (World.block_lt_of_cell? w _ hw166_1)).trans hw166_1),((HB.out.cell (World.block_lt_of_cell? w _ hw168_0)).trans hw168_0),((HB.out.cell (World.block_lt_of_cell? w _ hw168_1)).trans hw168_1)⟩ (fun hHeld=>?_);refine with_tabW spec_l9Seen.tab8 spec_l9Seen.bits8 (fun HT_ HW_=>?_)
    generalize wr.drew = w23 at HO_5 BK162 HB hx166_0 hx166_1 hx168_0 hx168_1 hHeld ⊢
    refine pu 1 (N:=some 24) (v:=?_) (a':=?_) (lb 14 2) HT_ (by kernel_rfl) rfl rfl rfl (fun _ _ _ h=>h) ?_ ?_ ?_
    rotate_left
    ·intro w'
     go_simp
     with_reducible rfl
    rotate_left
    ·simp only [ap]
     rfl
    refine pu 2 (N:=some 25) (v:=?_) (a':=?_) (lb 14 6) HT_ (by kernel_rfl) rfl rfl rfl (fun _ _ _ h=>h) ?_ ?_ ?_
    rotate_left
    ·intro w'
     go_simp
     with_reducible rfl
    rotate_left
    ·simp only [ap]
     rfl
    refine pu 3 (N:=some 26) (v:=?_) (a':=?_) (lb 14 14) HT_ (by kernel_rfl) rfl rfl rfl (fun _ _ _ h=>h) ?_ ?_ ?_
    rotate_left
    ·intro w'
     go_simp
     with_reducible rfl
    rotate_left
    ·simp only [ap]
     rfl
    refine pu 4 (N:=some 27) (v:=?_) (a':=?_) (lb 14 30) HT_ (by kernel_rfl) rfl rfl rfl (fun _ _ _ h=>h) ?_ ?_ ?_
    rotate_left
    ·intro w'
     go_simp
     with_reducible rfl
    rotate_left
    ·simp only [ap]
     rfl
    refine pu 6 (N:=some 29) (v:=?_) (a':=?_) (lb 14 94) HT_ (by kernel_rfl) rfl rfl rfl (fun _ _ _ h=>h) ?_ ?_ ?_
    rotate_left
    ·intro w'
     go_simp
     with_reducible rfl
    rotate_left
    ·simp only [ap]
     rfl
    refine pu 8 (N:=some 31) (v:=?_) (a':=?_) (lb 14 350) HT_ (by kernel_rfl) rfl rfl rfl (fun _ _ _ h=>h) ?_ ?_ ?_
    rotate_left
    ·intro w'
     go_simp
     with_reducible rfl
    rotate_left
    ·simp only [ap]
     rfl
    refine pu 9 (N:=some 32) (v:=?_) (a':=?_) (lb 14 862) HT_ (by kernel_rfl) rfl rfl rfl (fun _ _ _ h=>h) ?_ ?_ ?_
    rotate_left
    ·intro w'
     go_simp
     with_reducible rfl
    rotate_left
    ·simp only [ap]
     rfl
    refine pu 10 (N:=some 33) (v:=?_) (a':=?_) (lb 14 1886) HT_ (by kernel_rfl) rfl rfl rfl (fun _ _ _ h=>h) ?_ ?_ ?_
    rotate_left
    ·intro w'
     go_simp
     with_reducible rfl
    rotate_left
    ·simp only [ap]
     rfl
    refine pu 11 (N:=some 34) (v:=?_) (a':=?_) (lb 14 3934) HT_ (by kernel_rfl) rfl rfl rfl (fun _ _ _ h=>h) ?_ ?_ ?_
    rotate_left
    ·intro w'
     go_simp
     with_reducible rfl
    rotate_left
    ·simp only [ap]
     rfl
    refine take_ (i:=0) (N:=some 23) (v:=?_) (a':=?_) (lb 14 3935) rfl rfl (take_ofW HT_.out HW_.out (by kernel_rfl)) (fun _ _ _ h=>h) (Or.inl ⟨by rfl,?_⟩) hHeld ?_ ?_
    rotate_left
    ·rintro w' ⟨s0,s1,s2,s3,s4,s5⟩
     go_simp
     with_reducible rfl
    rotate_left
    ·simp only [ap]
     rfl
    refine take_ (i:=5) (N:=some 28) (v:=?_) (a':=?_) (lb 14 3967) rfl rfl (take_ofW HT_.out HW_.out (by kernel_rfl)) (fun _ _ _ h=>h) (Or.inl ⟨by rfl,?_⟩) hHeld ?_ ?_
    rotate_left
    ·rintro w' ⟨s0,s1,s2,s3,s4,s5⟩
     go_simp
     with_reducible rfl
    rotate_left
    ·simp only [ap]
     rfl
    refine take_ (i:=12) (N:=some 35) (v:=?_) (a':=?_) (lb 14 8063) rfl rfl (take_ofW HT_.out HW_.out (by kernel_rfl)) (fun _ _ _ h=>h) (Or.inl ⟨by rfl,?_⟩) hHeld ?_ ?_
    rotate_left
    ·rintro w' ⟨s0,s1,s2,s3,s4,s5⟩
     go_simp
     with_reducible rfl
    rotate_left
    ·simp only [ap]
     rfl
    refine one_ (i:=7) (N:=some 30) (lb 14 8191) rfl rfl (one_of HT_.out (by kernel_rfl)) (by decide) (fun K hK=>?_)
    refine goes_ Try.func65 (by kernel_rfl) rfl #[.agg #[.int .i64 a0_0,.bool a0_1],.int .i64 ((rd_T59 l1 x7_2).f0),.int .i64 x6_1] (by rfl) rfl rfl gl ?_
    with_reducible refine (spec_l2Gap.calls a0_0 a0_1 ((rd_T59 l1 x7_2).f0) x6_1 t167 _ A13.out).mono ?_
    rintro e w24 ⟨rfl,hb⟩
    refine ⟨_,rfl,?_⟩
    replace HO_5:=rb HO_5 hb
    replace BK162:=kb BK162 hb
    replace HB:=ak (below_step (h1 HB.out GE162.out) hb)
    (try clear hb)
    (try clear hb2)
    (try clear hk)
    (try clear hi)
    refine hK.out _ _ ⟨(blk_cell BK162.out 0).trans rfl,(blk_cell BK162.out 1).trans rfl,((HB.out.cell (World.block_lt_of_cell? w _ hw166_0)).trans hw166_0),((HB.out.cell (World.block_lt_of_cell? w _ hw166_1)).trans hw166_1),((HB.out.cell (World.block_lt_of_cell? w _ hw168_0)).trans hw168_0),((HB.out.cell (World.block_lt_of_cell? w _ hw168_1)).trans hw168_1)⟩ (fun hHeld=>?_)
    clear hK K
    refine norm_ (a':=?_) ?_ ?_
    rotate_left
    ·show Act.put _ (some 30) _ = _
     simp only [ap]
     rfl
    refine pu 13 (N:=some 36) (v:=?_) (a':=?_) (lb 14 16383) HT_ (by kernel_rfl) rfl rfl rfl (fun _ _ _ h=>h) ?_ ?_ ?_
    rotate_left
    ·intro w'
     go_simp
     with_reducible rfl
    rotate_left
    ·simp only [ap]
     rfl
    refine done_ (done_of HT_.out (by kernel_rfl)) ?_
    try go_wp2
    go_roundg k2
    case measure=>have:=HK1.out;have:=HK2.out;omega
    case rel=>exact ⟨(x5_2),(wrap64 (x7_2 + 1)),fd,H',⟨by have:=HK1.out;have:=HK2.out;omega⟩,⟨rm HO_5.out⟩,⟨bm BK162.out⟩,⟨h1 HB.out GE162.out⟩⟩
   rw [if_pos c14] at H
   have c14b0 : decide (t167 ≤ ((rd_T59 l1 x7_2).f1)) = true:=decide_eq_true c14
   clear c14
   by_cases c15 : 0 ≤ x6_1
   rotate_left
   ·rw [if_neg c15] at H
    exact absurd H (by simp)
   rw [if_pos c15] at H
   have c15b0 : decide (0 ≤ x6_1) = true:=decide_eq_true c15
   clear c15
   by_cases c16 : x6_1 < (x5_2.length : Int)
   rotate_left
   ·rw [if_neg c16] at H
    exact absurd H (by simp)
   rw [if_pos c16] at H
   have c16b0 : decide (x6_1 < (x5_2.length : Int)) = true:=decide_eq_true c16
   clear c16
   obtain ⟨y170,hy170⟩ : ∃ y_ : List Int,y_ = (x5_2.set (x6_1 : Int).toNat (wrap64 ((rd x5_2 x6_1) + 1))):=⟨_,rfl⟩
   replace H : (spec_l9Seen.l1 k2 l1 y170 x6_1 (wrap64 (x7_2 + 1)) a0_0 a0_1) = some r:=by first|(rw [hy170];with_reducible exact H)|(have H2_:=(Option.bind_some _ _).symm.trans H;rw [hy170];with_reducible exact H2_)|(have H2_:=(Option.bind_some _ _).symm.trans H;with_reducible exact H2_)|with_reducible exact H|(rw [hy170];exact H)|exact H
   have Ny170:=Aside0.mk hy170
   clear hy170
   have H':=Aside0.mk H
   clear H
   try go_wp2
   replace HO_5:=ak (R_drew HO_5.out)
   replace BK162:=ak (blk_drew BK162.out)
   replace HB:=ak (below_drew1 HB.out)
   have p166 : 0 ≤ (x7_2 : Int):=od
   have q166 : x7_2 < (l1.length : Int):=od
   obtain ⟨ad166,e166,hx166_0,hx166_1⟩:=at_T59 HR1.out x7_2 p166 q166
   have hw166_1:=hx166_1
   have hw166_0:=hx166_0
   cases e166
   replace hx166_0:=(HB.out.cell (World.block_lt_of_cell? w _ hx166_0)).trans hx166_0
   replace hx166_1:=(HB.out.cell (World.block_lt_of_cell? w _ hx166_1)).trans hx166_1
   replace p166:=eq_true p166
   replace q166:=eq_true q166
   have p168 : 0 ≤ (x7_2 : Int):=od
   have q168 : x7_2 < (l1.length : Int):=od
   obtain ⟨ad168,e168,hx168_0,hx168_1⟩:=at_T59 HR1.out x7_2 p168 q168
   have hw168_1:=hx168_1
   have hw168_0:=hx168_0
   obtain rfl : ad166 = ad168:=(by injection e168)
   replace hx168_0:=(HB.out.cell (World.block_lt_of_cell? w _ hx168_0)).trans hx168_0
   replace hx168_1:=(HB.out.cell (World.block_lt_of_cell? w _ hx168_1)).trans hx168_1
   replace p168:=eq_true p168
   replace q168:=eq_true q168
   refine start_ (n:=14) (S:=fun w'=>w'.cell? ⟨gb162,0,none⟩ = some (.int .i64 a0_0) ∧ w'.cell? ⟨gb162,1,none⟩ = some (.bool a0_1) ∧ w'.cell? (ad166.add ((x7_2).toNat * 2)) = some (.int .i64 ((rd_T59 l1 x7_2).f0)) ∧ w'.cell? ⟨(ad166.add ((x7_2).toNat * 2)).block,(ad166.add ((x7_2).toNat * 2)).off + 1,none⟩ = some (.int .i64 ((rd_T59 l1 x7_2).f1)) ∧ w'.cell? (ad166.add ((x7_2).toNat * 2)) = some (.int .i64 ((rd_T59 l1 x7_2).f0)) ∧ w'.cell? ⟨(ad166.add ((x7_2).toNat * 2)).block,(ad166.add ((x7_2).toNat * 2)).off + 1,none⟩ = some (.int .i64 ((rd_T59 l1 x7_2).f1))) (ds:=[]) (lb 14 0) (by kernel_rfl) rfl rfl ⟨(blk_cell BK162.out 0).trans rfl,(blk_cell BK162.out 1).trans rfl,((HB.out.cell (World.block_lt_of_cell? w _ hw166_0)).trans hw166_0),((HB.out.cell (World.block_lt_of_cell? w _ hw166_1)).trans hw166_1),((HB.out.cell (World.block_lt_of_cell? w _ hw168_0)).trans hw168_0),((HB.out.cell (World.block_lt_of_cell? w _ hw168_1)).trans hw168_1)⟩ (fun hHeld=>?_);refine with_tabW spec_l9Seen.tab8 spec_l9Seen.bits8 (fun HT_ HW_=>?_)
   generalize wr.drew = w18 at HO_5 BK162 HB hx166_0 hx166_1 hx168_0 hx168_1 hHeld ⊢
   refine pu 1 (N:=some 24) (v:=?_) (a':=?_) (lb 14 2) HT_ (by kernel_rfl) rfl rfl rfl (fun _ _ _ h=>h) ?_ ?_ ?_
   rotate_left
   ·intro w'
    go_simp
    with_reducible rfl
   rotate_left
   ·simp only [ap]
    rfl
   refine pu 2 (N:=some 25) (v:=?_) (a':=?_) (lb 14 6) HT_ (by kernel_rfl) rfl rfl rfl (fun _ _ _ h=>h) ?_ ?_ ?_
   rotate_left
   ·intro w'
    go_simp
    with_reducible rfl
   rotate_left
   ·simp only [ap]
    rfl
   refine pu 3 (N:=some 26) (v:=?_) (a':=?_) (lb 14 14) HT_ (by kernel_rfl) rfl rfl rfl (fun _ _ _ h=>h) ?_ ?_ ?_
   rotate_left
   ·intro w'
    go_simp
    with_reducible rfl
   rotate_left
   ·simp only [ap]
    rfl
   refine pu 4 (N:=some 27) (v:=?_) (a':=?_) (lb 14 30) HT_ (by kernel_rfl) rfl rfl rfl (fun _ _ _ h=>h) ?_ ?_ ?_
   rotate_left
   ·intro w'
    go_simp
    with_reducible rfl
   rotate_left
   ·simp only [ap]
    rfl
   refine pu 6 (N:=some 29) (v:=?_) (a':=?_) (lb 14 94) HT_ (by kernel_rfl) rfl rfl rfl (fun _ _ _ h=>h) ?_ ?_ ?_
   rotate_left
   ·intro w'
    go_simp
    with_reducible rfl
   rotate_left
   ·simp only [ap]
    rfl
   refine pu 8 (N:=some 31) (v:=?_) (a':=?_) (lb 14 350) HT_ (by kernel_rfl) rfl rfl rfl (fun _ _ _ h=>h) ?_ ?_ ?_
   rotate_left
   ·intro w'
    go_simp
    with_reducible rfl
   rotate_left
   ·simp only [ap]
    rfl
   refine pu 9 (N:=some 32) (v:=?_) (a':=?_) (lb 14 862) HT_ (by kernel_rfl) rfl rfl rfl (fun _ _ _ h=>h) ?_ ?_ ?_
   rotate_left
   ·intro w'
    go_simp
    with_reducible rfl
   rotate_left
   ·simp only [ap]
    rfl
   refine pu 10 (N:=some 33) (v:=?_) (a':=?_) (lb 14 1886) HT_ (by kernel_rfl) rfl rfl rfl (fun _ _ _ h=>h) ?_ ?_ ?_
   rotate_left
   ·intro w'
    go_simp
    with_reducible rfl
   rotate_left
   ·simp only [ap]
    rfl
   refine pu 11 (N:=some 34) (v:=?_) (a':=?_) (lb 14 3934) HT_ (by kernel_rfl) rfl rfl rfl (fun _ _ _ h=>h) ?_ ?_ ?_
   rotate_left
   ·intro w'
    go_simp
    with_reducible rfl
   rotate_left
   ·simp only [ap]
    rfl
   refine take_ (i:=0) (N:=some 23) (v:=?_) (a':=?_) (lb 14 3935) rfl rfl (take_ofW HT_.out HW_.out (by kernel_rfl)) (fun _ _ _ h=>h) (Or.inl ⟨by rfl,?_⟩) hHeld ?_ ?_
   rotate_left
   ·rintro w' ⟨s0,s1,s2,s3,s4,s5⟩
    go_simp
    with_reducible rfl
   rotate_left
   ·simp only [ap]
    rfl
   refine take_ (i:=5) (N:=some 28) (v:=?_) (a':=?_) (lb 14 3967) rfl rfl (take_ofW HT_.out HW_.out (by kernel_rfl)) (fun _ _ _ h=>h) (Or.inl ⟨by rfl,?_⟩) hHeld ?_ ?_
   rotate_left
   ·rintro w' ⟨s0,s1,s2,s3,s4,s5⟩
    go_simp
    with_reducible rfl
   rotate_left
   ·simp only [ap]
    rfl
   refine take_ (i:=12) (N:=some 35) (v:=?_) (a':=?_) (lb 14 8063) rfl rfl (take_ofW HT_.out HW_.out (by kernel_rfl)) (fun _ _ _ h=>h) (Or.inl ⟨by rfl,?_⟩) hHeld ?_ ?_
   rotate_left
   ·rintro w' ⟨s0,s1,s2,s3,s4,s5⟩
    go_simp
    with_reducible rfl
   rotate_left
   ·simp only [ap]
    rfl
   refine one_ (i:=7) (N:=some 30) (lb 14 8191) rfl rfl (one_of HT_.out (by kernel_rfl)) (by decide) (fun K hK=>?_)
   refine goes_ Try.func65 (by kernel_rfl) rfl #[.agg #[.int .i64 a0_0,.bool a0_1],.int .i64 ((rd_T59 l1 x7_2).f0),.int .i64 x6_1] (by rfl) rfl rfl gl ?_
   with_reducible refine (spec_l2Gap.calls a0_0 a0_1 ((rd_T59 l1 x7_2).f0) x6_1 t167 _ A13.out).mono ?_
   rintro e w19 ⟨rfl,hb⟩
   refine ⟨_,rfl,?_⟩
   replace HO_5:=rb HO_5 hb
   replace BK162:=kb BK162 hb
   replace HB:=ak (below_step (h1 HB.out GE162.out) hb)
   (try clear hb)
   (try clear hb2)
   (try clear hk)
   (try clear hi)
   refine hK.out _ _ ⟨(blk_cell BK162.out 0).trans rfl,(blk_cell BK162.out 1).trans rfl,((HB.out.cell (World.block_lt_of_cell? w _ hw166_0)).trans hw166_0),((HB.out.cell (World.block_lt_of_cell? w _ hw166_1)).trans hw166_1),((HB.out.cell (World.block_lt_of_cell? w _ hw168_0)).trans hw168_0),((HB.out.cell (World.block_lt_of_cell? w _ hw168_1)).trans hw168_1)⟩ (fun hHeld=>?_)
   clear hK K
   refine norm_ (a':=?_) ?_ ?_
   rotate_left
   ·show Act.put _ (some 30) _ = _
    simp only [ap]
    rfl
   refine pu 13 (N:=some 36) (v:=?_) (a':=?_) (lb 14 16383) HT_ (by kernel_rfl) rfl rfl rfl (fun _ _ _ h=>h) ?_ ?_ ?_
   rotate_left
   ·intro w'
    go_simp
    with_reducible rfl
   rotate_left
   ·simp only [ap]
    rfl
   refine done_ (done_of HT_.out (by kernel_rfl)) ?_
   obtain ⟨Ao20,co20,eo20⟩:=R_slice HO_5.out
   subst eo20
   have p169 : 0 ≤ (x6_1 : Int):=od
   have q169 : x6_1 < (x5_2.length : Int):=od
   obtain ⟨ad169,e169,hx169_0⟩:=Kd.at_int (R_reads' HO_5.out).2.2 x6_1 p169 q169
   cases e169
   replace p169:=eq_true p169
   replace q169:=eq_true q169
   have p17 : 0 ≤ (x6_1 : Int):=od
   have q17 : (x6_1 : Int) < ((x5_2.length : Int) : Int):=od
   obtain ⟨go17,co17,eo17,gb17,gl17,cl17,HG17⟩:=R_form HO_5.out (by omega)
   (first|cases eo17|(injection eo17 with ea_ en_ ec_;(first|subst ea_|(injection ea_ with ea_;subst ea_));subst ec_;clear en_))
   have GB17:=Aside0.mk gb17
   have GG17:=Aside0.mk HG17
   clear gb17 gl17 HG17
   (first|simp only [add_plain] at hx169_0|skip)
   obtain ⟨hx17_0,hf17_0⟩:=R_celln 0 HO_5.out (x6_1 : Int) p17 q17
   replace p17:=eq_true p17
   replace q17:=eq_true q17
   obtain ⟨hy21_,hz21_⟩:=R_celln 0 HO_5.out (x6_1 : Int) (od) (od)
   have HP21:=R_putg HO_5.out (x6_1 : Int) (wrap64 ((rd x5_2 x6_1) + 1))
   try go_wp2_with (first|((with_reducible refine gate_store (t:=3) (p:=42) rfl ?_);refine store_event (t:=3) (p:=42) (v:=?vo_w22) (w1:=(w19.setCell ⟨go17,(x6_1 : Int).toNat,none⟩ (.int .i64 (wrap64 ((rd x5_2 x6_1) + 1))))) ?hg ?ho ?hn ?hr ?_;(case ho=>rfl);(case hg=>rfl);(case hn=>rfl);(case hr=>first|(go_simp;done)|(go_simp;rfl));intro w22 hw;have hg : w19.grownBy w22 (some go17):=(by rw [hw];exact HP21.2);have hp_ : Kd.R (Kd.int .i64) 3 w22 w.heap.size (fun _=>True) (.slice (some ⟨go17,0,none⟩) x5_2.length co20) y170:=(by rw [hw,Ny170.out];exact HP21.1);clear HP21;replace BK162:=ak (blk_grown (g:=gb162) (o:=.cells #[.int .i64 a0_0,.bool a0_1] 28 (0,0)) (bm BK162.out) hg (R_ne HO_5.out BK162.out (by decide)));replace HO_5:=ak hp_;replace HB:=ak ((by rw [hw];exact below_set (HB.out) GB17.out : Below w.heap.size w w22));clear hg hw hp_))
   go_roundg k2
   case measure=>have:=HK1.out;have:=HK2.out;omega
   case rel=>exact ⟨(y170),(wrap64 (x7_2 + 1)),fd,H',⟨by have:=HK1.out;have:=HK2.out;omega⟩,⟨rm HO_5.out⟩,⟨bm BK162.out⟩,⟨h1 HB.out GE162.out⟩⟩

/-! ### spec_l9Strength: function 50 -/
def spec_l9Strength.l0 : Nat → List Int → Int → Int → Int → Bool → Option (Int)
 | 0,_,_,_,_,_=>none
 | k + 1,x5,x6,x7,x172000,x172001=>if x7 < x172000 then (if 0 ≤ x7 then (if x7 < (x5.length : Int) then ((spec_l1Least.f x6 (rd x5 x7)).bind fun t177=>(spec_l9Strength.l0 k x5 t177 (wrap64 (x7 + 1)) x172000 x172001)) else (none)) else (none)) else (some x6)
def spec_l9Strength.f (k : Nat) (a0_0 : Int) (a0_1 : Bool) (l1 : List (S59)) : Option (Int):=(spec_l9Seen.f k a0_0 a0_1 l1).bind fun t172=>(if 0 < (t172.length : Int) then (spec_l9Strength.l0 k t172 (rd t172 0) 1 a0_0 a0_1) else (none))
theorem spec_l9Strength.mono_l : ∀ k,(∀ y0 y1 y2 y3 y4,LeO (spec_l9Strength.l0 k y0 y1 y2 y3 y4) (spec_l9Strength.l0 (k + 1) y0 y1 y2 y3 y4))
 | 0=>by
  refine ?_<;>(intros;intro r h;simp [spec_l9Strength.l0] at h)
 | k + 1=>by
  have ih0:=spec_l9Strength.mono_l k
  refine ?_<;>intros<;>(first|unfold spec_l9Strength.l0)<;>(repeat' first|(with_reducible exact ih0 ..)|(with_reducible exact spec_l9Seen.mono _ _ _ _)|(with_reducible exact LeO.refl _)|(with_reducible exact LeO.none _)|(with_reducible refine LeO.ite ?_ ?_)|(with_reducible refine LeO.bind ?_ (fun _=>?_))|exact ih0 ..|exact spec_l9Seen.mono _ _ _ _|exact LeO.none _|refine LeO.ite ?_ ?_|refine LeO.bind ?_ (fun _=>?_))
theorem spec_l9Strength.mono : ∀ a0 a1 a2 k,LeO (spec_l9Strength.f k a0 a1 a2) (spec_l9Strength.f (k + 1) a0 a1 a2):=by
 intro a0 a1 a2 k
 have ih0:=spec_l9Strength.mono_l k
 unfold spec_l9Strength.f
 repeat' first
   | (with_reducible exact ih0 _ _ _ _ _)
   | (with_reducible exact spec_l9Seen.mono _ _ _ _)
   | (with_reducible exact LeO.refl _)
   | (with_reducible exact LeO.none _)
   | (with_reducible refine LeO.ite ?_ ?_)
   | (with_reducible refine LeO.bind ?_ (fun _=>?_))
   | exact ih0 _ _ _ _ _
   | exact spec_l9Seen.mono _ _ _ _
   | exact LeO.none _
   | refine LeO.ite ?_ ?_
   | refine LeO.bind ?_ (fun _=>?_)
set_option maxHeartbeats 8000000 in
set_option maxRecDepth 100000 in
theorem spec_l9Strength.calls (k : Nat) (a0_0 : Int) (a0_1 : Bool) (A1 : Option Addr) (c1 : Nat) (l1 : List (S59)) (r : Int) (w : World) (hr1 : Kd.C k59 w A1 l1.length l1) (hc1 : l1.length ≤ c1) (h : spec_l9Strength.f k a0_0 a0_1 l1 = some r) :
  Calls Try.prog 50 #[.agg #[.int .i64 a0_0,.bool a0_1],.slice A1 l1.length c1] w fun e w'=>e = .returned (.int .i64 r) ∧ Below w.heap.size w w':=by
 have hu28:=Try.underlying28
 have HR1:=Aside0.mk hr1
 have HC1:=Aside0.mk hc1
 clear hr1 hc1
 have HB:=Aside0.mk (Below.refl w.heap.size w)
 have H : ((spec_l9Seen.f k a0_0 a0_1 l1).bind fun t172=>(if 0 < (t172.length : Int) then (spec_l9Strength.l0 k t172 (rd t172 0) 1 a0_0 a0_1) else (none))) = some r:=h
 clear h
 replace H:=Option.bind_eq_some_iff.mp H
 obtain ⟨t172,A30,H⟩:=H
 (try dsimp only at H)
 have A3:=Aside0.mk A30
 clear A30
 by_cases c4 : 0 < (t172.length : Int)
 rotate_left
 ·rw [if_neg c4] at H
  exact absurd H (by simp)
 rw [if_pos c4] at H
 have c4b0 : decide (0 < (t172.length : Int)) = true:=decide_eq_true c4
 have c4b1 : decide (0 < t172.length) = true:=decide_eq_true (by omega)
 clear c4
 have H':=Aside0.mk H
 clear H
 go_enter Try.func50,Try.ntmps50
 go_wp2_with (first|((with_reducible refine gate_dst (N:=2) rfl ?_);refine box_event ?hg (N:=2) ?hd (cs:=#[.int .i64 a0_0,.bool a0_1]) (t:=28) ?hr ?_;(case hd=>rfl);(case hg=>rfl);(case hr=>first|(go_simp;done)|(go_simp;rfl));intro gb171 hg w5 hbox hb;have BK171:=ak hbox;have GW171:=ak ((by rw [hg];exact (below_size (hm HB.out)) : w.heap.size ≤ gb171));have GE171:=ak ((by rw [hg];exact (below_size (hm HB.out)) : w.heap.size ≤ gb171));replace HB:=bs HB hb;clear hb hbox hg;have hcz6_0 : w5.cell? ⟨gb171,0,none⟩ = some (.int .i64 a0_0):=(blk_cell BK171.out 0).trans rfl;have hcz6_1 : w5.cell? ⟨gb171,1,none⟩ = some (.bool a0_1):=(blk_cell BK171.out 1).trans rfl;have hfz6_0:=blk_frozen BK171.out 0;have hfz6_1:=blk_frozen BK171.out 1)|((with_reducible refine gate_callee (f:=53) rfl ?_);refine goesL_ (some 10) rfl rfl Try.func53 (by kernel_rfl) rfl #[.agg #[.int .i64 a0_0,.bool a0_1],.slice A1 l1.length c1] rfl gl ?_;(with_reducible refine (spec_l9Seen.calls k a0_0 a0_1 _ _ l1 t172 _ ?side1 ?side2 A3.out).mono ?_);(case side1=>exact cm (C_below HR1.out HB.out));(case side2=>exact HC1.out);rintro e w7 ⟨v173,rfl,ho0,hb⟩;refine ⟨_,rfl,?_⟩;have HO174:=ak (R_lower ho0 (below_size (h1 HB.out GE171.out)));replace BK171:=kb BK171 hb;replace HB:=ak (below_step (h1 HB.out GE171.out) hb);(try clear hb);(try clear hk);(try clear hi);(try clear ho0);obtain ⟨Ao8,co8,eo8⟩:=R_slice HO174.out;subst eo8;have p175 : 0 ≤ (0 : Int):=(by omega);have q175 : 0 < (t172.length : Int):=od;obtain ⟨ad175,e175,hx175_0⟩:=Kd.at_int (R_reads' HO174.out).2.2 0 p175 q175;cases e175;have qi175 : (0 < t172.length) = True:=eq_true (by omega);(try rw [show ((0 : Int)).toNat = 0 from rfl] at hx175_0);(try rw [Addr.add_zero'] at hx175_0);replace p175:=eq_true p175;replace q175:=eq_true q175))
 go_loopg [6,7] k (fun kq v6 v7 w'=>∃ (x6_1 : Int) (x7_1 : Int),v6 = .int .i64 x6_1 ∧ v7 = .int .i64 x7_1 ∧ Aside0 (spec_l9Strength.l0 kq t172 x6_1 x7_1 a0_0 a0_1 = some r) ∧ Aside0 (kq ≤ k) ∧ Aside0 (Kd.R (Kd.int .i64) 3 w' w.heap.size (fun _=>True) (.slice (some ad175) t172.length co8) t172) ∧ Aside0 (w'.heap[gb171]? = some (.cells #[.int .i64 a0_0,.bool a0_1] 28 (0,0))) ∧ Aside0 (Below w.heap.size w w'))
 case atStart=>exact ⟨(rd t172 0),(1),fd,fd,H',⟨Nat.le_refl _⟩,⟨rm HO174.out⟩,⟨bm BK171.out⟩,⟨h1 HB.out GE171.out⟩⟩
 clear H'
 try clear c1
 try clear p1
 try clear q1
 try clear hx1
 try clear qi1
 try clear p2
 try clear c4
 try clear c4b0
 try clear c4b1
 try clear c5
 try clear hcz6_0
 try clear hcz6_1
 try clear hfz6_0
 try clear hfz6_1
 try clear hx175_0
 try clear p175
 try clear q175
 obtain ⟨x6_1,x7_1,rfl,rfl,HA,HK1,HO_5,BK171,HB⟩:=hrel
 cases gk with
 | zero=>exact absurd HA.out (by simp [spec_l9Strength.l0])
 | succ k1 =>
  have H:=HA.out
  clear HA
  simp only [spec_l9Strength.l0] at H
  by_cases c9 : x7_1 < a0_0
  rotate_left
  ·rw [if_neg c9] at H
   have c9b0 : decide (x7_1 < a0_0) = false:=decide_eq_false c9
   clear c9
   obtain rfl:=Option.some.inj H
   have hcz14_0 : wr.cell? ⟨gb171,0,none⟩ = some (.int .i64 a0_0):=(blk_cell BK171.out 0).trans rfl
   have hcz14_1 : wr.cell? ⟨gb171,1,none⟩ = some (.bool a0_1):=(blk_cell BK171.out 1).trans rfl
   have hfz14_0:=blk_frozen BK171.out 0
   have hfz14_1:=blk_frozen BK171.out 1
   go_wp2
   go_ret
   exact ⟨fe,h1 HB.out GE171.out⟩
  rw [if_pos c9] at H
  have c9b0 : decide (x7_1 < a0_0) = true:=decide_eq_true c9
  clear c9
  by_cases c10 : 0 ≤ x7_1
  rotate_left
  ·rw [if_neg c10] at H
   exact absurd H (by simp)
  rw [if_pos c10] at H
  have c10b0 : decide (0 ≤ x7_1) = true:=decide_eq_true c10
  clear c10
  by_cases c11 : x7_1 < (t172.length : Int)
  rotate_left
  ·rw [if_neg c11] at H
   exact absurd H (by simp)
  rw [if_pos c11] at H
  have c11b0 : decide (x7_1 < (t172.length : Int)) = true:=decide_eq_true c11
  clear c11
  replace H:=Option.bind_eq_some_iff.mp H
  obtain ⟨t177,A120,H⟩:=H
  (try dsimp only at H)
  have A12:=Aside0.mk A120
  clear A120
  have H':=Aside0.mk H
  clear H
  have hcz13_0 : wr.cell? ⟨gb171,0,none⟩ = some (.int .i64 a0_0):=(blk_cell BK171.out 0).trans rfl
  have hcz13_1 : wr.cell? ⟨gb171,1,none⟩ = some (.bool a0_1):=(blk_cell BK171.out 1).trans rfl
  have hfz13_0:=blk_frozen BK171.out 0
  have hfz13_1:=blk_frozen BK171.out 1
  have p176 : 0 ≤ (x7_1 : Int):=od
  have q176 : x7_1 < (t172.length : Int):=od
  obtain ⟨ad176,e176,hx176_0⟩:=Kd.at_int (R_reads' HO_5.out).2.2 x7_1 p176 q176
  obtain rfl : ad175 = ad176:=(by injection e176)
  replace p176:=eq_true p176
  replace q176:=eq_true q176
  go_wp2_with (first|((with_reducible refine gate_callee (f:=63) rfl ?_);refine goesL_ (some 25) rfl rfl Try.func63 (by kernel_rfl) rfl #[.int .i64 x6_1,.int .i64 (rd t172 x7_1)] rfl gl ?_;(with_reducible refine (spec_l1Least.calls x6_1 (rd t172 x7_1) t177 _ A12.out).mono ?_);rintro e w' ⟨rfl,⟨nd,rfl⟩⟩;refine ⟨_,rfl,?_⟩))
  go_roundg k1
  case measure=>have:=HK1.out;omega
  case rel=>exact ⟨(t177),(wrap64 (x7_1 + 1)),fd,fd,H',⟨by have:=HK1.out;omega⟩,⟨rm HO_5.out⟩,⟨bm BK171.out⟩,⟨h1 HB.out GE171.out⟩⟩

/-! ### spec_StrengthOf: function 20 -/
def spec_StrengthOf.f (k : Nat) (a0_0 : Int) (a0_1 : Bool) (l1 : List (S59)) : Option (Int × Bool):=(spec_l9Sensors.f k a0_0 a0_1 l1).bind fun t179=>(if t179 = true then ((spec_l9Strength.f k a0_0 a0_1 l1).bind fun t180=>(some (t180,true))) else (some (0,false)))
theorem spec_StrengthOf.mono : ∀ a0 a1 a2 k,LeO (spec_StrengthOf.f k a0 a1 a2) (spec_StrengthOf.f (k + 1) a0 a1 a2):=by
 intro a0 a1 a2 k
 unfold spec_StrengthOf.f
 repeat' first
   | (with_reducible exact spec_l9Sensors.mono _ _ _ _)
   | (with_reducible exact spec_l9Strength.mono _ _ _ _)
   | (with_reducible exact LeO.refl _)
   | (with_reducible exact LeO.none _)
   | (with_reducible refine LeO.ite ?_ ?_)
   | (with_reducible refine LeO.bind ?_ (fun _=>?_))
   | exact spec_l9Sensors.mono _ _ _ _
   | exact spec_l9Strength.mono _ _ _ _
   | exact LeO.none _
   | refine LeO.ite ?_ ?_
   | refine LeO.bind ?_ (fun _=>?_)
set_option maxHeartbeats 8000000 in
set_option maxRecDepth 100000 in
theorem spec_StrengthOf.calls (k : Nat) (a0_0 : Int) (a0_1 : Bool) (A1 : Option Addr) (c1 : Nat) (l1 : List (S59)) (r1 : Int) (r2 : Bool) (w : World) (hr1 : Kd.C k59 w A1 l1.length l1) (hc1 : l1.length ≤ c1) (h : spec_StrengthOf.f k a0_0 a0_1 l1 = some (r1,r2)) :
  Calls Try.prog 20 #[.agg #[.int .i64 a0_0,.bool a0_1],.slice A1 l1.length c1] w fun e w'=>e = .returned (.tuple #[.int .i64 r1,.bool r2]) ∧ Below w.heap.size w w':=by
 have hu28:=Try.underlying28
 have HR1:=Aside0.mk hr1
 have HC1:=Aside0.mk hc1
 clear hr1 hc1
 have HB:=Aside0.mk (Below.refl w.heap.size w)
 have H : ((spec_l9Sensors.f k a0_0 a0_1 l1).bind fun t179=>(if t179 = true then ((spec_l9Strength.f k a0_0 a0_1 l1).bind fun t180=>(some (t180,true))) else (some (0,false)))) = some (r1,r2):=h
 clear h
 replace H:=Option.bind_eq_some_iff.mp H
 obtain ⟨t179,A30,H⟩:=H
 (try dsimp only at H)
 have A3:=Aside0.mk A30
 clear A30
 by_cases c4 : t179 = true
 rotate_left
 ·replace c4:=Bool.eq_false_iff.mpr c4
  subst c4
  rw [if_neg (show ¬ (false = true) by decide)] at H
  simp only [Option.some.injEq,Prod.mk.injEq] at H
  obtain ⟨rfl,rfl⟩:=H
  go_enter Try.func20,Try.ntmps20
  go_wp2_with (first|((with_reducible refine gate_dst (N:=2) rfl ?_);refine box_event ?hg (N:=2) ?hd (cs:=#[.int .i64 a0_0,.bool a0_1]) (t:=28) ?hr ?_;(case hd=>rfl);(case hg=>rfl);(case hr=>first|(go_simp;done)|(go_simp;rfl));intro gb178 hg w11 hbox hb;have BK178:=ak hbox;have GW178:=ak ((by rw [hg];exact (below_size (hm HB.out)) : w.heap.size ≤ gb178));have GE178:=ak ((by rw [hg];exact (below_size (hm HB.out)) : w.heap.size ≤ gb178));replace HB:=bs HB hb;clear hb hbox hg;have hcz12_0 : w11.cell? ⟨gb178,0,none⟩ = some (.int .i64 a0_0):=(blk_cell BK178.out 0).trans rfl;have hcz12_1 : w11.cell? ⟨gb178,1,none⟩ = some (.bool a0_1):=(blk_cell BK178.out 1).trans rfl;have hfz12_0:=blk_frozen BK178.out 0;have hfz12_1:=blk_frozen BK178.out 1)|((with_reducible refine gate_callee (f:=43) rfl ?_);refine goesL_ (some 8) rfl rfl Try.func43 (by kernel_rfl) rfl #[.agg #[.int .i64 a0_0,.bool a0_1],.slice A1 l1.length c1] rfl gl ?_;(with_reducible refine (spec_l9Sensors.calls k a0_0 a0_1 _ _ l1 false _ ?side1 ?side2 A3.out).mono ?_);(case side1=>exact cm (C_below HR1.out HB.out));(case side2=>exact HC1.out);rintro e w13 ⟨rfl,hb⟩;refine ⟨_,rfl,?_⟩;replace BK178:=kb BK178 hb;replace HB:=ak (below_step (h1 HB.out GE178.out) hb);(try clear hb);(try clear hk);(try clear hi)))
  go_ret2
  exact ⟨fe,h1 HB.out GE178.out⟩
 subst c4
 rw [if_pos rfl] at H
 replace H:=Option.bind_eq_some_iff.mp H
 obtain ⟨t180,A50,H⟩:=H
 (try dsimp only at H)
 have A5:=Aside0.mk A50
 clear A50
 simp only [Option.some.injEq,Prod.mk.injEq] at H
 obtain ⟨rfl,rfl⟩:=H
 go_enter Try.func20,Try.ntmps20
 go_wp2_with (first|((with_reducible refine gate_dst (N:=2) rfl ?_);refine box_event ?hg (N:=2) ?hd (cs:=#[.int .i64 a0_0,.bool a0_1]) (t:=28) ?hr ?_;(case hd=>rfl);(case hg=>rfl);(case hr=>first|(go_simp;done)|(go_simp;rfl));intro gb178 hg w6 hbox hb;have BK178:=ak hbox;have GW178:=ak ((by rw [hg];exact (below_size (hm HB.out)) : w.heap.size ≤ gb178));have GE178:=ak ((by rw [hg];exact (below_size (hm HB.out)) : w.heap.size ≤ gb178));replace HB:=bs HB hb;clear hb hbox hg;have hcz7_0 : w6.cell? ⟨gb178,0,none⟩ = some (.int .i64 a0_0):=(blk_cell BK178.out 0).trans rfl;have hcz7_1 : w6.cell? ⟨gb178,1,none⟩ = some (.bool a0_1):=(blk_cell BK178.out 1).trans rfl;have hfz7_0:=blk_frozen BK178.out 0;have hfz7_1:=blk_frozen BK178.out 1)|((with_reducible refine gate_callee (f:=43) rfl ?_);refine goesL_ (some 8) rfl rfl Try.func43 (by kernel_rfl) rfl #[.agg #[.int .i64 a0_0,.bool a0_1],.slice A1 l1.length c1] rfl gl ?_;(with_reducible refine (spec_l9Sensors.calls k a0_0 a0_1 _ _ l1 true _ ?side1 ?side2 A3.out).mono ?_);(case side1=>exact cm (C_below HR1.out HB.out));(case side2=>exact HC1.out);rintro e w8 ⟨rfl,hb⟩;refine ⟨_,rfl,?_⟩;replace BK178:=kb BK178 hb;replace HB:=ak (below_step (h1 HB.out GE178.out) hb);(try clear hb);(try clear hk);(try clear hi);have hcz9_0 : w8.cell? ⟨gb178,0,none⟩ = some (.int .i64 a0_0):=(blk_cell BK178.out 0).trans rfl;have hcz9_1 : w8.cell? ⟨gb178,1,none⟩ = some (.bool a0_1):=(blk_cell BK178.out 1).trans rfl;have hfz9_0:=blk_frozen BK178.out 0;have hfz9_1:=blk_frozen BK178.out 1)|((with_reducible refine gate_callee (f:=50) rfl ?_);refine goesL_ (some 12) rfl rfl Try.func50 (by kernel_rfl) rfl #[.agg #[.int .i64 a0_0,.bool a0_1],.slice A1 l1.length c1] rfl gl ?_;(with_reducible refine (spec_l9Strength.calls k a0_0 a0_1 _ _ l1 t180 _ ?side1 ?side2 A5.out).mono ?_);(case side1=>exact cm (C_below HR1.out HB.out));(case side2=>exact HC1.out);rintro e w10 ⟨rfl,hb⟩;refine ⟨_,rfl,?_⟩;replace BK178:=kb BK178 hb;replace HB:=ak (below_step (h1 HB.out GE178.out) hb);(try clear hb);(try clear hk);(try clear hi)))
 go_ret2
 exact ⟨fe,h1 HB.out GE178.out⟩


end
end Go.Proofs.Ytknfhoghimnieaa.QFnSensors
