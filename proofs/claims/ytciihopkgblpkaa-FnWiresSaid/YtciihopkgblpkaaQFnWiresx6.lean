/- Functions that the law FnWires comes to, and their walks: no condition but those named. -/
import Derived.Test.YtciihopkgblpkaaQFnWiresx0
import Derived.Test.YtciihopkgblpkaaQFnWiresx1
import Derived.Test.YtciihopkgblpkaaQFnWiresx5
namespace Go.Proofs.Ytciihopkgblpkaa.QFnWires
open Go.RowKit Go.Proofs.YtciihopkgblpkaaW.PrintWords Go.Proofs.YtciihopkgblpkaaW.PrintLast Go.Proofs.YtciihopkgblpkaaW.PrintMore Go.Proofs.Ytciihopkgblpkaa.Short
attribute [local go_sem] max2_int min2_int max_two min_two max_three min_three max_four min_four
set_option linter.unusedVariables false
set_option linter.unusedSimpArgs false

section
open Kd
/-! ### slices_Reverse_int_int: function 51 -/
def slices_Reverse_int_int.l0 : Nat → List Int → Int → Int → Option (List Int)
 | 0,_,_,_=>none
 | k + 1,x0,x2,x3=>if x2 < x3 then (if 0 ≤ x3 then (if x3 < (x0.length : Int) then (if 0 ≤ x2 then (if x2 < (x0.length : Int) then (slices_Reverse_int_int.l0 k ((x0.set (x2 : Int).toNat (rd x0 x3)).set (x3 : Int).toNat (rd x0 x2)) (wrap64 (x2 + 1)) (wrap64 (x3 - 1))) else (none)) else (none)) else (none)) else (none)) else (some x0)
def slices_Reverse_int_int.f (k : Nat) (l0 : List Int) : Option (List Int):=slices_Reverse_int_int.l0 k l0 0 (wrap64 ((l0.length : Int) - 1))
theorem slices_Reverse_int_int.mono_l : ∀ k,(∀ y0 y1 y2,LeO (slices_Reverse_int_int.l0 k y0 y1 y2) (slices_Reverse_int_int.l0 (k + 1) y0 y1 y2))
 | 0=>by
  refine ?_<;>(intros;intro r h;simp [slices_Reverse_int_int.l0] at h)
 | k + 1=>by
  have ih0:=slices_Reverse_int_int.mono_l k
  refine ?_<;>intros<;>(first|unfold slices_Reverse_int_int.l0)<;>(repeat' first|(with_reducible exact ih0 ..)|(with_reducible exact LeO.refl _)|(with_reducible exact LeO.none _)|(with_reducible refine LeO.ite ?_ ?_)|(with_reducible refine LeO.bind ?_ (fun _=>?_))|exact ih0 ..|exact LeO.none _|refine LeO.ite ?_ ?_|refine LeO.bind ?_ (fun _=>?_))
theorem slices_Reverse_int_int.mono : ∀ a0 k,LeO (slices_Reverse_int_int.f k a0) (slices_Reverse_int_int.f (k + 1) a0):=by
 intro a0 k
 have ih0:=slices_Reverse_int_int.mono_l k
 unfold slices_Reverse_int_int.f
 repeat' first
   | (with_reducible exact ih0 _ _ _)
   | (with_reducible exact LeO.refl _)
   | (with_reducible exact LeO.none _)
   | (with_reducible refine LeO.ite ?_ ?_)
   | (with_reducible refine LeO.bind ?_ (fun _=>?_))
   | exact ih0 _ _ _
   | exact LeO.none _
   | refine LeO.ite ?_ ?_
   | refine LeO.bind ?_ (fun _=>?_)
def slices_Reverse_int_int.T3 : Bool × List (List Nat × List Nat):=(true,[([],[]),([],[]),([],[]),([],[]),([],[]),([],[]),([4,5],[4,5]),([6],[6]),([],[]),([],[]),([8,9],[8,9]),([10],[10]),([0,1,0,1,4,5,6,7,11],[0,1]),([12,7,0,1,4,5,6,7,11],[7,12]),([2,3,0,1,2,3,4,5,6,7,8,9,10,11,12,13],[2,3]),([14,11,13,0,1,2,3,4,5,6,7,8,9,10,11,12,13],[11,14])])
def slices_Reverse_int_int.B3 : List Nat:=[0,0,0,0,0,0,48,112,0,0,768,1792,4083,8179,16383,32767]
theorem slices_Reverse_int_int.tab3 : rtab .any (opsOf Try.f51 3) = slices_Reverse_int_int.T3:=by kernel_rfl
theorem slices_Reverse_int_int.bits3 : waitsOk slices_Reverse_int_int.T3.2 slices_Reverse_int_int.B3 = true:=by kernel_rfl
set_option maxHeartbeats 8000000 in
set_option maxRecDepth 100000 in
theorem slices_Reverse_int_int.calls (k : Nat) (P0_ : Nat → Prop) (u9000_ : Value) (l0 : List Int) (r : List Int) (w0 w : World) (hB : Below w0.heap.size w0 w) (ho0 : Kd.R (Kd.int .i64) 3 w w0.heap.size P0_ u9000_ l0) (h : slices_Reverse_int_int.f k l0 = some r) :
  Calls Try.prog 51 #[u9000_] w fun e w'=>e = .returned (.tuple #[]) ∧ Kd.R (Kd.int .i64) 3 w' w0.heap.size (fun k_=>(P0_ k_ ∨ w.heap.size ≤ k_)) u9000_ r ∧ Below w0.heap.size w0 w' ∧ Kept w w' (fun k_=>P0_ k_):=by
 have HO0:=Aside0.mk (show Kd.R (Kd.int .i64) 3 w w0.heap.size (fun k_=>(P0_ k_ ∨ w.heap.size ≤ k_)) u9000_ l0 from R_mono ho0 (fun k_ hk=>(.inl hk)))
 have HK:=Aside0.mk (Kept.refl w (fun k_=>P0_ k_))
 have HW0:=Aside0.mk hB.size
 have HB:=Aside0.mk hB
 clear hB
 have H : (slices_Reverse_int_int.l0 k l0 0 (wrap64 ((l0.length : Int) - 1))) = some r:=h
 clear h
 have H':=Aside0.mk H
 clear H
 obtain ⟨Ao2,co2,eo2⟩:=R_slice HO0.out
 subst eo2
 go_enter Try.func51,Try.ntmps51
 go_wp2
 go_loopg [2,3] k (fun kq v2 v3 w'=>∃ (x0_1 : List Int) (x2_1 : Int) (x3_1 : Int),v2 = .int .i64 x2_1 ∧ v3 = .int .i64 x3_1 ∧ Aside0 (slices_Reverse_int_int.l0 kq x0_1 x2_1 x3_1 = some r) ∧ Aside0 (kq ≤ k) ∧ Aside0 (Kd.R (Kd.int .i64) 3 w' w0.heap.size (fun k_=>(P0_ k_ ∨ w.heap.size ≤ k_)) (.slice Ao2 l0.length co2) x0_1) ∧ Aside0 (Kept w w' (fun k_=>P0_ k_)) ∧ Aside0 (Below w0.heap.size w0 w'))
 case atStart=>exact ⟨(l0),(0),(wrap64 ((l0.length : Int) - 1)),fd,fd,H',⟨Nat.le_refl _⟩,⟨rm HO0.out⟩,⟨by repeat ((with_reducible first|exact HK.out|apply Kept.alloc|apply Kept.drewN|apply Kept.drew))⟩,⟨hm HB.out⟩⟩
 clear H'
 obtain ⟨x0_1,x2_1,x3_1,rfl,rfl,HA,HK1,HO_0,HK,HB⟩:=hrel
 have hl0_1:=(R_reads' HO_0.out).1
 rw [hl0_1] at HO_0
 (try simp only [hl0_1])
 cases gk with
 | zero=>exact absurd HA.out (by simp [slices_Reverse_int_int.l0])
 | succ k1 =>
  have H:=HA.out
  clear HA
  simp only [slices_Reverse_int_int.l0] at H
  by_cases c3 : x2_1 < x3_1
  rotate_left
  ·rw [if_neg c3] at H
   have c3b0 : decide (x2_1 < x3_1) = false:=decide_eq_false c3
   clear c3
   obtain rfl:=Option.some.inj H
   go_wp2
   first|go_end0|(refine bodyPost_ret (results_none rfl _ _ _) rfl ?_)
   exact ⟨fe,(by first|exact (rm HO_0.out)|(simp only [hl0_1];exact (rm HO_0.out))),hm HB.out,by repeat ((with_reducible first|exact HK.out|apply Kept.alloc|apply Kept.drewN|apply Kept.drew))⟩
  rw [if_pos c3] at H
  have c3b0 : decide (x2_1 < x3_1) = true:=decide_eq_true c3
  clear c3
  by_cases c4 : 0 ≤ x3_1
  rotate_left
  ·rw [if_neg c4] at H
   exact absurd H (by simp)
  rw [if_pos c4] at H
  have c4b0 : decide (0 ≤ x3_1) = true:=decide_eq_true c4
  clear c4
  by_cases c5 : x3_1 < (x0_1.length : Int)
  rotate_left
  ·rw [if_neg c5] at H
   exact absurd H (by simp)
  rw [if_pos c5] at H
  have c5b0 : decide (x3_1 < (x0_1.length : Int)) = true:=decide_eq_true c5
  clear c5
  by_cases c6 : 0 ≤ x2_1
  rotate_left
  ·rw [if_neg c6] at H
   exact absurd H (by simp)
  rw [if_pos c6] at H
  have c6b0 : decide (0 ≤ x2_1) = true:=decide_eq_true c6
  clear c6
  by_cases c7 : x2_1 < (x0_1.length : Int)
  rotate_left
  ·rw [if_neg c7] at H
   exact absurd H (by simp)
  rw [if_pos c7] at H
  have c7b0 : decide (x2_1 < (x0_1.length : Int)) = true:=decide_eq_true c7
  clear c7
  obtain ⟨y204,hy204⟩ : ∃ y_ : List Int,y_ = (x0_1.set (x2_1 : Int).toNat (rd x0_1 x3_1)):=⟨_,rfl⟩
  replace H : (slices_Reverse_int_int.l0 k1 (y204.set (x3_1 : Int).toNat (rd x0_1 x2_1)) (wrap64 (x2_1 + 1)) (wrap64 (x3_1 - 1))) = some r:=by first|(rw [hy204];with_reducible exact H)|(have H2_:=(Option.bind_some _ _).symm.trans H;rw [hy204];with_reducible exact H2_)|(have H2_:=(Option.bind_some _ _).symm.trans H;with_reducible exact H2_)|with_reducible exact H|(rw [hy204];exact H)|exact H
  have Ny204:=Aside0.mk hy204
  clear hy204
  obtain ⟨y205,hy205⟩ : ∃ y_ : List Int,y_ = (y204.set (x3_1 : Int).toNat (rd x0_1 x2_1)):=⟨_,rfl⟩
  replace H : (slices_Reverse_int_int.l0 k1 y205 (wrap64 (x2_1 + 1)) (wrap64 (x3_1 - 1))) = some r:=by first|(rw [hy205];with_reducible exact H)|(have H2_:=(Option.bind_some _ _).symm.trans H;rw [hy205];with_reducible exact H2_)|(have H2_:=(Option.bind_some _ _).symm.trans H;with_reducible exact H2_)|with_reducible exact H|(rw [hy205];exact H)|exact H
  have Ny205:=Aside0.mk hy205
  clear hy205
  have H':=Aside0.mk H
  clear H
  try go_wp2
  replace HO_0:=ak (R_drew HO_0.out)
  replace HK:=ak (Kept.drew HK.out)
  replace HB:=ak (below_drew1 HB.out)
  have p202 : 0 ≤ (x3_1 : Int):=od
  have q202 : x3_1 < (x0_1.length : Int):=od
  obtain ⟨ad202,e202,hx202_0⟩:=Kd.at_int (R_reads' HO_0.out).2.2 x3_1 p202 q202
  cases e202
  replace p202:=eq_true p202
  replace q202:=eq_true q202
  have p203 : 0 ≤ (x2_1 : Int):=od
  have q203 : x2_1 < (x0_1.length : Int):=od
  obtain ⟨ad203,e203,hx203_0⟩:=Kd.at_int (R_reads' HO_0.out).2.2 x2_1 p203 q203
  obtain rfl : ad202 = ad203:=(by injection e203)
  replace p203:=eq_true p203
  replace q203:=eq_true q203
  have p8 : 0 ≤ (x2_1 : Int):=od
  have q8 : (x2_1 : Int) < ((x0_1.length : Int) : Int):=od
  obtain ⟨go8,co8,eo8,gb8,gl8,cl8,HG8⟩:=R_form HO_0.out (by omega)
  (cases eo8)
  have GB8:=Aside0.mk gb8
  have GG8:=Aside0.mk HG8
  clear gb8 gl8 HG8
  have HMgo8:=Aside0.mk (show (P0_ go8 ∨ w.heap.size ≤ go8) from (HO_0.out.1 _ rfl))
  (simp only [add_plain] at hx202_0)
  (simp only [add_plain] at hx203_0)
  obtain ⟨hx8_0,hf8_0⟩:=R_celln 0 HO_0.out (x2_1 : Int) p8 q8
  replace p8:=eq_true p8
  replace q8:=eq_true q8
  have HP11:=R_putn HO_0.out (x2_1 : Int) (rd x0_1 x3_1)
  rw [← Ny204.out] at HP11
  have HQ11:=Aside0.mk HP11
  clear HP11
  have p9 : 0 ≤ (x3_1 : Int):=od
  have q9 : (x3_1 : Int) < ((x0_1.length : Int) : Int):=od
  obtain ⟨hx9_0,hf9_0⟩:=R_celln 0 HQ11.out (x3_1 : Int) p9 q9
  replace p9:=eq_true p9
  replace q9:=eq_true q9
  have HP12:=R_putn HQ11.out (x3_1 : Int) (rd x0_1 x2_1)
  rw [← Ny205.out] at HP12
  have HQ12:=Aside0.mk HP12
  clear HP12
  refine start_ (n:=16) (S:=fun w'=>w'.cell? ⟨go8,(x3_1).toNat,none⟩ = some (.int .i64 (rd x0_1 x3_1)) ∧ w'.cell? ⟨go8,(x2_1).toNat,none⟩ = some (.int .i64 (rd x0_1 x2_1))) (ds:=[13,15]) (lb 16 0) (by kernel_rfl) rfl rfl ⟨hx202_0,hx203_0⟩ (fun hHeld=>?_);refine with_tabW slices_Reverse_int_int.tab3 slices_Reverse_int_int.bits3 (fun HT_ HW_=>?_)
  generalize wr.drew = w10 at HO_0 HK HB GG8 HQ11 HQ12 hf8_0 hf9_0 hx202_0 hx203_0 hx8_0 hx9_0 hHeld ⊢
  refine pq 0 (N:=some 14) (lb 16 1) HT_ ?_
  refine pq 1 (N:=some 15) (lb 16 3) HT_ ?_
  refine pq 2 (N:=some 16) (lb 16 7) HT_ ?_
  refine pq 3 (N:=some 17) (lb 16 15) HT_ ?_
  refine pq 4 (N:=some 18) (lb 16 31) HT_ ?_
  refine pq 5 (N:=some 19) (lb 16 63) HT_ ?_
  refine pq 6 (N:=some 20) (lb 16 127) HT_ ?_
  refine pq 8 (N:=some 22) (lb 16 383) HT_ ?_
  refine pq 9 (N:=some 23) (lb 16 895) HT_ ?_
  refine pq 10 (N:=some 24) (lb 16 1919) HT_ ?_
  refine tq 7 (N:=some 21) (lb 16 2047) HT_ HW_ hHeld ?_
  refine tq 11 (N:=some 25) (lb 16 4095) HT_ HW_ hHeld ?_
  refine pq 12 (N:=some 26) (lb 16 8191) HT_ ?_
  refine last_ (i:=13) (N:=none) (lb 16 16383) rfl rfl (one_of HT_.out (by kernel_rfl)) (by decide) (fun K hK=>?_)
  refine skip_ (w1:=?_) (by rfl) rfl ?_ ?_
  rotate_left
  ·go_simp
   rfl
  refine hK.out _ _ ?_
  clear hK K
  refine pq 14 (N:=some 27) (lb 16 32767) HT_ ?_
  refine last_ (i:=15) (N:=none) (lb 16 65535) rfl rfl (one_of HT_.out (by kernel_rfl)) (by decide) (fun K hK=>?_)
  refine skip_ (w1:=?_) (by rfl) rfl ?_ ?_
  rotate_left
  ·go_simp
   rfl
  refine hK.out _ _ ?_
  clear hK K
  refine done_ (done_of HT_.out (by kernel_rfl)) ?_
  try go_wp2
  (try simp only [← hl0_1])
  go_roundg k1
  case measure=>have:=HK1.out;omega
  case rel=>exact ⟨(y205),(wrap64 (x2_1 + 1)),(wrap64 (x3_1 - 1)),fd,fd,H',⟨by have:=HK1.out;omega⟩,⟨by (try simp only [hl0_1]);(with_reducible repeat (fail));exact HQ12.out⟩,⟨by repeat ((with_reducible first|exact HK.out|apply Kept.alloc|apply Kept.drewN|apply Kept.drew|refine Kept.setCell ?_ HMgo8.out _|refine Kept.setCell ?_ HMgo8.out _))⟩,⟨by repeat ((with_reducible first|exact HB.out|apply below_alloc|apply pw_below_drewN|apply below_drew1|refine below_set ?_ GB8.out|refine below_set ?_ GB8.out))⟩⟩

/-! ### impl_MirrorWire: function 27 -/
def impl_MirrorWire.f (k : Nat) (a0_0 : Int) (l0_1 : List Int) (l0_2 : List Int) : Option (Int × List Int × List Int × Bool):=(impl_IsWire.f k a0_0 l0_1 l0_2).bind fun t208=>(if t208 = true then ((mapped_49.f k l0_1 a0_0).bind fun t209=>((mapped_50.f k l0_2).bind fun t212=>((slices_Reverse_int_int.f k t209).bind fun t216=>((slices_Reverse_int_int.f k t212).bind fun t217=>(some (a0_0,t216,t217,true)))))) else (some (0,([] : List Int),([] : List Int),false)))
theorem impl_MirrorWire.mono : ∀ a0 a1 a2 k,LeO (impl_MirrorWire.f k a0 a1 a2) (impl_MirrorWire.f (k + 1) a0 a1 a2):=by
 intro a0 a1 a2 k
 unfold impl_MirrorWire.f
 repeat' first
   | (with_reducible exact impl_IsWire.mono _ _ _ _)
   | (with_reducible exact mapped_49.mono _ _ _)
   | (with_reducible exact mapped_50.mono _ _)
   | (with_reducible exact slices_Reverse_int_int.mono _ _)
   | (with_reducible exact LeO.refl _)
   | (with_reducible exact LeO.none _)
   | (with_reducible refine LeO.ite ?_ ?_)
   | (with_reducible refine LeO.bind ?_ (fun _=>?_))
   | exact impl_IsWire.mono _ _ _ _
   | exact mapped_49.mono _ _ _
   | exact mapped_50.mono _ _
   | exact slices_Reverse_int_int.mono _ _
   | exact LeO.none _
   | refine LeO.ite ?_ ?_
   | refine LeO.bind ?_ (fun _=>?_)
def impl_MirrorWire.T3 : Bool × List (List Nat × List Nat):=(true,[([],[]),([0],[0]),([],[]),([2],[2]),([],[]),([3,4],[3,4]),([],[]),([6],[6]),([7,5],[7]),([1,5,8],[1,5,8]),([],[]),([10,9,8,0,1,2,3,4,5,6,7,8,9,10],[9,10])])
def impl_MirrorWire.B3 : List Nat:=[0,1,0,4,0,28,0,64,252,511,0,2047]
theorem impl_MirrorWire.tab3 : rtab .any (opsOf Try.f27 3) = impl_MirrorWire.T3:=by kernel_rfl
theorem impl_MirrorWire.bits3 : waitsOk impl_MirrorWire.T3.2 impl_MirrorWire.B3 = true:=by kernel_rfl
set_option maxHeartbeats 8000000 in
set_option maxRecDepth 100000 in
theorem impl_MirrorWire.calls (k : Nat) (a0_0 : Int) (A0_1 : Option Addr) (c0_1 : Nat) (l0_1 : List Int) (A0_2 : Option Addr) (c0_2 : Nat) (l0_2 : List Int) (r1 : Int) (r2 : List Int) (r3 : List Int) (r4 : Bool) (w : World) (hr0_1 : Kd.C (Kd.int .i64) w A0_1 l0_1.length l0_1) (hc0_1 : l0_1.length ≤ c0_1) (hr0_2 : Kd.C (Kd.int .i64) w A0_2 l0_2.length l0_2) (hc0_2 : l0_2.length ≤ c0_2) (h : impl_MirrorWire.f k a0_0 l0_1 l0_2 = some (r1,r2,r3,r4)) :
  Calls Try.prog 27 #[.agg #[.int .i64 a0_0,.slice A0_1 l0_1.length c0_1,.slice A0_2 l0_2.length c0_2]] w fun e w'=>∃ v1_ v2_ : Value,e = .returned (.tuple #[.agg #[.int .i64 r1,v1_,v2_],.bool r4]) ∧ Kd.R (Kd.int .i64) 3 w' w.heap.size (fun k_=>ob k_ v2_) v1_ r2 ∧ Kd.R (Kd.int .i64) 3 w' w.heap.size (fun k_=>ob k_ v1_) v2_ r3 ∧ Below w.heap.size w w':=by
 have hu27:=Try.underlying27
 have HR0_1:=Aside0.mk hr0_1
 have HC0_1:=Aside0.mk hc0_1
 clear hr0_1 hc0_1
 have HR0_2:=Aside0.mk hr0_2
 have HC0_2:=Aside0.mk hc0_2
 clear hr0_2 hc0_2
 have HB:=Aside0.mk (Below.refl w.heap.size w)
 have H : ((impl_IsWire.f k a0_0 l0_1 l0_2).bind fun t208=>(if t208 = true then ((mapped_49.f k l0_1 a0_0).bind fun t209=>((mapped_50.f k l0_2).bind fun t212=>((slices_Reverse_int_int.f k t209).bind fun t216=>((slices_Reverse_int_int.f k t212).bind fun t217=>(some (a0_0,t216,t217,true)))))) else (some (0,([] : List Int),([] : List Int),false)))) = some (r1,r2,r3,r4):=h
 clear h
 replace H:=Option.bind_eq_some_iff.mp H
 obtain ⟨t208,A20,H⟩:=H
 have A2:=Aside0.mk A20
 clear A20
 by_cases c3 : t208 = true
 rotate_left
 ·replace c3:=Bool.eq_false_iff.mpr c3
  subst c3
  rw [if_neg (show ¬ (false = true) by decide)] at H
  simp only [Option.some.injEq,Prod.mk.injEq] at H
  obtain ⟨rfl,rfl,rfl,rfl⟩:=H
  go_enter Try.func27,Try.ntmps27
  go_wp2_with (first|((with_reducible refine gate_dst (N:=1) rfl ?_);refine box_event ?hg (N:=1) ?hd (cs:=#[.int .i64 a0_0,.slice A0_1 l0_1.length c0_1,.slice A0_2 l0_2.length c0_2]) (t:=27) ?hr ?_;(case hd=>rfl);(case hg=>rfl);(case hr=>first|(go_simp;done)|(go_simp;rfl));intro gb206 hg w34 hbox hb;have BK206:=ak hbox;have GW206:=ak ((by rw [hg];exact (below_size (hm HB.out)) : w.heap.size ≤ gb206));have GE206:=ak ((by rw [hg];exact (below_size (hm HB.out)) : w.heap.size ≤ gb206));replace HB:=bs HB hb;clear hb hbox hg)|((with_reducible refine gate_dst (N:=2) rfl ?_);refine box_event ?hg (N:=2) ?hd (cs:=#[.int .i64 0,.slice none 0 0,.slice none 0 0]) (t:=27) ?hr ?_;(case hd=>rfl);(case hg=>rfl);(case hr=>first|(go_simp;done)|(go_simp;rfl));intro gb207 hg w35 hbox hb;have BK207:=ak hbox;have GW207:=ak ((by rw [hg];exact (below_size (h1 HB.out GE206.out)) : w.heap.size ≤ gb207));have GE207:=ak ((by rw [hg];exact (below_size (h1 HB.out GE206.out)) : w.heap.size ≤ gb207));replace HB:=ak (below_step (h1 HB.out GE206.out) hb);have NB206_207:=ak ((by rw [hg];exact Nat.ne_of_lt (blk_lt (g:=gb206) (o:=.cells #[.int .i64 a0_0,.slice A0_1 l0_1.length c0_1,.slice A0_2 l0_2.length c0_2] 27 (0,0)) (bm BK206.out)) : gb206 ≠ gb207));have NB207_206:=ak ((by rw [hg];exact Nat.ne_of_gt (blk_lt (g:=gb206) (o:=.cells #[.int .i64 a0_0,.slice A0_1 l0_1.length c0_1,.slice A0_2 l0_2.length c0_2] 27 (0,0)) (bm BK206.out)) : gb207 ≠ gb206));replace BK206:=kb BK206 hb;clear hb hbox hg;have hnb36:=NB206_207.out;have hnc36:=NB207_206.out;have hcz37_0 : w35.cell? ⟨gb206,0,none⟩ = some (.int .i64 a0_0):=(blk_cell BK206.out 0).trans rfl;have hcz37_1 : w35.cell? ⟨gb206,1,none⟩ = some (.slice A0_1 l0_1.length c0_1):=(blk_cell BK206.out 1).trans rfl;have hcz37_2 : w35.cell? ⟨gb206,2,none⟩ = some (.slice A0_2 l0_2.length c0_2):=(blk_cell BK206.out 2).trans rfl;have hfz37_0:=blk_frozen BK206.out 0;have hfz37_1:=blk_frozen BK206.out 1;have hfz37_2:=blk_frozen BK206.out 2)|((with_reducible refine gate_callee (f:=14) rfl ?_);refine goesL_ (some 6) rfl rfl Try.func14 (by kernel_rfl) rfl #[.agg #[.int .i64 a0_0,.slice A0_1 l0_1.length c0_1,.slice A0_2 l0_2.length c0_2]] rfl gl ?_;(with_reducible refine (impl_IsWire.calls k a0_0 _ _ l0_1 _ _ l0_2 false _ ?side1 ?side2 ?side3 ?side4 A2.out).mono ?_);(case side1=>exact cm (C_below HR0_1.out HB.out));(case side2=>exact HC0_1.out);(case side3=>exact cm (C_below HR0_2.out HB.out));(case side4=>exact HC0_2.out);rintro e w38 ⟨rfl,hb⟩;refine ⟨_,rfl,?_⟩;replace BK206:=kb BK206 hb;replace BK207:=kb BK207 hb;replace HB:=ak (below_step (h2 HB.out GE206.out GE207.out) hb);(try clear hb);have hcz39_0 : w38.cell? ⟨gb207,0,none⟩ = some (.int .i64 0):=(blk_cell BK207.out 0).trans rfl;have hcz39_1 : w38.cell? ⟨gb207,1,none⟩ = some (.slice none 0 0):=(blk_cell BK207.out 1).trans rfl;have hcz39_2 : w38.cell? ⟨gb207,2,none⟩ = some (.slice none 0 0):=(blk_cell BK207.out 2).trans rfl;have hfz39_0:=blk_frozen BK207.out 0;have hfz39_1:=blk_frozen BK207.out 1;have hfz39_2:=blk_frozen BK207.out 2))
  refine bodyPost_ret (results_ct rfl _ _ gb207 27 #[.int .i64 0,.slice none 0 0,.slice none 0 0] (0,0) _ rfl (by (with_reducible repeat (fail));refine blk_put (cs:=#[.int .i64 0,.slice none 0 0,.slice none 0 0]) ?_ 2 _ rfl;(with_reducible repeat (fail));refine blk_put (cs:=#[.int .i64 0,.slice none 0 0,.slice none 0 0]) ?_ 1 _ rfl;(with_reducible repeat (fail));refine blk_put (cs:=#[.int .i64 0,.slice none 0 0,.slice none 0 0]) ?_ 0 _ rfl;exact bm BK207.out) Try.underlying27 rfl (by kernel_rfl)) rfl ?_
  exact ⟨_,_,fe,by first|exact R_nil _ _ _ _ _|exact Kd.N_nil _ _ _ _ _|exact Kd.V_nil _ _ _ _ _|exact Kd.Q_nil _ _ _ _ _|exact Kd.S_nil _ _ _ _ _,by first|exact R_nil _ _ _ _ _|exact Kd.N_nil _ _ _ _ _|exact Kd.V_nil _ _ _ _ _|exact Kd.Q_nil _ _ _ _ _|exact Kd.S_nil _ _ _ _ _,h2 HB.out GE206.out GE207.out⟩
 subst c3
 rw [if_pos rfl] at H
 replace H:=Option.bind_eq_some_iff.mp H
 obtain ⟨t209,A40,H⟩:=H
 have A4:=Aside0.mk A40
 clear A40
 replace H:=Option.bind_eq_some_iff.mp H
 obtain ⟨t212,A50,H⟩:=H
 have A5:=Aside0.mk A50
 clear A50
 replace H:=Option.bind_eq_some_iff.mp H
 obtain ⟨t216,A60,H⟩:=H
 have A6:=Aside0.mk A60
 clear A60
 replace H:=Option.bind_eq_some_iff.mp H
 obtain ⟨t217,A70,H⟩:=H
 have A7:=Aside0.mk A70
 clear A70
 simp only [Option.some.injEq,Prod.mk.injEq] at H
 obtain ⟨rfl,rfl,rfl,rfl⟩:=H
 go_enter Try.func27,Try.ntmps27
 try go_wp2_with (first|((with_reducible refine gate_dst (N:=1) rfl ?_);refine box_event ?hg (N:=1) ?hd (cs:=#[.int .i64 a0_0,.slice A0_1 l0_1.length c0_1,.slice A0_2 l0_2.length c0_2]) (t:=27) ?hr ?_;(case hd=>rfl);(case hg=>rfl);(case hr=>first|(go_simp;done)|(go_simp;rfl));intro gb206 hg w8 hbox hb;have BK206:=ak hbox;have GW206:=ak ((by rw [hg];exact (below_size (hm HB.out)) : w.heap.size ≤ gb206));have GE206:=ak ((by rw [hg];exact (below_size (hm HB.out)) : w.heap.size ≤ gb206));replace HB:=bs HB hb;clear hb hbox hg)|((with_reducible refine gate_dst (N:=2) rfl ?_);refine box_event ?hg (N:=2) ?hd (cs:=#[.int .i64 0,.slice none 0 0,.slice none 0 0]) (t:=27) ?hr ?_;(case hd=>rfl);(case hg=>rfl);(case hr=>first|(go_simp;done)|(go_simp;rfl));intro gb207 hg w9 hbox hb;have BK207:=ak hbox;have GW207:=ak ((by rw [hg];exact (below_size (h1 HB.out GE206.out)) : w.heap.size ≤ gb207));have GE207:=ak ((by rw [hg];exact (below_size (h1 HB.out GE206.out)) : w.heap.size ≤ gb207));replace HB:=ak (below_step (h1 HB.out GE206.out) hb);have NB206_207:=ak ((by rw [hg];exact Nat.ne_of_lt (blk_lt (g:=gb206) (o:=.cells #[.int .i64 a0_0,.slice A0_1 l0_1.length c0_1,.slice A0_2 l0_2.length c0_2] 27 (0,0)) (bm BK206.out)) : gb206 ≠ gb207));have NB207_206:=ak ((by rw [hg];exact Nat.ne_of_gt (blk_lt (g:=gb206) (o:=.cells #[.int .i64 a0_0,.slice A0_1 l0_1.length c0_1,.slice A0_2 l0_2.length c0_2] 27 (0,0)) (bm BK206.out)) : gb207 ≠ gb206));replace BK206:=kb BK206 hb;clear hb hbox hg;have hnb10:=NB206_207.out;have hnc10:=NB207_206.out;have hcz11_0 : w9.cell? ⟨gb206,0,none⟩ = some (.int .i64 a0_0):=(blk_cell BK206.out 0).trans rfl;have hcz11_1 : w9.cell? ⟨gb206,1,none⟩ = some (.slice A0_1 l0_1.length c0_1):=(blk_cell BK206.out 1).trans rfl;have hcz11_2 : w9.cell? ⟨gb206,2,none⟩ = some (.slice A0_2 l0_2.length c0_2):=(blk_cell BK206.out 2).trans rfl;have hfz11_0:=blk_frozen BK206.out 0;have hfz11_1:=blk_frozen BK206.out 1;have hfz11_2:=blk_frozen BK206.out 2)|((with_reducible refine gate_callee (f:=14) rfl ?_);refine goesL_ (some 6) rfl rfl Try.func14 (by kernel_rfl) rfl #[.agg #[.int .i64 a0_0,.slice A0_1 l0_1.length c0_1,.slice A0_2 l0_2.length c0_2]] rfl gl ?_;(with_reducible refine (impl_IsWire.calls k a0_0 _ _ l0_1 _ _ l0_2 true _ ?side1 ?side2 ?side3 ?side4 A2.out).mono ?_);(case side1=>exact cm (C_below HR0_1.out HB.out));(case side2=>exact HC0_1.out);(case side3=>exact cm (C_below HR0_2.out HB.out));(case side4=>exact HC0_2.out);rintro e w12 ⟨rfl,hb⟩;refine ⟨_,rfl,?_⟩;replace BK206:=kb BK206 hb;replace BK207:=kb BK207 hb;replace HB:=ak (below_step (h2 HB.out GE206.out GE207.out) hb);(try clear hb)))
 replace BK206:=ak (blk_drew BK206.out)
 replace BK207:=ak (blk_drew BK207.out)
 replace HB:=ak (below_drew1 HB.out)
 refine start_ (n:=12) (S:=fun w'=>w'.cell? ⟨gb206,0,none⟩ = some (.int .i64 a0_0) ∧ w'.cell? ⟨gb206,1,none⟩ = some (.slice A0_1 l0_1.length c0_1) ∧ w'.cell? ⟨gb206,2,none⟩ = some (.slice A0_2 l0_2.length c0_2)) (ds:=[]) (lb 12 0) (by kernel_rfl) rfl rfl ⟨(blk_cell BK206.out 0).trans rfl,(blk_cell BK206.out 1).trans rfl,(blk_cell BK206.out 2).trans rfl⟩ (fun hHeld=>?_);refine with_tabW impl_MirrorWire.tab3 impl_MirrorWire.bits3 (fun HT_ HW_=>?_)
 generalize w12.drew = w13 at BK206 BK207 HB hHeld ⊢
 refine pq 0 (N:=some 9) (lb 12 1) HT_ ?_
 refine pq 2 (N:=some 11) (lb 12 5) HT_ ?_
 refine pq 6 (N:=some 15) (lb 12 69) HT_ ?_
 refine tq 1 (N:=some 10) (lb 12 71) HT_ HW_ hHeld ?_
 refine tq 3 (N:=some 12) (lb 12 79) HT_ HW_ hHeld ?_
 refine tq 4 (N:=some 13) (lb 12 95) HT_ HW_ hHeld ?_
 refine tq 7 (N:=some 16) (lb 12 223) HT_ HW_ hHeld ?_
 refine join_ (σ:=Value × Value × Nat) 1 (lb 12 2047) (fun s_=>[(14,s_.1),(17,s_.2.1),(4,.pointer (some ⟨s_.2.2,0,none⟩)),(18,.agg #[.int .i64 a0_0,s_.1,s_.2.1])]) (fun s_ w'=>(w'.cell? ⟨gb206,0,none⟩ = some (.int .i64 a0_0) ∧ w'.cell? ⟨gb206,1,none⟩ = some (.slice A0_1 l0_1.length c0_1) ∧ w'.cell? ⟨gb206,2,none⟩ = some (.slice A0_2 l0_2.length c0_2)) ∧ (Kd.R (Kd.int .i64) 3 w' w.heap.size (fun k_=>some k_ ≠ (s_.2.1 : Value).ownBlock) s_.1 t209) ∧ (Kd.R (Kd.int .i64) 3 w' w.heap.size (fun k_=>some k_ ≠ (s_.1 : Value).ownBlock) s_.2.1 t212) ∧ (w'.heap[gb206]? = some (.cells #[.int .i64 a0_0,.slice A0_1 l0_1.length c0_1,.slice A0_2 l0_2.length c0_2] 27 (0,0))) ∧ (w'.heap[gb207]? = some (.cells #[.int .i64 0,.slice none 0 0,.slice none 0 0] 27 (0,0))) ∧ (w'.heap[s_.2.2]? = some (.cells #[.int .i64 0,.slice none 0 0,.slice none 0 0] 27 (0,0))) ∧ (w.heap.size ≤ s_.2.2) ∧ (w.heap.size ≤ s_.2.2) ∧ (gb206 ≠ s_.2.2) ∧ (s_.2.2 ≠ gb206) ∧ (gb207 ≠ s_.2.2) ∧ (s_.2.2 ≠ gb207) ∧ (Below w.heap.size w w')) ?_ ?_
 rotate_left
 ·intro hCont
  refine two_ (i:=5) (j:=10) (Ni:=some 14) (Nj:=some 4) (lb 12 255) (lb 12 1247) rfl rfl rfl rfl (two_of HT_.out (by kernel_rfl)) (by decide) (by decide) (fun K hK=>?_) (fun K hK=>?_)
  rotate_left
  ·skip
   refine box_step ?hg (N:=4) ?hd (cs:=#[.int .i64 0,.slice none 0 0,.slice none 0 0]) (t:=27) ?hr ?_;(case hd=>rfl);(case hg=>rfl);(case hr=>first|(go_simp;done)|(go_simp;rfl))
   intro gb215 hg w14 hbox hb
   have BK215:=ak hbox
   have GW215:=ak ((by rw [hg];exact (below_size (h2 HB.out GE206.out GE207.out)) : w.heap.size ≤ gb215))
   have GE215:=ak ((by rw [hg];exact (below_size (h2 HB.out GE206.out GE207.out)) : w.heap.size ≤ gb215))
   replace HB:=ak (below_step (h2 HB.out GE206.out GE207.out) hb)
   have NB206_215:=ak ((by rw [hg];exact Nat.ne_of_lt (blk_lt (g:=gb206) (o:=.cells #[.int .i64 a0_0,.slice A0_1 l0_1.length c0_1,.slice A0_2 l0_2.length c0_2] 27 (0,0)) (bm BK206.out)) : gb206 ≠ gb215))
   have NB215_206:=ak ((by rw [hg];exact Nat.ne_of_gt (blk_lt (g:=gb206) (o:=.cells #[.int .i64 a0_0,.slice A0_1 l0_1.length c0_1,.slice A0_2 l0_2.length c0_2] 27 (0,0)) (bm BK206.out)) : gb215 ≠ gb206))
   replace BK206:=kb BK206 hb
   have NB207_215:=ak ((by rw [hg];exact Nat.ne_of_lt (blk_lt (g:=gb207) (o:=.cells #[.int .i64 0,.slice none 0 0,.slice none 0 0] 27 (0,0)) (bm BK207.out)) : gb207 ≠ gb215))
   have NB215_207:=ak ((by rw [hg];exact Nat.ne_of_gt (blk_lt (g:=gb207) (o:=.cells #[.int .i64 0,.slice none 0 0,.slice none 0 0] 27 (0,0)) (bm BK207.out)) : gb215 ≠ gb207))
   replace BK207:=kb BK207 hb
   clear hb hbox hg
   refine hK.out _ _ ⟨(blk_cell BK206.out 0).trans rfl,(blk_cell BK206.out 1).trans rfl,(blk_cell BK206.out 2).trans rfl⟩ (fun hHeld=>?_)
   clear hK K
   refine norm_ (a':=?_) ?_ ?_
   rotate_left
   ·show Act.put _ (some 4) _ = _
    simp only [ap]
    rfl
   refine one_ (i:=5) (N:=some 14) (lb 12 1279) rfl rfl (one_of HT_.out (by kernel_rfl)) (by decide) (fun K hK=>?_)
   refine goes_ Try.func48 (by kernel_rfl) rfl #[.slice A0_1 l0_1.length c0_1,.func (.func 49) #[] #[.pointer (some ⟨gb206,0,none⟩)]] (by rfl) rfl rfl gl ?_
   refine (mapped_49.calls k _ _ l0_1 a0_0 t209 _ gb206 ?side3 ?side1 ?side2 A4.out).mono ?_
   (case side3=>exact (blk_cell (g:=gb206) (bm BK206.out) 0).trans rfl)
   (case side1=>exact cm (C_below HR0_1.out HB.out))
   (case side2=>exact HC0_1.out)
   rintro e w15 ⟨v210,rfl,ho0,hb⟩
   refine ⟨_,rfl,?_⟩
   have HO211:=ak (R_lower ho0 (below_size (h3 HB.out GE206.out GE207.out GE215.out)))
   replace BK206:=kb BK206 hb
   replace BK207:=kb BK207 hb
   replace BK215:=kb BK215 hb
   replace HB:=ak (below_step (h3 HB.out GE206.out GE207.out GE215.out) hb)
   (try clear hb)
   (try clear ho0)
   refine hK.out _ _ ⟨(blk_cell BK206.out 0).trans rfl,(blk_cell BK206.out 1).trans rfl,(blk_cell BK206.out 2).trans rfl⟩ (fun hHeld=>?_)
   clear hK K
   refine norm_ (a':=?_) ?_ ?_
   rotate_left
   ·show Act.put _ (some 14) _ = _
    simp only [ap]
    rfl
   refine one_ (i:=8) (N:=some 17) (lb 12 1535) rfl rfl (one_of HT_.out (by kernel_rfl)) (by decide) (fun K hK=>?_)
   refine goes_ Try.func48 (by kernel_rfl) rfl #[.slice A0_2 l0_2.length c0_2,.func (.func 50) #[] #[]] (by rfl) rfl rfl gl ?_
   with_reducible refine (mapped_50.calls k _ _ l0_2 t212 _ ?side1 ?side2 A5.out).mono ?_
   (case side1=>exact cm (C_below HR0_2.out HB.out))
   (case side2=>exact HC0_2.out)
   rintro e w16 ⟨v213,rfl,ho0,hb⟩
   refine ⟨_,rfl,?_⟩
   have HO214:=ak (R_lower (R_new' ho0 (R_lt (rm HO211.out))) (below_size (h3 HB.out GE206.out GE207.out GE215.out)))
   replace HO211:=ak (R_elder' (rm HO211.out) (R_base ho0) hb)
   replace BK206:=kb BK206 hb
   replace BK207:=kb BK207 hb
   replace BK215:=kb BK215 hb
   replace HB:=ak (below_step (h3 HB.out GE206.out GE207.out GE215.out) hb)
   (try clear hb)
   (try clear ho0)
   obtain ⟨Ao17,co17,eo17⟩:=R_slice HO214.out
   (subst eo17)
   obtain ⟨Ao18,co18,eo18⟩:=R_slice HO211.out
   (subst eo18)
   refine hK.out _ _ ⟨(blk_cell BK206.out 0).trans rfl,(blk_cell BK206.out 1).trans rfl,(blk_cell BK206.out 2).trans rfl⟩ (fun hHeld=>?_)
   clear hK K
   refine norm_ (a':=?_) ?_ ?_
   rotate_left
   ·show Act.put _ (some 17) _ = _
    simp only [ap]
    rfl
   refine pq 9 (N:=some 18) (lb 12 2047) HT_ ?_
   exact norm_ (by simp only [putAll,Act.put,List.setIfInBounds_toArray,List.set_cons_zero,List.set_cons_succ]) (hCont (.slice Ao18 t209.length co18,.slice Ao17 t212.length co17,gb215) _ ⟨hHeld,(rm (R_mono HO211.out (fun _ hk=>hk.2))),(rm (R_mono HO214.out (fun _ hk=>hk.2))),(bm BK206.out),(bm BK207.out),(bm BK215.out),GW215.out,GE215.out,NB206_215.out,NB215_206.out,NB207_215.out,NB215_207.out,(h3 HB.out GE206.out GE207.out GE215.out)⟩)
  skip
  refine goes_ Try.func48 (by kernel_rfl) rfl #[.slice A0_1 l0_1.length c0_1,.func (.func 49) #[] #[.pointer (some ⟨gb206,0,none⟩)]] (by rfl) rfl rfl gl ?_
  refine (mapped_49.calls k _ _ l0_1 a0_0 t209 _ gb206 ?side3 ?side1 ?side2 A4.out).mono ?_
  (case side3=>exact (blk_cell (g:=gb206) (bm BK206.out) 0).trans rfl)
  (case side1=>exact cm (C_below HR0_1.out HB.out))
  (case side2=>exact HC0_1.out)
  rintro e w14 ⟨v210,rfl,ho0,hb⟩
  refine ⟨_,rfl,?_⟩
  have HO211:=ak (R_lower ho0 (below_size (h2 HB.out GE206.out GE207.out)))
  replace BK206:=kb BK206 hb
  replace BK207:=kb BK207 hb
  replace HB:=ak (below_step (h2 HB.out GE206.out GE207.out) hb)
  (try clear hb)
  (try clear ho0)
  refine hK.out _ _ ⟨(blk_cell BK206.out 0).trans rfl,(blk_cell BK206.out 1).trans rfl,(blk_cell BK206.out 2).trans rfl⟩ (fun hHeld=>?_)
  clear hK K
  refine norm_ (a':=?_) ?_ ?_
  rotate_left
  ·show Act.put _ (some 14) _ = _
   simp only [ap]
   rfl
  refine two_ (i:=8) (j:=10) (Ni:=some 17) (Nj:=some 4) (lb 12 511) (lb 12 1279) rfl rfl rfl rfl (two_of HT_.out (by kernel_rfl)) (by decide) (by decide) (fun K hK=>?_) (fun K hK=>?_)
  ·skip
   refine goes_ Try.func48 (by kernel_rfl) rfl #[.slice A0_2 l0_2.length c0_2,.func (.func 50) #[] #[]] (by rfl) rfl rfl gl ?_
   with_reducible refine (mapped_50.calls k _ _ l0_2 t212 _ ?side1 ?side2 A5.out).mono ?_
   (case side1=>exact cm (C_below HR0_2.out HB.out))
   (case side2=>exact HC0_2.out)
   rintro e w15 ⟨v213,rfl,ho0,hb⟩
   refine ⟨_,rfl,?_⟩
   have HO214:=ak (R_lower (R_new' ho0 (R_lt (rm HO211.out))) (below_size (h2 HB.out GE206.out GE207.out)))
   replace HO211:=ak (R_elder' (rm HO211.out) (R_base ho0) hb)
   replace BK206:=kb BK206 hb
   replace BK207:=kb BK207 hb
   replace HB:=ak (below_step (h2 HB.out GE206.out GE207.out) hb)
   (try clear hb)
   (try clear ho0)
   obtain ⟨Ao16,co16,eo16⟩:=R_slice HO214.out
   (subst eo16)
   obtain ⟨Ao17,co17,eo17⟩:=R_slice HO211.out
   (subst eo17)
   refine hK.out _ _ ⟨(blk_cell BK206.out 0).trans rfl,(blk_cell BK206.out 1).trans rfl,(blk_cell BK206.out 2).trans rfl⟩ (fun hHeld=>?_)
   clear hK K
   refine norm_ (a':=?_) ?_ ?_
   rotate_left
   ·show Act.put _ (some 17) _ = _
    simp only [ap]
    rfl
   refine pq 9 (N:=some 18) (lb 12 1023) HT_ ?_
   refine one_ (i:=10) (N:=some 4) (lb 12 2047) rfl rfl (one_of HT_.out (by kernel_rfl)) (by decide) (fun K hK=>?_)
   refine box_step ?hg (N:=4) ?hd (cs:=#[.int .i64 0,.slice none 0 0,.slice none 0 0]) (t:=27) ?hr ?_;(case hd=>rfl);(case hg=>rfl);(case hr=>first|(go_simp;done)|(go_simp;rfl))
   intro gb215 hg w18 hbox hb
   replace HO211:=rb HO211 hb
   replace HO214:=rb HO214 hb
   have BK215:=ak hbox
   have GW215:=ak ((by rw [hg];exact (below_size (h2 HB.out GE206.out GE207.out)) : w.heap.size ≤ gb215))
   have GE215:=ak ((by rw [hg];exact (below_size (h2 HB.out GE206.out GE207.out)) : w.heap.size ≤ gb215))
   replace HB:=ak (below_step (h2 HB.out GE206.out GE207.out) hb)
   have NB206_215:=ak ((by rw [hg];exact Nat.ne_of_lt (blk_lt (g:=gb206) (o:=.cells #[.int .i64 a0_0,.slice A0_1 l0_1.length c0_1,.slice A0_2 l0_2.length c0_2] 27 (0,0)) (bm BK206.out)) : gb206 ≠ gb215))
   have NB215_206:=ak ((by rw [hg];exact Nat.ne_of_gt (blk_lt (g:=gb206) (o:=.cells #[.int .i64 a0_0,.slice A0_1 l0_1.length c0_1,.slice A0_2 l0_2.length c0_2] 27 (0,0)) (bm BK206.out)) : gb215 ≠ gb206))
   replace BK206:=kb BK206 hb
   have NB207_215:=ak ((by rw [hg];exact Nat.ne_of_lt (blk_lt (g:=gb207) (o:=.cells #[.int .i64 0,.slice none 0 0,.slice none 0 0] 27 (0,0)) (bm BK207.out)) : gb207 ≠ gb215))
   have NB215_207:=ak ((by rw [hg];exact Nat.ne_of_gt (blk_lt (g:=gb207) (o:=.cells #[.int .i64 0,.slice none 0 0,.slice none 0 0] 27 (0,0)) (bm BK207.out)) : gb215 ≠ gb207))
   replace BK207:=kb BK207 hb
   clear hb hbox hg
   refine hK.out _ _ ⟨(blk_cell BK206.out 0).trans rfl,(blk_cell BK206.out 1).trans rfl,(blk_cell BK206.out 2).trans rfl⟩ (fun hHeld=>?_)
   clear hK K
   refine norm_ (a':=?_) ?_ ?_
   rotate_left
   ·show Act.put _ (some 4) _ = _
    simp only [ap]
    rfl
   exact norm_ (by simp only [putAll,Act.put,List.setIfInBounds_toArray,List.set_cons_zero,List.set_cons_succ]) (hCont (.slice Ao17 t209.length co17,.slice Ao16 t212.length co16,gb215) _ ⟨hHeld,(rm (R_mono HO211.out (fun _ hk=>hk.2))),(rm (R_mono HO214.out (fun _ hk=>hk.2))),(bm BK206.out),(bm BK207.out),(bm BK215.out),GW215.out,GE215.out,NB206_215.out,NB215_206.out,NB207_215.out,NB215_207.out,(h3 HB.out GE206.out GE207.out GE215.out)⟩)
  skip
  refine box_step ?hg (N:=4) ?hd (cs:=#[.int .i64 0,.slice none 0 0,.slice none 0 0]) (t:=27) ?hr ?_;(case hd=>rfl);(case hg=>rfl);(case hr=>first|(go_simp;done)|(go_simp;rfl))
  intro gb215 hg w15 hbox hb
  replace HO211:=rb HO211 hb
  have BK215:=ak hbox
  have GW215:=ak ((by rw [hg];exact (below_size (h2 HB.out GE206.out GE207.out)) : w.heap.size ≤ gb215))
  have GE215:=ak ((by rw [hg];exact (below_size (h2 HB.out GE206.out GE207.out)) : w.heap.size ≤ gb215))
  replace HB:=ak (below_step (h2 HB.out GE206.out GE207.out) hb)
  have NB206_215:=ak ((by rw [hg];exact Nat.ne_of_lt (blk_lt (g:=gb206) (o:=.cells #[.int .i64 a0_0,.slice A0_1 l0_1.length c0_1,.slice A0_2 l0_2.length c0_2] 27 (0,0)) (bm BK206.out)) : gb206 ≠ gb215))
  have NB215_206:=ak ((by rw [hg];exact Nat.ne_of_gt (blk_lt (g:=gb206) (o:=.cells #[.int .i64 a0_0,.slice A0_1 l0_1.length c0_1,.slice A0_2 l0_2.length c0_2] 27 (0,0)) (bm BK206.out)) : gb215 ≠ gb206))
  replace BK206:=kb BK206 hb
  have NB207_215:=ak ((by rw [hg];exact Nat.ne_of_lt (blk_lt (g:=gb207) (o:=.cells #[.int .i64 0,.slice none 0 0,.slice none 0 0] 27 (0,0)) (bm BK207.out)) : gb207 ≠ gb215))
  have NB215_207:=ak ((by rw [hg];exact Nat.ne_of_gt (blk_lt (g:=gb207) (o:=.cells #[.int .i64 0,.slice none 0 0,.slice none 0 0] 27 (0,0)) (bm BK207.out)) : gb215 ≠ gb207))
  replace BK207:=kb BK207 hb
  clear hb hbox hg
  refine hK.out _ _ ⟨(blk_cell BK206.out 0).trans rfl,(blk_cell BK206.out 1).trans rfl,(blk_cell BK206.out 2).trans rfl⟩ (fun hHeld=>?_)
  clear hK K
  refine norm_ (a':=?_) ?_ ?_
  rotate_left
  ·show Act.put _ (some 4) _ = _
   simp only [ap]
   rfl
  refine one_ (i:=8) (N:=some 17) (lb 12 1535) rfl rfl (one_of HT_.out (by kernel_rfl)) (by decide) (fun K hK=>?_)
  refine goes_ Try.func48 (by kernel_rfl) rfl #[.slice A0_2 l0_2.length c0_2,.func (.func 50) #[] #[]] (by rfl) rfl rfl gl ?_
  with_reducible refine (mapped_50.calls k _ _ l0_2 t212 _ ?side1 ?side2 A5.out).mono ?_
  (case side1=>exact cm (C_below HR0_2.out HB.out))
  (case side2=>exact HC0_2.out)
  rintro e w16 ⟨v213,rfl,ho0,hb⟩
  refine ⟨_,rfl,?_⟩
  have HO214:=ak (R_lower (R_new' ho0 (R_lt (rm HO211.out))) (below_size (h3 HB.out GE206.out GE207.out GE215.out)))
  replace HO211:=ak (R_elder' (rm HO211.out) (R_base ho0) hb)
  replace BK206:=kb BK206 hb
  replace BK207:=kb BK207 hb
  replace BK215:=kb BK215 hb
  replace HB:=ak (below_step (h3 HB.out GE206.out GE207.out GE215.out) hb)
  (try clear hb)
  (try clear ho0)
  obtain ⟨Ao17,co17,eo17⟩:=R_slice HO214.out
  (subst eo17)
  obtain ⟨Ao18,co18,eo18⟩:=R_slice HO211.out
  (subst eo18)
  refine hK.out _ _ ⟨(blk_cell BK206.out 0).trans rfl,(blk_cell BK206.out 1).trans rfl,(blk_cell BK206.out 2).trans rfl⟩ (fun hHeld=>?_)
  clear hK K
  refine norm_ (a':=?_) ?_ ?_
  rotate_left
  ·show Act.put _ (some 17) _ = _
   simp only [ap]
   rfl
  refine pq 9 (N:=some 18) (lb 12 2047) HT_ ?_
  exact norm_ (by simp only [putAll,Act.put,List.setIfInBounds_toArray,List.set_cons_zero,List.set_cons_succ]) (hCont (.slice Ao18 t209.length co18,.slice Ao17 t212.length co17,gb215) _ ⟨hHeld,(rm (R_mono HO211.out (fun _ hk=>hk.2))),(rm (R_mono HO214.out (fun _ hk=>hk.2))),(bm BK206.out),(bm BK207.out),(bm BK215.out),GW215.out,GE215.out,NB206_215.out,NB215_206.out,NB207_215.out,NB215_207.out,(h3 HB.out GE206.out GE207.out GE215.out)⟩)
 rintro ⟨v210,v213,gb215⟩ w19 ⟨hS_,h0_,h1_,h2_,h3_,h4_,h5_,h6_,h7_,h8_,h9_,h10_,h11_⟩
 have n0_ : Aside0 (Kd.R (Kd.int .i64) 3 w19 w.heap.size (fun k_=>ob k_ v213) v210 t209):=⟨h0_⟩
 have n1_ : Aside0 (Kd.R (Kd.int .i64) 3 w19 w.heap.size (fun k_=>ob k_ v210) v213 t212):=⟨h1_⟩
 have n2_ : Aside0 (w19.heap[gb206]? = some (.cells #[.int .i64 a0_0,.slice A0_1 l0_1.length c0_1,.slice A0_2 l0_2.length c0_2] 27 (0,0))):=⟨h2_⟩
 have n3_ : Aside0 (w19.heap[gb207]? = some (.cells #[.int .i64 0,.slice none 0 0,.slice none 0 0] 27 (0,0))):=⟨h3_⟩
 have n4_ : Aside0 (w19.heap[gb215]? = some (.cells #[.int .i64 0,.slice none 0 0,.slice none 0 0] 27 (0,0))):=⟨h4_⟩
 have n5_ : Aside0 (w.heap.size ≤ gb215):=⟨h5_⟩
 have n6_ : Aside0 (w.heap.size ≤ gb215):=⟨h6_⟩
 have n7_ : Aside0 (gb206 ≠ gb215):=⟨h7_⟩
 have n8_ : Aside0 (gb215 ≠ gb206):=⟨h8_⟩
 have n9_ : Aside0 (gb207 ≠ gb215):=⟨h9_⟩
 have n10_ : Aside0 (gb215 ≠ gb207):=⟨h10_⟩
 have n11_ : Aside0 (Below w.heap.size w w19):=⟨h11_⟩
 clear BK206
 clear BK207
 clear HB
 clear h0_ h1_ h2_ h3_ h4_ h5_ h6_ h7_ h8_ h9_ h10_ h11_
 have HO211:=n0_
 have HO214:=n1_
 have BK206:=n2_
 have BK207:=n3_
 have BK215:=n4_
 have GW215:=n5_
 have GE215:=n6_
 have NB206_215:=n7_
 have NB215_206:=n8_
 have NB207_215:=n9_
 have NB215_207:=n10_
 have HB:=n11_
 clear n0_ n1_ n2_ n3_ n4_ n5_ n6_ n7_ n8_ n9_ n10_ n11_
 have hHeld : w19.cell? ⟨gb206,0,none⟩ = some (.int .i64 a0_0) ∧ w19.cell? ⟨gb206,1,none⟩ = some (.slice A0_1 l0_1.length c0_1) ∧ w19.cell? ⟨gb206,2,none⟩ = some (.slice A0_2 l0_2.length c0_2):=hS_
 obtain ⟨Ao20,co20,eo20⟩:=R_slice HO214.out
 (subst eo20)
 obtain ⟨Ao21,co21,eo21⟩:=R_slice HO211.out
 (subst eo21)
 refine norm_ (a':=?_) ?_ ?_
 rotate_left
 ·simp only [putAll,Act.put,List.setIfInBounds_toArray,List.set_cons_zero,List.set_cons_succ]
  rfl
 refine one_ (i:=11) (N:=none) (lb 12 4095) rfl rfl (one_of HT_.out (by kernel_rfl)) (by decide) (fun K hK=>?_)
 have hs22 : w19.cell? ⟨gb215,0,none⟩ = some (.int .i64 0):=(blk_cell BK215.out 0).trans rfl
 have hfs22:=blk_frozen BK215.out 0
 have hns22_0:=NB206_215.out
 have hns22_1:=NB207_215.out
 have hms22_0:=NB215_206.out
 have hms22_1:=NB215_207.out
 have hs23 : w19.cell? ⟨gb215,1,none⟩ = some (.slice none 0 0):=(blk_cell BK215.out 1).trans rfl
 have hfs23:=blk_frozen BK215.out 1
 have hns23_0:=NB206_215.out
 have hns23_1:=NB207_215.out
 have hms23_0:=NB215_206.out
 have hms23_1:=NB215_207.out
 have hs24 : w19.cell? ⟨gb215,2,none⟩ = some (.slice none 0 0):=(blk_cell BK215.out 2).trans rfl
 have hfs24:=blk_frozen BK215.out 2
 have hns24_0:=NB206_215.out
 have hns24_1:=NB207_215.out
 have hms24_0:=NB215_206.out
 have hms24_1:=NB215_207.out
 refine skip_ (w1:=?_) (by rfl) rfl ?_ ?_
 rotate_left
 ·go_simp
  rfl
 refine hK.out _ _ ⟨((cell_far (p:=⟨gb215,_,none⟩) NB206_215.out _).trans (((cell_far (p:=⟨gb215,_,none⟩) NB206_215.out _).trans (((cell_far (p:=⟨gb215,_,none⟩) NB206_215.out _).trans (hHeld.1)))))),((cell_far (p:=⟨gb215,_,none⟩) NB206_215.out _).trans (((cell_far (p:=⟨gb215,_,none⟩) NB206_215.out _).trans (((cell_far (p:=⟨gb215,_,none⟩) NB206_215.out _).trans (hHeld.2.1)))))),((cell_far (p:=⟨gb215,_,none⟩) NB206_215.out _).trans (((cell_far (p:=⟨gb215,_,none⟩) NB206_215.out _).trans (((cell_far (p:=⟨gb215,_,none⟩) NB206_215.out _).trans (hHeld.2.2))))))⟩ (fun hHeld=>?_)
 clear hK K
 refine done_ (done_of HT_.out (by kernel_rfl)) ?_
 have n0_ : Aside0 (Kd.R (Kd.int .i64) 3 (((w19.setCell ⟨gb215,0,none⟩ (.int .i64 a0_0)).setCell ⟨gb215,1,none⟩ (.slice Ao21 t209.length co21)).setCell ⟨gb215,2,none⟩ (.slice Ao20 t212.length co20)) w.heap.size (fun k_=>ob k_ (.slice Ao20 t212.length co20)) (.slice Ao21 t209.length co21) t209):=⟨by (with_reducible repeat (fail));exact R_mono (R_far (p:=⟨gb215,2,none⟩) (R_far (p:=⟨gb215,1,none⟩) (R_far (p:=⟨gb215,0,none⟩) (R_types HO211.out BK215.out (by decide)) (fun _ hk=>hk.2) (.int .i64 a0_0)) (fun _ hk=>hk.2) (.slice Ao21 t209.length co21)) (fun _ hk=>hk.2) (.slice Ao20 t212.length co20)) (fun _ hk=>hk.1)⟩
 have n1_ : Aside0 (Kd.R (Kd.int .i64) 3 (((w19.setCell ⟨gb215,0,none⟩ (.int .i64 a0_0)).setCell ⟨gb215,1,none⟩ (.slice Ao21 t209.length co21)).setCell ⟨gb215,2,none⟩ (.slice Ao20 t212.length co20)) w.heap.size (fun k_=>ob k_ (.slice Ao21 t209.length co21)) (.slice Ao20 t212.length co20) t212):=⟨by (with_reducible repeat (fail));exact R_mono (R_far (p:=⟨gb215,2,none⟩) (R_far (p:=⟨gb215,1,none⟩) (R_far (p:=⟨gb215,0,none⟩) (R_types HO214.out BK215.out (by decide)) (fun _ hk=>hk.2) (.int .i64 a0_0)) (fun _ hk=>hk.2) (.slice Ao21 t209.length co21)) (fun _ hk=>hk.2) (.slice Ao20 t212.length co20)) (fun _ hk=>hk.1)⟩
 have n2_ : Aside0 ((((w19.setCell ⟨gb215,0,none⟩ (.int .i64 a0_0)).setCell ⟨gb215,1,none⟩ (.slice Ao21 t209.length co21)).setCell ⟨gb215,2,none⟩ (.slice Ao20 t212.length co20)).heap[gb206]? = some (.cells #[.int .i64 a0_0,.slice A0_1 l0_1.length c0_1,.slice A0_2 l0_2.length c0_2] 27 (0,0))):=⟨by (with_reducible repeat (fail));refine blk_far ?_ NB206_215.out _;(with_reducible repeat (fail));refine blk_far ?_ NB206_215.out _;(with_reducible repeat (fail));refine blk_far ?_ NB206_215.out _;exact bm BK206.out⟩
 have n3_ : Aside0 ((((w19.setCell ⟨gb215,0,none⟩ (.int .i64 a0_0)).setCell ⟨gb215,1,none⟩ (.slice Ao21 t209.length co21)).setCell ⟨gb215,2,none⟩ (.slice Ao20 t212.length co20)).heap[gb207]? = some (.cells #[.int .i64 0,.slice none 0 0,.slice none 0 0] 27 (0,0))):=⟨by (with_reducible repeat (fail));refine blk_far ?_ NB207_215.out _;(with_reducible repeat (fail));refine blk_far ?_ NB207_215.out _;(with_reducible repeat (fail));refine blk_far ?_ NB207_215.out _;exact bm BK207.out⟩
 have n4_ : Aside0 ((((w19.setCell ⟨gb215,0,none⟩ (.int .i64 a0_0)).setCell ⟨gb215,1,none⟩ (.slice Ao21 t209.length co21)).setCell ⟨gb215,2,none⟩ (.slice Ao20 t212.length co20)).heap[gb215]? = some (.cells #[.int .i64 a0_0,.slice Ao21 t209.length co21,.slice Ao20 t212.length co20] 27 (0,0))):=⟨by (with_reducible repeat (fail));refine blk_put (cs:=#[.int .i64 a0_0,.slice Ao21 t209.length co21,.slice none 0 0]) ?_ 2 _ rfl;(with_reducible repeat (fail));refine blk_put (cs:=#[.int .i64 a0_0,.slice none 0 0,.slice none 0 0]) ?_ 1 _ rfl;(with_reducible repeat (fail));refine blk_put (cs:=#[.int .i64 0,.slice none 0 0,.slice none 0 0]) ?_ 0 _ rfl;exact bm BK215.out⟩
 have n5_ : Aside0 (Below w.heap.size w (((w19.setCell ⟨gb215,0,none⟩ (.int .i64 a0_0)).setCell ⟨gb215,1,none⟩ (.slice Ao21 t209.length co21)).setCell ⟨gb215,2,none⟩ (.slice Ao20 t212.length co20))):=⟨h3 HB.out GE206.out GE207.out GE215.out⟩
 (try clear HO211)
 (try clear HO214)
 (try clear BK206)
 (try clear BK207)
 (try clear BK215)
 (try clear HB)
 generalize (((w19.setCell ⟨gb215,0,none⟩ (.int .i64 a0_0)).setCell ⟨gb215,1,none⟩ (.slice Ao21 t209.length co21)).setCell ⟨gb215,2,none⟩ (.slice Ao20 t212.length co20)) = w25 at n0_ n1_ n2_ n3_ n4_ n5_ ⊢
 have HO211:=n0_
 have HO214:=n1_
 have BK206:=n2_
 have BK207:=n3_
 have BK215:=n4_
 have HB:=n5_
 clear n0_ n1_ n2_ n3_ n4_ n5_
 have hnb26:=NB215_206.out
 have hnc26:=NB206_215.out
 have hnb27:=NB215_207.out
 have hnc27:=NB207_215.out
 have hcz28_0 : w25.cell? ⟨gb215,0,none⟩ = some (.int .i64 a0_0):=(blk_cell BK215.out 0).trans rfl
 have hcz28_1 : w25.cell? ⟨gb215,1,none⟩ = some (.slice Ao21 t209.length co21):=(blk_cell BK215.out 1).trans rfl
 have hcz28_2 : w25.cell? ⟨gb215,2,none⟩ = some (.slice Ao20 t212.length co20):=(blk_cell BK215.out 2).trans rfl
 have hfz28_0:=blk_frozen BK215.out 0
 have hfz28_1:=blk_frozen BK215.out 1
 have hfz28_2:=blk_frozen BK215.out 2
 try go_wp2_with (first|((with_reducible refine gate_callee (f:=51) rfl ?_);refine goesL_ (some 21) rfl rfl Try.func51 (by kernel_rfl) rfl #[.slice Ao21 t209.length co21] rfl gl ?_;(with_reducible refine (slices_Reverse_int_int.calls k (fun k_=>some k_ = (.slice Ao21 t209.length co21 : Value).ownBlock) (.slice Ao21 t209.length co21) t209 t216 w _ ?side1 ?side2 A6.out).mono ?_);(case side1=>exact h3 HB.out GE206.out GE207.out GE215.out);(case side2=>exact R_tight rfl HO211.out);rintro e w29 ⟨rfl,hy0,hb,hkp⟩;refine ⟨_,rfl,?_⟩;replace BK206:=ak (blk_kept (bm BK206.out) hkp (fun hs_=>(fun e_=>(R_ne HO211.out BK206.out (by decide)) e_) hs_));replace BK207:=ak (blk_kept (bm BK207.out) hkp (fun hs_=>(fun e_=>(R_ne HO211.out BK207.out (by decide)) e_) hs_));replace HO214:=ak (R_mono (ok':=fun k_=>ob k_ (.slice Ao21 t209.length co21)) (R_keptB (HO214.out) hkp (fun k_ hk_ hs_=>(hk_) hs_)) (fun k_ hk_=>hk_.1));replace BK215:=ak (blk_kept (bm BK215.out) hkp (fun hs_=>(fun e_=>(R_ne HO211.out BK215.out (by decide)) e_) hs_));replace HO211:=ak (R_reok rfl hy0 (fun k_ e_=>HO211.out.1 k_ e_));replace HB:=ak hb;(try clear hb);(try clear hkp);(try clear hy0);have hcz30_0 : w29.cell? ⟨gb215,0,none⟩ = some (.int .i64 a0_0):=(blk_cell BK215.out 0).trans rfl;have hcz30_1 : w29.cell? ⟨gb215,1,none⟩ = some (.slice Ao21 t209.length co21):=(blk_cell BK215.out 1).trans rfl;have hcz30_2 : w29.cell? ⟨gb215,2,none⟩ = some (.slice Ao20 t212.length co20):=(blk_cell BK215.out 2).trans rfl;have hfz30_0:=blk_frozen BK215.out 0;have hfz30_1:=blk_frozen BK215.out 1;have hfz30_2:=blk_frozen BK215.out 2)|((with_reducible refine gate_callee (f:=51) rfl ?_);refine goesL_ (some 24) rfl rfl Try.func51 (by kernel_rfl) rfl #[.slice Ao20 t212.length co20] rfl gl ?_;(with_reducible refine (slices_Reverse_int_int.calls k (fun k_=>some k_ = (.slice Ao20 t212.length co20 : Value).ownBlock) (.slice Ao20 t212.length co20) t212 t217 w _ ?side1 ?side2 A7.out).mono ?_);(case side1=>exact h3 HB.out GE206.out GE207.out GE215.out);(case side2=>exact R_tight rfl HO214.out);rintro e w31 ⟨rfl,hy0,hb,hkp⟩;refine ⟨_,rfl,?_⟩;replace BK206:=ak (blk_kept (bm BK206.out) hkp (fun hs_=>(fun e_=>(R_ne HO214.out BK206.out (by decide)) e_) hs_));replace BK207:=ak (blk_kept (bm BK207.out) hkp (fun hs_=>(fun e_=>(R_ne HO214.out BK207.out (by decide)) e_) hs_));replace HO211:=ak (R_mono (ok':=fun k_=>ob k_ (.slice Ao20 t212.length co20)) (R_keptB (HO211.out) hkp (fun k_ hk_ hs_=>(hk_) hs_)) (fun k_ hk_=>hk_.1));replace BK215:=ak (blk_kept (bm BK215.out) hkp (fun hs_=>(fun e_=>(R_ne HO214.out BK215.out (by decide)) e_) hs_));replace HO214:=ak (R_reok rfl hy0 (fun k_ e_=>HO214.out.1 k_ e_));replace HB:=ak hb;(try clear hb);(try clear hkp);(try clear hy0);have hcz32_0 : w31.cell? ⟨gb215,0,none⟩ = some (.int .i64 a0_0):=(blk_cell BK215.out 0).trans rfl;have hcz32_1 : w31.cell? ⟨gb215,1,none⟩ = some (.slice Ao21 t209.length co21):=(blk_cell BK215.out 1).trans rfl;have hcz32_2 : w31.cell? ⟨gb215,2,none⟩ = some (.slice Ao20 t212.length co20):=(blk_cell BK215.out 2).trans rfl;have hfz32_0:=blk_frozen BK215.out 0;have hfz32_1:=blk_frozen BK215.out 1;have hfz32_2:=blk_frozen BK215.out 2;have hcz33_0 : w31.cell? ⟨gb207,0,none⟩ = some (.int .i64 0):=(blk_cell BK207.out 0).trans rfl;have hcz33_1 : w31.cell? ⟨gb207,1,none⟩ = some (.slice none 0 0):=(blk_cell BK207.out 1).trans rfl;have hcz33_2 : w31.cell? ⟨gb207,2,none⟩ = some (.slice none 0 0):=(blk_cell BK207.out 2).trans rfl;have hfz33_0:=blk_frozen BK207.out 0;have hfz33_1:=blk_frozen BK207.out 1;have hfz33_2:=blk_frozen BK207.out 2))
 refine bodyPost_ret (results_ct rfl _ _ gb207 27 #[.int .i64 a0_0,.slice Ao21 t209.length co21,.slice Ao20 t212.length co20] (0,0) _ rfl (by (with_reducible repeat (fail));refine blk_put (cs:=#[.int .i64 a0_0,.slice Ao21 t209.length co21,.slice none 0 0]) ?_ 2 _ rfl;(with_reducible repeat (fail));refine blk_put (cs:=#[.int .i64 a0_0,.slice none 0 0,.slice none 0 0]) ?_ 1 _ rfl;(with_reducible repeat (fail));refine blk_put (cs:=#[.int .i64 0,.slice none 0 0,.slice none 0 0]) ?_ 0 _ rfl;exact bm BK207.out) Try.underlying27 rfl (by kernel_rfl)) rfl ?_
 exact ⟨_,_,fe,by (with_reducible repeat (fail));exact R_mono (R_far (p:=⟨gb207,2,none⟩) (R_far (p:=⟨gb207,1,none⟩) (R_far (p:=⟨gb207,0,none⟩) (R_types HO211.out BK207.out (by decide)) (fun _ hk=>hk.2) (.int .i64 a0_0)) (fun _ hk=>hk.2) (.slice Ao21 t209.length co21)) (fun _ hk=>hk.2) (.slice Ao20 t212.length co20)) (fun _ hk=>hk.1),by (with_reducible repeat (fail));exact R_mono (R_far (p:=⟨gb207,2,none⟩) (R_far (p:=⟨gb207,1,none⟩) (R_far (p:=⟨gb207,0,none⟩) (R_types HO214.out BK207.out (by decide)) (fun _ hk=>hk.2) (.int .i64 a0_0)) (fun _ hk=>hk.2) (.slice Ao21 t209.length co21)) (fun _ hk=>hk.2) (.slice Ao20 t212.length co20)) (fun _ hk=>hk.1),h3 HB.out GE206.out GE207.out GE215.out⟩


end
end Go.Proofs.Ytciihopkgblpkaa.QFnWires
