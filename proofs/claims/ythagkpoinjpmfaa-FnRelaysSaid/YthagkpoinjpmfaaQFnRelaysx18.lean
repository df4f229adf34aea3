/- Functions that the law FnRelays comes to, and their walks: no condition but those named. -/
import Derived.Test.YthagkpoinjpmfaaQFnRelaysx0
import Derived.Test.YthagkpoinjpmfaaQFnRelaysx3
import Derived.Test.YthagkpoinjpmfaaQFnRelaysx6
import Derived.Test.YthagkpoinjpmfaaQFnRelaysx8
import Derived.Test.YthagkpoinjpmfaaQFnRelaysx9
import Derived.Test.YthagkpoinjpmfaaQFnRelaysx10
import Derived.Test.YthagkpoinjpmfaaQFnRelaysx12
import Derived.Test.YthagkpoinjpmfaaQFnRelaysx16
import Derived.Test.YthagkpoinjpmfaaQFnRelaysx17
namespace Go.Proofs.Ythagkpoinjpmfaa.QFnRelays
open Go.RowKit Go.Proofs.YthagkpoinjpmfaaW.PrintWords Go.Proofs.YthagkpoinjpmfaaW.PrintLast Go.Proofs.YthagkpoinjpmfaaW.PrintMore Go.Proofs.Ythagkpoinjpmfaa.Short
attribute [local go_sem] max2_int min2_int max_two min_two max_three min_three max_four min_four
set_option linter.unusedVariables false
set_option linter.unusedSimpArgs false
section
open Kd
mutual
def laws_FnRelays.j0:Nat→List (S63)→Int→Int→List (S70)→Int→Bool→Int→Int→Int→Bool→Bool→Int→Bool→Int→Bool→Option (Bool)
 | 0,_,_,_,_,_,_,_,_,_,_,_,_,_,_,_=>none
 | k+1,x4,x5,x6,x7,x12,x13,x16,x22,x23,x24,x206,x646000,x646001,x668000,x668001=>if x206=true then(some false)else(if x24=true then(if x23<x22 then(laws_FnRelays.j1 k x4 x5 x6 x7 x12 x13 x16 true x646000 x646001)else(laws_FnRelays.j1 k x4 x5 x6 x7 x12 x13 x16 (decide (x23>(wrap64 (x668000-1)))) x646000 x646001))else(laws_FnRelays.j1 k x4 x5 x6 x7 x12 x13 x16 false x646000 x646001))
def laws_FnRelays.j1:Nat→List (S63)→Int→Int→List (S70)→Int→Bool→Int→Bool→Int→Bool→Option (Bool)
 | 0,_,_,_,_,_,_,_,_,_,_=>none
 | k+1,x4,x5,x6,x7,x12,x13,x16,x219,x646000,x646001=>if x219=true then(some false)else(if x13=true then((impl_LeastPrice.f k x646000 x646001 x4 x5 x6).bind fun bt686=>((impl_FirstArrival.f k x646000 x646001 x4 x5 x6).bind fun bt688=>((impl_FewestCarriers.f k x646000 x646001 x4 x5 x6).bind fun bt690=>(if bt686.2=true then(if bt688.2=true then(if bt690.2=true then(if x12<bt686.1 then(laws_FnRelays.j2 k x4 x5 x6 x7 true x646000 x646001)else(if x16<bt688.1 then(laws_FnRelays.j2 k x4 x5 x6 x7 true x646000 x646001)else(laws_FnRelays.j2 k x4 x5 x6 x7 (decide ((x7.length:Int)<bt690.1)) x646000 x646001)))else(laws_FnRelays.j2 k x4 x5 x6 x7 true x646000 x646001))else(laws_FnRelays.j2 k x4 x5 x6 x7 true x646000 x646001))else(laws_FnRelays.j2 k x4 x5 x6 x7 true x646000 x646001)))))else(some true))
def laws_FnRelays.j2:Nat→List (S63)→Int→Int→List (S70)→Bool→Int→Bool→Option (Bool)
 | 0,_,_,_,_,_,_,_=>none
 | k+1,x4,x5,x6,x7,x271,x646000,x646001=>if x271=true then(some false)else(laws_FnRelays.l0 k x4 x6 x7 x5 0 x646000 x646001)
def laws_FnRelays.l0:Nat→List (S63)→Int→List (S70)→Int→Int→Int→Bool→Option (Bool)
 | 0,_,_,_,_,_,_,_=>none
 | k+1,x4,x6,x7,x39,x40,x646000,x646001=>if x40<(x7.length:Int)then(if 0≤x40 then(if 0≤((rd_T70 x7 x40).f0)then(if((rd_T70 x7 x40).f0)<(x4.length:Int)then((impl_LegEnd.f k x646000 x646001 ((rd_T63 x4 ((rd_T70 x7 x40).f0)).f0) ((rd_T63 x4 ((rd_T70 x7 x40).f0)).f1) ((rd_T63 x4 ((rd_T70 x7 x40).f0)).f2) x39).bind fun bt694=>(if bt694.2=true then(if((rd_T70 x7 x40).f1)=x39 then(if((rd_T70 x7 x40).f2)≤x39 then(some false)else(if((rd_T70 x7 x40).f2)>bt694.1 then(some false)else(laws_FnRelays.l0 k x4 x6 x7 ((rd_T70 x7 x40).f2) (wrap64 (x40+1)) x646000 x646001)))else(some false))else(some false)))else(none))else(none))else(none))else(some (x39==x6))
end
def laws_FnRelays.f (k:Nat) (l0:List Int):Option (Bool):=(laws_vBig.f l0).bind fun t634=>(if t634=true then(some true)else((spec_DrawIsRelay.f k l0).bind fun bt635=>((impl_IsRelay.f k bt635.1 bt635.2.1 bt635.2.2.1 bt635.2.2.2.1 bt635.2.2.2.2.1 bt635.2.2.2.2.2).bind fun bt646=>((spec_IsRelay.f k bt635.1 bt635.2.1 bt635.2.2.1 bt635.2.2.2.1 bt635.2.2.2.2.1 bt635.2.2.2.2.2).bind fun bt648=>((impl_RelayPrice.f k bt635.1 bt635.2.1 bt635.2.2.1 bt635.2.2.2.1 bt635.2.2.2.2.1 bt635.2.2.2.2.2).bind fun bt650=>((spec_RelayPrice.f k bt635.1 bt635.2.1 bt635.2.2.1 bt635.2.2.2.1 bt635.2.2.2.2.1 bt635.2.2.2.2.2).bind fun bt652=>((impl_RelayArrival.f k bt635.1 bt635.2.1 bt635.2.2.1 bt635.2.2.2.1 bt635.2.2.2.2.1 bt635.2.2.2.2.2).bind fun bt654=>((spec_RelayArrival.f k bt635.1 bt635.2.1 bt635.2.2.1 bt635.2.2.2.1 bt635.2.2.2.2.1 bt635.2.2.2.2.2).bind fun bt656=>((laws_vCut.f l0 1).bind fun t658=>((spec_DrawLegEnd.f k t658).bind fun bt661=>((impl_LegEnd.f k bt661.1 bt661.2.1 bt661.2.2.1 bt661.2.2.2.1 bt661.2.2.2.2.1 bt661.2.2.2.2.2).bind fun bt669=>((spec_LegEnd.f bt661.1 bt661.2.1 bt661.2.2.1 bt661.2.2.2.1 bt661.2.2.2.2.1 bt661.2.2.2.2.2).bind fun bt671=>((laws_vCut.f l0 2).bind fun t673=>((spec_DrawAreCarriers.f k t673).bind fun bt676=>((impl_AreCarriers.f k bt676.1 bt676.2.1 bt676.2.2).bind fun bt682=>((spec_AreCarriers.f k bt676.1 bt676.2.1 bt676.2.2).bind fun bt684=>(if(bt646.1 !=bt648.1)=true then(laws_FnRelays.j0 k bt635.2.2.1 bt635.2.2.2.1 bt635.2.2.2.2.1 bt635.2.2.2.2.2 bt650.1 bt650.2 bt654.1 bt661.2.2.2.2.2 bt669.1 bt669.2 true bt635.1 bt635.2.1 bt661.1 bt661.2.1)else(if(bt646.2 !=bt648.2)=true then(laws_FnRelays.j0 k bt635.2.2.1 bt635.2.2.2.1 bt635.2.2.2.2.1 bt635.2.2.2.2.2 bt650.1 bt650.2 bt654.1 bt661.2.2.2.2.2 bt669.1 bt669.2 true bt635.1 bt635.2.1 bt661.1 bt661.2.1)else(if bt650.1=bt652.1 then(if(bt650.2 !=bt652.2)=true then(laws_FnRelays.j0 k bt635.2.2.1 bt635.2.2.2.1 bt635.2.2.2.2.1 bt635.2.2.2.2.2 bt650.1 bt650.2 bt654.1 bt661.2.2.2.2.2 bt669.1 bt669.2 true bt635.1 bt635.2.1 bt661.1 bt661.2.1)else(if bt654.1=bt656.1 then(if(bt654.2 !=bt656.2)=true then(laws_FnRelays.j0 k bt635.2.2.1 bt635.2.2.2.1 bt635.2.2.2.2.1 bt635.2.2.2.2.2 bt650.1 bt650.2 bt654.1 bt661.2.2.2.2.2 bt669.1 bt669.2 true bt635.1 bt635.2.1 bt661.1 bt661.2.1)else(if bt669.1=bt671.1 then(if(bt669.2 !=bt671.2)=true then(laws_FnRelays.j0 k bt635.2.2.1 bt635.2.2.2.1 bt635.2.2.2.2.1 bt635.2.2.2.2.2 bt650.1 bt650.2 bt654.1 bt661.2.2.2.2.2 bt669.1 bt669.2 true bt635.1 bt635.2.1 bt661.1 bt661.2.1)else(if(bt682.1 !=bt684.1)=true then(laws_FnRelays.j0 k bt635.2.2.1 bt635.2.2.2.1 bt635.2.2.2.2.1 bt635.2.2.2.2.2 bt650.1 bt650.2 bt654.1 bt661.2.2.2.2.2 bt669.1 bt669.2 true bt635.1 bt635.2.1 bt661.1 bt661.2.1)else(if(bt682.2 !=bt684.2)=true then(laws_FnRelays.j0 k bt635.2.2.1 bt635.2.2.2.1 bt635.2.2.2.2.1 bt635.2.2.2.2.2 bt650.1 bt650.2 bt654.1 bt661.2.2.2.2.2 bt669.1 bt669.2 true bt635.1 bt635.2.1 bt661.1 bt661.2.1)else(if(bt650.2 !=bt654.2)=true then(laws_FnRelays.j0 k bt635.2.2.1 bt635.2.2.2.1 bt635.2.2.2.2.1 bt635.2.2.2.2.2 bt650.1 bt650.2 bt654.1 bt661.2.2.2.2.2 bt669.1 bt669.2 true bt635.1 bt635.2.1 bt661.1 bt661.2.1)else(if bt646.2=true then(laws_FnRelays.j0 k bt635.2.2.1 bt635.2.2.2.1 bt635.2.2.2.2.1 bt635.2.2.2.2.2 bt650.1 bt650.2 bt654.1 bt661.2.2.2.2.2 bt669.1 bt669.2 (bt650.2 !=bt646.1) bt635.1 bt635.2.1 bt661.1 bt661.2.1)else(laws_FnRelays.j0 k bt635.2.2.1 bt635.2.2.2.1 bt635.2.2.2.2.1 bt635.2.2.2.2.2 bt650.1 bt650.2 bt654.1 bt661.2.2.2.2.2 bt669.1 bt669.2 (bt650.2 !=false) bt635.1 bt635.2.1 bt661.1 bt661.2.1))))))else(laws_FnRelays.j0 k bt635.2.2.1 bt635.2.2.2.1 bt635.2.2.2.2.1 bt635.2.2.2.2.2 bt650.1 bt650.2 bt654.1 bt661.2.2.2.2.2 bt669.1 bt669.2 true bt635.1 bt635.2.1 bt661.1 bt661.2.1)))else(laws_FnRelays.j0 k bt635.2.2.1 bt635.2.2.2.1 bt635.2.2.2.2.1 bt635.2.2.2.2.2 bt650.1 bt650.2 bt654.1 bt661.2.2.2.2.2 bt669.1 bt669.2 true bt635.1 bt635.2.1 bt661.1 bt661.2.1)))else(laws_FnRelays.j0 k bt635.2.2.1 bt635.2.2.2.1 bt635.2.2.2.2.1 bt635.2.2.2.2.2 bt650.1 bt650.2 bt654.1 bt661.2.2.2.2.2 bt669.1 bt669.2 true bt635.1 bt635.2.1 bt661.1 bt661.2.1))))))))))))))))))))
theorem laws_FnRelays.mono_l:∀ k,(∀ y0 y1 y2 y3 y4 y5 y6 y7 y8 y9 y10 y11 y12 y13 y14,LeO (laws_FnRelays.j0 k y0 y1 y2 y3 y4 y5 y6 y7 y8 y9 y10 y11 y12 y13 y14) (laws_FnRelays.j0 (k+1) y0 y1 y2 y3 y4 y5 y6 y7 y8 y9 y10 y11 y12 y13 y14))∧(∀ y0 y1 y2 y3 y4 y5 y6 y7 y8 y9,LeO (laws_FnRelays.j1 k y0 y1 y2 y3 y4 y5 y6 y7 y8 y9) (laws_FnRelays.j1 (k+1) y0 y1 y2 y3 y4 y5 y6 y7 y8 y9))∧(∀ y0 y1 y2 y3 y4 y5 y6,LeO (laws_FnRelays.j2 k y0 y1 y2 y3 y4 y5 y6) (laws_FnRelays.j2 (k+1) y0 y1 y2 y3 y4 y5 y6))∧(∀ y0 y1 y2 y3 y4 y5 y6,LeO (laws_FnRelays.l0 k y0 y1 y2 y3 y4 y5 y6) (laws_FnRelays.l0 (k+1) y0 y1 y2 y3 y4 y5 y6))
 | 0=>by
  refine⟨?_,?_,?_,?_⟩<;>(intros;intro r h;simp[laws_FnRelays.j0,laws_FnRelays.j1,laws_FnRelays.j2,laws_FnRelays.l0]at h)
 | k+1=>by
  obtain⟨ih0,ih1,ih2,ih3⟩:=laws_FnRelays.mono_l k
  refine⟨?_,?_,?_,?_⟩<;>intros<;>(first|unfold laws_FnRelays.j0|unfold laws_FnRelays.j1|unfold laws_FnRelays.j2|unfold laws_FnRelays.l0)<;>(repeat' first|(with_reducible exact ih0 ..)|(with_reducible exact ih1 ..)|(with_reducible exact ih2 ..)|(with_reducible exact ih3 ..)|(with_reducible exact impl_AreCarriers.mono _ _ _ _)|(with_reducible exact impl_FewestCarriers.mono _ _ _ _ _ _)|(with_reducible exact impl_FirstArrival.mono _ _ _ _ _ _)|(with_reducible exact impl_IsRelay.mono _ _ _ _ _ _ _)|(with_reducible exact impl_LeastPrice.mono _ _ _ _ _ _)|(with_reducible exact impl_LegEnd.mono _ _ _ _ _ _ _)|(with_reducible exact impl_RelayArrival.mono _ _ _ _ _ _ _)|(with_reducible exact impl_RelayPrice.mono _ _ _ _ _ _ _)|(with_reducible exact spec_AreCarriers.mono _ _ _ _)|(with_reducible exact spec_DrawAreCarriers.mono _ _)|(with_reducible exact spec_DrawIsRelay.mono _ _)|(with_reducible exact spec_DrawLegEnd.mono _ _)|(with_reducible exact spec_IsRelay.mono _ _ _ _ _ _ _)|(with_reducible exact spec_RelayArrival.mono _ _ _ _ _ _ _)|(with_reducible exact spec_RelayPrice.mono _ _ _ _ _ _ _)|(with_reducible exact LeO.refl _)|(with_reducible exact LeO.none _)|(with_reducible refine LeO.ite ?_ ?_)|(with_reducible refine LeO.bind ?_ (fun _=>?_))|exact ih0 ..|exact ih1 ..|exact ih2 ..|exact ih3 ..|exact impl_AreCarriers.mono _ _ _ _|exact impl_FewestCarriers.mono _ _ _ _ _ _|exact impl_FirstArrival.mono _ _ _ _ _ _|exact impl_IsRelay.mono _ _ _ _ _ _ _|exact impl_LeastPrice.mono _ _ _ _ _ _|exact impl_LegEnd.mono _ _ _ _ _ _ _|exact impl_RelayArrival.mono _ _ _ _ _ _ _|exact impl_RelayPrice.mono _ _ _ _ _ _ _|exact spec_AreCarriers.mono _ _ _ _|exact spec_DrawAreCarriers.mono _ _|exact spec_DrawIsRelay.mono _ _|exact spec_DrawLegEnd.mono _ _|exact spec_IsRelay.mono _ _ _ _ _ _ _|exact spec_RelayArrival.mono _ _ _ _ _ _ _|exact spec_RelayPrice.mono _ _ _ _ _ _ _|exact LeO.none _|refine LeO.ite ?_ ?_|refine LeO.bind ?_ (fun _=>?_))
theorem laws_FnRelays.mono:∀ a0 k,LeO (laws_FnRelays.f k a0) (laws_FnRelays.f (k+1) a0):=by
 intro a0 k
 obtain⟨ih0,ih1,ih2,ih3⟩:=laws_FnRelays.mono_l k
 unfold laws_FnRelays.f
 repeat' first
   | (with_reducible exact ih0 _ _ _ _ _ _ _ _ _ _ _ _ _ _ _)
   | (with_reducible exact ih1 _ _ _ _ _ _ _ _ _ _)
   | (with_reducible exact ih2 _ _ _ _ _ _ _)
   | (with_reducible exact ih3 _ _ _ _ _ _ _)
   | (with_reducible exact impl_AreCarriers.mono _ _ _ _)
   | (with_reducible exact impl_FewestCarriers.mono _ _ _ _ _ _)
   | (with_reducible exact impl_FirstArrival.mono _ _ _ _ _ _)
   | (with_reducible exact impl_IsRelay.mono _ _ _ _ _ _ _)
   | (with_reducible exact impl_LeastPrice.mono _ _ _ _ _ _)
   | (with_reducible exact impl_LegEnd.mono _ _ _ _ _ _ _)
   | (with_reducible exact impl_RelayArrival.mono _ _ _ _ _ _ _)
   | (with_reducible exact impl_RelayPrice.mono _ _ _ _ _ _ _)
   | (with_reducible exact spec_AreCarriers.mono _ _ _ _)
   | (with_reducible exact spec_DrawAreCarriers.mono _ _)
   | (with_reducible exact spec_DrawIsRelay.mono _ _)
   | (with_reducible exact spec_DrawLegEnd.mono _ _)
   | (with_reducible exact spec_IsRelay.mono _ _ _ _ _ _ _)
   | (with_reducible exact spec_RelayArrival.mono _ _ _ _ _ _ _)
   | (with_reducible exact spec_RelayPrice.mono _ _ _ _ _ _ _)
   | (with_reducible exact LeO.refl _)
   | (with_reducible exact LeO.none _)
   | (with_reducible refine LeO.ite ?_ ?_)
   | (with_reducible refine LeO.bind ?_ (fun _=>?_))
   | exact ih0 _ _ _ _ _ _ _ _ _ _ _ _ _ _ _
   | exact ih1 _ _ _ _ _ _ _ _ _ _
   | exact ih2 _ _ _ _ _ _ _
   | exact ih3 _ _ _ _ _ _ _
   | exact impl_AreCarriers.mono _ _ _ _
   | exact impl_FewestCarriers.mono _ _ _ _ _ _
   | exact impl_FirstArrival.mono _ _ _ _ _ _
   | exact impl_IsRelay.mono _ _ _ _ _ _ _
   | exact impl_LeastPrice.mono _ _ _ _ _ _
   | exact impl_LegEnd.mono _ _ _ _ _ _ _
   | exact impl_RelayArrival.mono _ _ _ _ _ _ _
   | exact impl_RelayPrice.mono _ _ _ _ _ _ _
   | exact spec_AreCarriers.mono _ _ _ _
   | exact spec_DrawAreCarriers.mono _ _
   | exact spec_DrawIsRelay.mono _ _
   | exact spec_DrawLegEnd.mono _ _
   | exact spec_IsRelay.mono _ _ _ _ _ _ _
   | exact spec_RelayArrival.mono _ _ _ _ _ _ _
   | exact spec_RelayPrice.mono _ _ _ _ _ _ _
   | exact LeO.none _
   | refine LeO.ite ?_ ?_
   | refine LeO.bind ?_ (fun _=>?_)
def laws_FnRelays.T31:Bool × List (List Nat × List Nat):=(true,[([],[]),([],[]),([],[]),([],[]),([2,3],[2,3]),([4],[4]),([5],[5]),([1,6],[1,6]),([7],[7]),([],[]),([0,8,9],[0,8,9]),([10],[10]),([11],[11]),([11],[11]),([12,10,0,1,2,3,4,5,6,7,8,9,10,11,12],[12]),([13,14,0,1,2,3,4,5,6,7,8,9,10,11,12,13,14],[13])])
def laws_FnRelays.B31:List Nat:=[0,0,0,0,12,28,60,126,254,0,1023,2047,4095,4095,8191,32767]
theorem laws_FnRelays.tab31:rtab .any (opsOf Try.f9 31)=laws_FnRelays.T31:=by kernel_rfl
theorem laws_FnRelays.bits31:waitsOk laws_FnRelays.T31.2 laws_FnRelays.B31=true:=by kernel_rfl
def follow:List Bool→Code→Code
 | false::p, .seq a _=>follow p a
 | true::p, .seq _ b=>follow p b
 | _,c=>c
end
end Go.Proofs.Ythagkpoinjpmfaa.QFnRelays
