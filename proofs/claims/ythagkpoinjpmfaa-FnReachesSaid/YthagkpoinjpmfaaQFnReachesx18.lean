/- Functions that the law FnReaches comes to, and their walks: no condition but those named. -/
import Derived.Test.YthagkpoinjpmfaaQFnReachesx0
import Derived.Test.YthagkpoinjpmfaaQFnReachesx3
import Derived.Test.YthagkpoinjpmfaaQFnReachesx6
import Derived.Test.YthagkpoinjpmfaaQFnReachesx7
import Derived.Test.YthagkpoinjpmfaaQFnReachesx8
import Derived.Test.YthagkpoinjpmfaaQFnReachesx9
import Derived.Test.YthagkpoinjpmfaaQFnReachesx11
import Derived.Test.YthagkpoinjpmfaaQFnReachesx13
import Derived.Test.YthagkpoinjpmfaaQFnReachesx15
import Derived.Test.YthagkpoinjpmfaaQFnReachesx16
import Derived.Test.YthagkpoinjpmfaaQFnReachesx17
namespace Go.Proofs.Ythagkpoinjpmfaa.QFnReaches
open Go.RowKit Go.Proofs.YthagkpoinjpmfaaW.PrintWords Go.Proofs.YthagkpoinjpmfaaW.PrintLast Go.Proofs.YthagkpoinjpmfaaW.PrintMore Go.Proofs.Ythagkpoinjpmfaa.Short
attribute [local go_sem] max2_int min2_int max_two min_two max_three min_three max_four min_four
set_option linter.unusedVariables false
set_option linter.unusedSimpArgs false
section
open Kd
mutual
def laws_FnReaches.j0:Nat→List (S63)→Int→Int→List Int→Bool→Int→Int→Bool→Int→Int→Int→Bool→List (S63)→Int→Int→Bool→Bool→Int→Bool→Int→Bool→Int→Bool→Option (Bool)
 | 0,_,_,_,_,_,_,_,_,_,_,_,_,_,_,_,_,_,_,_,_,_,_,_=>none
 | k+1,x4,x5,x6,x7,x8,x11,x15,x16,x23,x29,x30,x31,x35,x37,x38,x39,x267,x730000,x730001,x764000,x764001,x781000,x781001=>if x267=true then(some false)else(if x39=true then((impl_GreatestReach.f k x781000 x781001 x35 x37).bind fun bt786=>(if bt786.2=true then(if x38>bt786.1 then(some false)else(if x38<x37 then(some false)else(laws_FnReaches.j1 k x4 x5 x6 x7 x8 x11 x15 x16 x23 x29 x30 x31 x730000 x730001 x764000 x764001)))else(some false)))else(laws_FnReaches.j1 k x4 x5 x6 x7 x8 x11 x15 x16 x23 x29 x30 x31 x730000 x730001 x764000 x764001))
def laws_FnReaches.j1:Nat→List (S63)→Int→Int→List Int→Bool→Int→Int→Bool→Int→Int→Int→Bool→Int→Bool→Int→Bool→Option (Bool)
 | 0,_,_,_,_,_,_,_,_,_,_,_,_,_,_,_,_=>none
 | k+1,x4,x5,x6,x7,x8,x11,x15,x16,x23,x29,x30,x31,x730000,x730001,x764000,x764001=>if x31=true then(if x30<x29 then(laws_FnReaches.j2 k x4 x5 x6 x7 x8 x11 x15 x16 x23 true x730000 x730001)else(laws_FnReaches.j2 k x4 x5 x6 x7 x8 x11 x15 x16 x23 (decide (x30>(wrap64 (x764000-1)))) x730000 x730001))else(laws_FnReaches.j2 k x4 x5 x6 x7 x8 x11 x15 x16 x23 false x730000 x730001)
def laws_FnReaches.j2:Nat→List (S63)→Int→Int→List Int→Bool→Int→Int→Bool→Int→Bool→Int→Bool→Option (Bool)
 | 0,_,_,_,_,_,_,_,_,_,_,_,_=>none
 | k+1,x4,x5,x6,x7,x8,x11,x15,x16,x23,x300,x730000,x730001=>if x300=true then(some false)else(if x16=true then(laws_FnReaches.j3 k x4 x5 x6 x7 x8 x11 x23 ((x15==0) !=x8) x730000 x730001)else(laws_FnReaches.j3 k x4 x5 x6 x7 x8 x11 x23 false x730000 x730001))
def laws_FnReaches.j3:Nat→List (S63)→Int→Int→List Int→Bool→Int→Int→Bool→Int→Bool→Option (Bool)
 | 0,_,_,_,_,_,_,_,_,_,_=>none
 | k+1,x4,x5,x6,x7,x8,x11,x23,x307,x730000,x730001=>if x307=true then(some false)else(if x8=true then((impl_OrderReach.f k x730000 x730001 x4 x7 x5).bind fun bt788=>((impl_GreatestReach.f k x730000 x730001 x4 x5).bind fun bt790=>((impl_GapOf.f k x730000 x730001 x5 x6).bind fun bt792=>(if bt788.2=true then(if bt790.2=true then(if bt792.2=true then(if bt788.1≥x6 then(if bt790.1≥x6 then(if(x7.length:Int)=x11 then(if x23≥bt792.1 then(some ((decide (x11>0))==(decide (x5<x6))))else(some false))else(some false))else(some false))else(some false))else(some false))else(some false))else(some false)))))else(some true))
end
def laws_FnReaches.f (k:Nat) (l0:List Int):Option (Bool):=(laws_vBig.f l0).bind fun t721=>(if t721=true then(some true)else((spec_DrawReachOrder.f k l0).bind fun bt722=>((impl_ReachOrder.f k bt722.1 bt722.2.1 bt722.2.2.1 bt722.2.2.2.1 bt722.2.2.2.2).bind fun bt730=>((spec_ReachOrder.f k bt722.1 bt722.2.1 bt722.2.2.1 bt722.2.2.2.1 bt722.2.2.2.2).bind fun bt734=>((impl_FewestCarriers.f k bt722.1 bt722.2.1 bt722.2.2.1 bt722.2.2.2.1 bt722.2.2.2.2).bind fun bt738=>((spec_FewestCarriers.f k bt722.1 bt722.2.1 bt722.2.2.1 bt722.2.2.2.1 bt722.2.2.2.2).bind fun bt740=>((impl_ExtraRange.f k bt722.1 bt722.2.1 bt722.2.2.1 bt722.2.2.2.1 bt722.2.2.2.2).bind fun bt742=>((spec_ExtraRange.f k bt722.1 bt722.2.1 bt722.2.2.1 bt722.2.2.2.1 bt722.2.2.2.2).bind fun bt744=>((impl_LeastPrice.f k bt722.1 bt722.2.1 bt722.2.2.1 bt722.2.2.2.1 bt722.2.2.2.2).bind fun bt746=>((spec_LeastPrice.f k bt722.1 bt722.2.1 bt722.2.2.1 bt722.2.2.2.1 bt722.2.2.2.2).bind fun bt748=>((impl_FirstArrival.f k bt722.1 bt722.2.1 bt722.2.2.1 bt722.2.2.2.1 bt722.2.2.2.2).bind fun bt750=>((spec_FirstArrival.f k bt722.1 bt722.2.1 bt722.2.2.1 bt722.2.2.2.1 bt722.2.2.2.2).bind fun bt752=>((laws_vCut.f l0 1).bind fun t754=>((spec_DrawGreatestReach.f k t754).bind fun bt757=>((impl_GreatestReach.f k bt757.1 bt757.2.1 bt757.2.2.1 bt757.2.2.2).bind fun bt764=>((spec_GreatestReach.f k bt757.1 bt757.2.1 bt757.2.2.1 bt757.2.2.2).bind fun bt766=>((laws_vCut.f l0 2).bind fun t768=>((spec_DrawOrderReach.f k t768).bind fun bt771=>((impl_OrderReach.f k bt771.1 bt771.2.1 bt771.2.2.1 bt771.2.2.2.1 bt771.2.2.2.2).bind fun bt781=>((spec_OrderReach.f k bt771.1 bt771.2.1 bt771.2.2.1 bt771.2.2.2.1 bt771.2.2.2.2).bind fun bt783=>(if(bt730.2 !=bt734.2)=true then(laws_FnReaches.j0 k bt722.2.2.1 bt722.2.2.2.1 bt722.2.2.2.2 bt730.1 bt730.2 bt738.1 bt742.1 bt742.2 bt750.1 bt757.2.2.2 bt764.1 bt764.2 bt771.2.2.1 bt771.2.2.2.2 bt781.1 bt781.2 true bt722.1 bt722.2.1 bt757.1 bt757.2.1 bt771.1 bt771.2.1)else((laws_vInts.f k bt730.1 bt734.1).bind fun t785=>(if t785=true then(if bt738.1=bt740.1 then(if(bt738.2 !=bt740.2)=true then(laws_FnReaches.j0 k bt722.2.2.1 bt722.2.2.2.1 bt722.2.2.2.2 bt730.1 bt730.2 bt738.1 bt742.1 bt742.2 bt750.1 bt757.2.2.2 bt764.1 bt764.2 bt771.2.2.1 bt771.2.2.2.2 bt781.1 bt781.2 true bt722.1 bt722.2.1 bt757.1 bt757.2.1 bt771.1 bt771.2.1)else(if bt742.1=bt744.1 then(if(bt742.2 !=bt744.2)=true then(laws_FnReaches.j0 k bt722.2.2.1 bt722.2.2.2.1 bt722.2.2.2.2 bt730.1 bt730.2 bt738.1 bt742.1 bt742.2 bt750.1 bt757.2.2.2 bt764.1 bt764.2 bt771.2.2.1 bt771.2.2.2.2 bt781.1 bt781.2 true bt722.1 bt722.2.1 bt757.1 bt757.2.1 bt771.1 bt771.2.1)else(if bt746.1=bt748.1 then(if(bt746.2 !=bt748.2)=true then(laws_FnReaches.j0 k bt722.2.2.1 bt722.2.2.2.1 bt722.2.2.2.2 bt730.1 bt730.2 bt738.1 bt742.1 bt742.2 bt750.1 bt757.2.2.2 bt764.1 bt764.2 bt771.2.2.1 bt771.2.2.2.2 bt781.1 bt781.2 true bt722.1 bt722.2.1 bt757.1 bt757.2.1 bt771.1 bt771.2.1)else(if bt750.1=bt752.1 then(if(bt750.2 !=bt752.2)=true then(laws_FnReaches.j0 k bt722.2.2.1 bt722.2.2.2.1 bt722.2.2.2.2 bt730.1 bt730.2 bt738.1 bt742.1 bt742.2 bt750.1 bt757.2.2.2 bt764.1 bt764.2 bt771.2.2.1 bt771.2.2.2.2 bt781.1 bt781.2 true bt722.1 bt722.2.1 bt757.1 bt757.2.1 bt771.1 bt771.2.1)else(if bt764.1=bt766.1 then(if(bt764.2 !=bt766.2)=true then(laws_FnReaches.j0 k bt722.2.2.1 bt722.2.2.2.1 bt722.2.2.2.2 bt730.1 bt730.2 bt738.1 bt742.1 bt742.2 bt750.1 bt757.2.2.2 bt764.1 bt764.2 bt771.2.2.1 bt771.2.2.2.2 bt781.1 bt781.2 true bt722.1 bt722.2.1 bt757.1 bt757.2.1 bt771.1 bt771.2.1)else(if bt781.1=bt783.1 then(if(bt781.2 !=bt783.2)=true then(laws_FnReaches.j0 k bt722.2.2.1 bt722.2.2.2.1 bt722.2.2.2.2 bt730.1 bt730.2 bt738.1 bt742.1 bt742.2 bt750.1 bt757.2.2.2 bt764.1 bt764.2 bt771.2.2.1 bt771.2.2.2.2 bt781.1 bt781.2 true bt722.1 bt722.2.1 bt757.1 bt757.2.1 bt771.1 bt771.2.1)else(if(bt730.2 !=bt738.2)=true then(laws_FnReaches.j0 k bt722.2.2.1 bt722.2.2.2.1 bt722.2.2.2.2 bt730.1 bt730.2 bt738.1 bt742.1 bt742.2 bt750.1 bt757.2.2.2 bt764.1 bt764.2 bt771.2.2.1 bt771.2.2.2.2 bt781.1 bt781.2 true bt722.1 bt722.2.1 bt757.1 bt757.2.1 bt771.1 bt771.2.1)else(if(bt730.2 !=bt746.2)=true then(laws_FnReaches.j0 k bt722.2.2.1 bt722.2.2.2.1 bt722.2.2.2.2 bt730.1 bt730.2 bt738.1 bt742.1 bt742.2 bt750.1 bt757.2.2.2 bt764.1 bt764.2 bt771.2.2.1 bt771.2.2.2.2 bt781.1 bt781.2 true bt722.1 bt722.2.1 bt757.1 bt757.2.1 bt771.1 bt771.2.1)else(laws_FnReaches.j0 k bt722.2.2.1 bt722.2.2.2.1 bt722.2.2.2.2 bt730.1 bt730.2 bt738.1 bt742.1 bt742.2 bt750.1 bt757.2.2.2 bt764.1 bt764.2 bt771.2.2.1 bt771.2.2.2.2 bt781.1 bt781.2 (bt730.2 !=bt750.2) bt722.1 bt722.2.1 bt757.1 bt757.2.1 bt771.1 bt771.2.1))))else(laws_FnReaches.j0 k bt722.2.2.1 bt722.2.2.2.1 bt722.2.2.2.2 bt730.1 bt730.2 bt738.1 bt742.1 bt742.2 bt750.1 bt757.2.2.2 bt764.1 bt764.2 bt771.2.2.1 bt771.2.2.2.2 bt781.1 bt781.2 true bt722.1 bt722.2.1 bt757.1 bt757.2.1 bt771.1 bt771.2.1)))else(laws_FnReaches.j0 k bt722.2.2.1 bt722.2.2.2.1 bt722.2.2.2.2 bt730.1 bt730.2 bt738.1 bt742.1 bt742.2 bt750.1 bt757.2.2.2 bt764.1 bt764.2 bt771.2.2.1 bt771.2.2.2.2 bt781.1 bt781.2 true bt722.1 bt722.2.1 bt757.1 bt757.2.1 bt771.1 bt771.2.1)))else(laws_FnReaches.j0 k bt722.2.2.1 bt722.2.2.2.1 bt722.2.2.2.2 bt730.1 bt730.2 bt738.1 bt742.1 bt742.2 bt750.1 bt757.2.2.2 bt764.1 bt764.2 bt771.2.2.1 bt771.2.2.2.2 bt781.1 bt781.2 true bt722.1 bt722.2.1 bt757.1 bt757.2.1 bt771.1 bt771.2.1)))else(laws_FnReaches.j0 k bt722.2.2.1 bt722.2.2.2.1 bt722.2.2.2.2 bt730.1 bt730.2 bt738.1 bt742.1 bt742.2 bt750.1 bt757.2.2.2 bt764.1 bt764.2 bt771.2.2.1 bt771.2.2.2.2 bt781.1 bt781.2 true bt722.1 bt722.2.1 bt757.1 bt757.2.1 bt771.1 bt771.2.1)))else(laws_FnReaches.j0 k bt722.2.2.1 bt722.2.2.2.1 bt722.2.2.2.2 bt730.1 bt730.2 bt738.1 bt742.1 bt742.2 bt750.1 bt757.2.2.2 bt764.1 bt764.2 bt771.2.2.1 bt771.2.2.2.2 bt781.1 bt781.2 true bt722.1 bt722.2.1 bt757.1 bt757.2.1 bt771.1 bt771.2.1)))else(laws_FnReaches.j0 k bt722.2.2.1 bt722.2.2.2.1 bt722.2.2.2.2 bt730.1 bt730.2 bt738.1 bt742.1 bt742.2 bt750.1 bt757.2.2.2 bt764.1 bt764.2 bt771.2.2.1 bt771.2.2.2.2 bt781.1 bt781.2 true bt722.1 bt722.2.1 bt757.1 bt757.2.1 bt771.1 bt771.2.1))else(laws_FnReaches.j0 k bt722.2.2.1 bt722.2.2.2.1 bt722.2.2.2.2 bt730.1 bt730.2 bt738.1 bt742.1 bt742.2 bt750.1 bt757.2.2.2 bt764.1 bt764.2 bt771.2.2.1 bt771.2.2.2.2 bt781.1 bt781.2 true bt722.1 bt722.2.1 bt757.1 bt757.2.1 bt771.1 bt771.2.1))))))))))))))))))))))))
theorem laws_FnReaches.mono_l:∀ k,(∀ y0 y1 y2 y3 y4 y5 y6 y7 y8 y9 y10 y11 y12 y13 y14 y15 y16 y17 y18 y19 y20 y21 y22,LeO (laws_FnReaches.j0 k y0 y1 y2 y3 y4 y5 y6 y7 y8 y9 y10 y11 y12 y13 y14 y15 y16 y17 y18 y19 y20 y21 y22) (laws_FnReaches.j0 (k+1) y0 y1 y2 y3 y4 y5 y6 y7 y8 y9 y10 y11 y12 y13 y14 y15 y16 y17 y18 y19 y20 y21 y22))∧(∀ y0 y1 y2 y3 y4 y5 y6 y7 y8 y9 y10 y11 y12 y13 y14 y15,LeO (laws_FnReaches.j1 k y0 y1 y2 y3 y4 y5 y6 y7 y8 y9 y10 y11 y12 y13 y14 y15) (laws_FnReaches.j1 (k+1) y0 y1 y2 y3 y4 y5 y6 y7 y8 y9 y10 y11 y12 y13 y14 y15))∧(∀ y0 y1 y2 y3 y4 y5 y6 y7 y8 y9 y10 y11,LeO (laws_FnReaches.j2 k y0 y1 y2 y3 y4 y5 y6 y7 y8 y9 y10 y11) (laws_FnReaches.j2 (k+1) y0 y1 y2 y3 y4 y5 y6 y7 y8 y9 y10 y11))∧(∀ y0 y1 y2 y3 y4 y5 y6 y7 y8 y9,LeO (laws_FnReaches.j3 k y0 y1 y2 y3 y4 y5 y6 y7 y8 y9) (laws_FnReaches.j3 (k+1) y0 y1 y2 y3 y4 y5 y6 y7 y8 y9))
 | 0=>by
  refine⟨?_,?_,?_,?_⟩<;>(intros;intro r h;simp[laws_FnReaches.j0,laws_FnReaches.j1,laws_FnReaches.j2,laws_FnReaches.j3]at h)
 | k+1=>by
  obtain⟨ih0,ih1,ih2,ih3⟩:=laws_FnReaches.mono_l k
  refine⟨?_,?_,?_,?_⟩<;>intros<;>(first|unfold laws_FnReaches.j0|unfold laws_FnReaches.j1|unfold laws_FnReaches.j2|unfold laws_FnReaches.j3)<;>(repeat' first|(with_reducible exact ih0 ..)|(with_reducible exact ih1 ..)|(with_reducible exact ih2 ..)|(with_reducible exact ih3 ..)|(with_reducible exact impl_ExtraRange.mono _ _ _ _ _ _)|(with_reducible exact impl_FewestCarriers.mono _ _ _ _ _ _)|(with_reducible exact impl_FirstArrival.mono _ _ _ _ _ _)|(with_reducible exact impl_GapOf.mono _ _ _ _ _)|(with_reducible exact impl_GreatestReach.mono _ _ _ _ _)|(with_reducible exact impl_LeastPrice.mono _ _ _ _ _ _)|(with_reducible exact impl_OrderReach.mono _ _ _ _ _ _)|(with_reducible exact impl_ReachOrder.mono _ _ _ _ _ _)|(with_reducible exact laws_vInts.mono _ _ _)|(with_reducible exact spec_DrawGreatestReach.mono _ _)|(with_reducible exact spec_DrawOrderReach.mono _ _)|(with_reducible exact spec_DrawReachOrder.mono _ _)|(with_reducible exact spec_ExtraRange.mono _ _ _ _ _ _)|(with_reducible exact spec_FewestCarriers.mono _ _ _ _ _ _)|(with_reducible exact spec_FirstArrival.mono _ _ _ _ _ _)|(with_reducible exact spec_GreatestReach.mono _ _ _ _ _)|(with_reducible exact spec_LeastPrice.mono _ _ _ _ _ _)|(with_reducible exact spec_OrderReach.mono _ _ _ _ _ _)|(with_reducible exact spec_ReachOrder.mono _ _ _ _ _ _)|(with_reducible exact LeO.refl _)|(with_reducible exact LeO.none _)|(with_reducible refine LeO.ite ?_ ?_)|(with_reducible refine LeO.bind ?_ (fun _=>?_))|exact ih0 ..|exact ih1 ..|exact ih2 ..|exact ih3 ..|exact impl_ExtraRange.mono _ _ _ _ _ _|exact impl_FewestCarriers.mono _ _ _ _ _ _|exact impl_FirstArrival.mono _ _ _ _ _ _|exact impl_GapOf.mono _ _ _ _ _|exact impl_GreatestReach.mono _ _ _ _ _|exact impl_LeastPrice.mono _ _ _ _ _ _|exact impl_OrderReach.mono _ _ _ _ _ _|exact impl_ReachOrder.mono _ _ _ _ _ _|exact laws_vInts.mono _ _ _|exact spec_DrawGreatestReach.mono _ _|exact spec_DrawOrderReach.mono _ _|exact spec_DrawReachOrder.mono _ _|exact spec_ExtraRange.mono _ _ _ _ _ _|exact spec_FewestCarriers.mono _ _ _ _ _ _|exact spec_FirstArrival.mono _ _ _ _ _ _|exact spec_GreatestReach.mono _ _ _ _ _|exact spec_LeastPrice.mono _ _ _ _ _ _|exact spec_OrderReach.mono _ _ _ _ _ _|exact spec_ReachOrder.mono _ _ _ _ _ _|exact LeO.none _|refine LeO.ite ?_ ?_|refine LeO.bind ?_ (fun _=>?_))
theorem laws_FnReaches.mono:∀ a0 k,LeO (laws_FnReaches.f k a0) (laws_FnReaches.f (k+1) a0):=by
 intro a0 k
 obtain⟨ih0,ih1,ih2,ih3⟩:=laws_FnReaches.mono_l k
 unfold laws_FnReaches.f
 repeat' first
   | (with_reducible exact ih0 _ _ _ _ _ _ _ _ _ _ _ _ _ _ _ _ _ _ _ _ _ _ _)
   | (with_reducible exact ih1 _ _ _ _ _ _ _ _ _ _ _ _ _ _ _ _)
   | (with_reducible exact ih2 _ _ _ _ _ _ _ _ _ _ _ _)
   | (with_reducible exact ih3 _ _ _ _ _ _ _ _ _ _)
   | (with_reducible exact impl_ExtraRange.mono _ _ _ _ _ _)
   | (with_reducible exact impl_FewestCarriers.mono _ _ _ _ _ _)
   | (with_reducible exact impl_FirstArrival.mono _ _ _ _ _ _)
   | (with_reducible exact impl_GapOf.mono _ _ _ _ _)
   | (with_reducible exact impl_GreatestReach.mono _ _ _ _ _)
   | (with_reducible exact impl_LeastPrice.mono _ _ _ _ _ _)
   | (with_reducible exact impl_OrderReach.mono _ _ _ _ _ _)
   | (with_reducible exact impl_ReachOrder.mono _ _ _ _ _ _)
   | (with_reducible exact laws_vInts.mono _ _ _)
   | (with_reducible exact spec_DrawGreatestReach.mono _ _)
   | (with_reducible exact spec_DrawOrderReach.mono _ _)
   | (with_reducible exact spec_DrawReachOrder.mono _ _)
   | (with_reducible exact spec_ExtraRange.mono _ _ _ _ _ _)
   | (with_reducible exact spec_FewestCarriers.mono _ _ _ _ _ _)
   | (with_reducible exact spec_FirstArrival.mono _ _ _ _ _ _)
   | (with_reducible exact spec_GreatestReach.mono _ _ _ _ _)
   | (with_reducible exact spec_LeastPrice.mono _ _ _ _ _ _)
   | (with_reducible exact spec_OrderReach.mono _ _ _ _ _ _)
   | (with_reducible exact spec_ReachOrder.mono _ _ _ _ _ _)
   | (with_reducible exact LeO.refl _)
   | (with_reducible exact LeO.none _)
   | (with_reducible refine LeO.ite ?_ ?_)
   | (with_reducible refine LeO.bind ?_ (fun _=>?_))
   | exact ih0 _ _ _ _ _ _ _ _ _ _ _ _ _ _ _ _ _ _ _ _ _ _ _
   | exact ih1 _ _ _ _ _ _ _ _ _ _ _ _ _ _ _ _
   | exact ih2 _ _ _ _ _ _ _ _ _ _ _ _
   | exact ih3 _ _ _ _ _ _ _ _ _ _
   | exact impl_ExtraRange.mono _ _ _ _ _ _
   | exact impl_FewestCarriers.mono _ _ _ _ _ _
   | exact impl_FirstArrival.mono _ _ _ _ _ _
   | exact impl_GapOf.mono _ _ _ _ _
   | exact impl_GreatestReach.mono _ _ _ _ _
   | exact impl_LeastPrice.mono _ _ _ _ _ _
   | exact impl_OrderReach.mono _ _ _ _ _ _
   | exact impl_ReachOrder.mono _ _ _ _ _ _
   | exact laws_vInts.mono _ _ _
   | exact spec_DrawGreatestReach.mono _ _
   | exact spec_DrawOrderReach.mono _ _
   | exact spec_DrawReachOrder.mono _ _
   | exact spec_ExtraRange.mono _ _ _ _ _ _
   | exact spec_FewestCarriers.mono _ _ _ _ _ _
   | exact spec_FirstArrival.mono _ _ _ _ _ _
   | exact spec_GreatestReach.mono _ _ _ _ _
   | exact spec_LeastPrice.mono _ _ _ _ _ _
   | exact spec_OrderReach.mono _ _ _ _ _ _
   | exact spec_ReachOrder.mono _ _ _ _ _ _
   | exact LeO.none _
   | refine LeO.ite ?_ ?_
   | refine LeO.bind ?_ (fun _=>?_)
def follow:List Bool→Code→Code
 | false::p, .seq a _=>follow p a
 | true::p, .seq _ b=>follow p b
 | _,c=>c
end
end Go.Proofs.Ythagkpoinjpmfaa.QFnReaches
