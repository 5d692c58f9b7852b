/- The law SignalSaved returns true for every input. Saved between any two steps, and loaded into another chip with the same memory, it goes on just so; steps in parts are steps at one go. It is run by symbols (SxA, SxB, SxC); what is left is arithmetic. No condition. -/
import Derived.Test.YtcckecfjjccffaaRows
import Derived.Test.YtcckecfjjccffaaSxC
import Derived.Test.YtcckecfjjccffaaSgt
namespace Go.Proofs.Ytcckecfjjccffaa.SignalSaved
open Go.Sx Go.ChangeShapes Go.WideShapes Go.ChangeAt Go.RowKit
set_option linter.unusedVariables false
set_option linter.unusedSimpArgs false
set_option maxRecDepth 100000
noncomputable def G:Ctx:=aIr Try.prog [] (ctx [(32,orS (bBB 5) (bIY 5)),(17,s7S),(10,rnS),(26,bRk),(21,sdS),(15,sW),(38,hfS),(47,rdS),(44,cF),(46,cF),(27,eR 5),(33,dO 5),(20,eI)]) 3000 60 14
noncomputable def Gh:aU:=aDi Try.prog [] (ctx [(32,orS (bBB 5) (bIY 5)),(17,s7S),(10,rnS),(26,bRk),(21,sdS),(15,sW),(38,hfS),(47,rdS),(44,cF),(46,cF),(27,eR 5),(33,dO 5),(20,eI)]) 3000 60 14
def Pc1:List Pc:=[.arr .i64 2]
theorem G_ok (xs:Nat→Nat→Ext):bV Try.prog (Iv xs) G:=nV (mP (fun p hp=>by
 simp only [List.mem_cons,List.not_mem_nil,or_false] at hp
 rcases hp with rfl | rfl | rfl | rfl | rfl | rfl | rfl | rfl | rfl | rfl | rfl | rfl | rfl
 ·exact jV (aZV bQd) (bIZ bQd rfl)
 ·exact s7ok xs
 ·exact rnok xs
 ·exact stpok xs
 ·exact sdok xs
 ·exact wrok _
 ·exact hfok xs
 ·exact rdok xs
 ·exact dW bDB rfl
 ·exact dW bDA rfl
 ·exact iS bBf
 ·exact hU bBh
 ·exact jD bDt
 )) (by kernel_rfl) 3000 60 14
end Go.Proofs.Ytcckecfjjccffaa.SignalSaved
