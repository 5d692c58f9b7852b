/- The law SignalCommutes returns true for every input. A step that touches nothing shared is the same whether the main side takes or gives a byte ahead of it or behind it. It is run by symbols (SxA, SxB, SxC); what is left is arithmetic. No condition. -/
import Derived.Test.YtcckecfjjccffaaRows
import Derived.Test.YtcckecfjjccffaaSxC
import Derived.Test.YtcckecfjjccffaaSgs
namespace Go.Proofs.Ytcckecfjjccffaa.SignalCommutes
open Go.Sx Go.ChangeShapes Go.WideShapes Go.ChangeAt Go.RowKit
set_option linter.unusedVariables false
set_option linter.unusedSimpArgs false
set_option maxRecDepth 100000
noncomputable def G:Ctx:=aKn Try.prog [] (ctx [(32,orS (bFn 5) (bMo 5)),(17,sxS),(44,dK),(46,dK),(27,gD 5),(33,eR 5),(20,gH),(21,sdS),(15,sF),(38,hfS)]) 3000 30 14
noncomputable def Gh:aZ:=aFg Try.prog [] (ctx [(32,orS (bFn 5) (bMo 5)),(17,sxS),(44,dK),(46,dK),(27,gD 5),(33,eR 5),(20,gH),(21,sdS),(15,sF),(38,hfS)]) 3000 30 14
theorem G_ok (xs:Nat→Nat→Ext):cF Try.prog (Iv xs) G:=nK (pI (fun p hp=>by
 simp only [List.mem_cons,List.not_mem_nil,or_false] at hp
 rcases hp with rfl | rfl | rfl | rfl | rfl | rfl | rfl | rfl | rfl | rfl
 ·exact kF (bDJ bSQ) (bMp bSQ rfl)
 ·exact sxok xs
 ·exact fR bLn rfl
 ·exact fR bLm rfl
 ·exact kV bHa
 ·exact jO bHh
 ·exact lV bLh
 ·exact sdok xs
 ·exact wrok _
 ·exact hfok xs
 )) (by kernel_rfl) 3000 30 14
end Go.Proofs.Ytcckecfjjccffaa.SignalCommutes
