/- The law SignalLoads returns true for every input. A body is taken, if it is a state, and refused if not, with the document's error; then all is as it was; what was taken is saved again with the same bytes. It is run by symbols (SxA, SxB, SxC); what is left is arithmetic. No condition. -/
import Derived.Test.YtcckecfjjccffaaRows
import Derived.Test.YtcckecfjjccffaaSxC
import Derived.Test.YtcckecfjjccffaaSgl
namespace Go.Proofs.Ytcckecfjjccffaa.SignalLoads
open Go.Sx Go.ChangeShapes Go.WideShapes Go.ChangeAt Go.RowKit
set_option linter.unusedVariables false
set_option linter.unusedSimpArgs false
set_option maxRecDepth 100000
noncomputable def G:Ctx:=aHE Try.prog [] (ctx [(32,orS (bAq 5) (bHo 5)),(10,rnS),(21,sdS),(44,cQ),(46,cQ),(27,fG 5),(33,dV 5),(20,eV),(47,orS rbS rlS),(49,pzS)]) 3000 60 14
noncomputable def Gh:aV:=aCv Try.prog [] (ctx [(32,orS (bAq 5) (bHo 5)),(10,rnS),(21,sdS),(44,cQ),(46,cQ),(27,fG 5),(33,dV 5),(20,eV),(47,orS rbS rlS),(49,pzS)]) 3000 60 14
theorem bLB (xs:Nat→Nat→Ext):cA Try.prog (Iv xs) G:=nC (kP (fun p hp=>by
 simp only [List.mem_cons,List.not_mem_nil,or_false] at hp
 rcases hp with rfl | rfl | rfl | rfl | rfl | rfl | rfl | rfl | rfl | rfl
 ·exact jE (aYS bOh) (bHp bOh rfl)
 ·exact rnok xs
 ·exact sdok xs
 ·exact eI bCx rfl
 ·exact eI bCw rfl
 ·exact iT bAa
 ·exact iD bAc
 ·exact jH bCp
 ·exact jE (rbok xs) (rlok xs)
 ·exact pzok xs
 )) (by kernel_rfl) 3000 60 14
end Go.Proofs.Ytcckecfjjccffaa.SignalLoads
