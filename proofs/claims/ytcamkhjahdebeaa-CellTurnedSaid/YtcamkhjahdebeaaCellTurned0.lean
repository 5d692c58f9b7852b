/- The law CellTurned returns true for every input. A map all of whose words are turned has its tiles' dots the other way about (tiles whose bits don't lie in the map). It is run by symbols (SxA, SxB, SxC); what is left is arithmetic. No condition. -/
import Derived.Test.YtcamkhjahdebeaaRows
import Derived.Test.YtcamkhjahdebeaaSxC
import Derived.Test.YtcamkhjahdebeaaSpecs
namespace Go.Proofs.Ytcamkhjahdebeaa.CellTurned
open Go.Sx Go.ChangeShapes Go.WideShapes Go.ChangeAt Go.RowKit
set_option linter.unusedVariables false
set_option linter.unusedSimpArgs false
set_option maxRecDepth 100000
noncomputable def G : Ctx := inl Try.prog (ctx [(26, specVideo 45), (37, moSpec), (33, btSpec), (22, dcSpec), (23, drSpec), (13, trueSpec)]) 3000 6 8
noncomputable def Gh : HintCtx := inlH Try.prog (ctx [(26, specVideo 45), (37, moSpec), (33, btSpec), (22, dcSpec), (23, drSpec), (13, trueSpec)]) 3000 6 8
theorem G_ok (xs : Nat → Nat → Ext) : CtxOK Try.prog (Iv xs) G := inl_ok (ctx_ok (fun p hp => by
  simp only [List.mem_cons, List.not_mem_nil, or_false] at hp
  rcases hp with rfl | rfl | rfl | rfl | rfl | rfl
  · exact specVideo_ok video_ok rfl
  · exact moSpec_ok
  · exact btSpec_ok
  · exact dcSpec_ok
  · exact drSpec_ok
  · exact awake_ok _
 )) (by kernel_rfl) 3000 6 8
end Go.Proofs.Ytcamkhjahdebeaa.CellTurned
