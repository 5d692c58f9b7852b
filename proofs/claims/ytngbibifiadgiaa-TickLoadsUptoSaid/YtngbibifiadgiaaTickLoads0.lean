/- The law TickLoads returns true for every input. Bytes are taken, if they are a state, and refused if not, and then all is as it was; what was taken is saved again with the same bytes. Where what comes in is of bulk at most 1048576. It is run by symbols (SxA, SxB, SxC); what is left is arithmetic. No condition. -/
import Derived.Test.YtngbibifiadgiaaRows
import Derived.Test.YtngbibifiadgiaaSxC
import Derived.Test.YtngbibifiadgiaaRw
import Derived.Test.YtngbibifiadgiaaSw
namespace Go.Proofs.Ytngbibifiadgiaa.TickLoads
open Go.Sx Go.ChangeShapes Go.WideShapes Go.ChangeAt Go.RowKit
set_option linter.unusedVariables false
set_option linter.unusedSimpArgs false
set_option maxRecDepth 100000
noncomputable def G : Ctx := inlS Try.prog [] (ctx [(47, specSum), (54, specSum), (21, specBytes), (22, svS)]) 3000 40 12
noncomputable def Gh : HintCtx := inlSH Try.prog [] (ctx [(47, specSum), (54, specSum), (21, specBytes), (22, svS)]) 3000 40 12
theorem G_ok (xs : Nat → Nat → Ext) : CtxOK Try.prog (Iv xs) G := inlS_ok (ctx_ok (fun p hp => by
  simp only [List.mem_cons, List.not_mem_nil, or_false] at hp
  rcases hp with rfl | rfl | rfl | rfl
  · exact specSum_ok csok rfl
  · exact specSum_ok crok rfl
  · exact specBytes_ok cbok
  · exact svok _
 )) (by kernel_rfl) 3000 40 12
end Go.Proofs.Ytngbibifiadgiaa.TickLoads
