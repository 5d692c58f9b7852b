/- The law SaveReads returns true for every input. A reader of whatever bytes answers, call by call in every order, what the document says, and stands where it says. Where what comes in is of bulk at most 1048576. It is run by symbols (SxA, SxB, SxC); what is left is arithmetic. No condition. -/
import Derived.Test.YtflamojcdfmimaaRows
import Derived.Test.YtflamojcdfmimaaSxC
import Derived.Test.YtflamojcdfmimaaRw
namespace Go.Proofs.Ytflamojcdfmimaa.SaveReads
open Go.Sx Go.ChangeShapes Go.WideShapes Go.ChangeAt Go.RowKit
set_option linter.unusedVariables false
set_option linter.unusedSimpArgs false
set_option maxRecDepth 100000
noncomputable def G : Ctx := inlS Try.prog [] (ctx [(15, specSumR), (16, specSumR), (19, specCopy 5), (14, specSpoil 5), (13, specBytes)]) 3000 30 14
noncomputable def Gh : HintCtx := inlSH Try.prog [] (ctx [(15, specSumR), (16, specSumR), (19, specCopy 5), (14, specSpoil 5), (13, specBytes)]) 3000 30 14
theorem G_ok (xs : Nat → Nat → Ext) : CtxOK Try.prog (Iv xs) G := inlS_ok (ctx_ok (fun p hp => by
  simp only [List.mem_cons, List.not_mem_nil, or_false] at hp
  rcases hp with rfl | rfl | rfl | rfl | rfl
  · exact specSumR_ok csok rfl
  · exact specSumR_ok crok rfl
  · exact specCopy_ok ccok
  · exact specSpoil_ok cpok
  · exact specBytes_ok cbok
 )) (by kernel_rfl) 3000 30 14
end Go.Proofs.Ytflamojcdfmimaa.SaveReads
