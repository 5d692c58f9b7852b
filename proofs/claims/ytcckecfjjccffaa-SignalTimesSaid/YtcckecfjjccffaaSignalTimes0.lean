/- The law SignalTimes returns true for every input. A program that multiplies says the product of any words. It is run by symbols (SxA, SxB, SxC); what is left is arithmetic. No condition. -/
import Derived.Test.YtcckecfjjccffaaRows
import Derived.Test.YtcckecfjjccffaaSxC
import Derived.Test.YtcckecfjjccffaaRw
import Derived.Test.YtcckecfjjccffaaMm
namespace Go.Proofs.Ytcckecfjjccffaa.SignalTimes
open Go.Sx Go.ChangeShapes Go.WideShapes Go.ChangeAt Go.RowKit
set_option linter.unusedVariables false
set_option linter.unusedSimpArgs false
set_option maxRecDepth 100000
noncomputable def G : Ctx := inlS Try.prog [] (ctx [(32, memS 5), (27, specCopy 5), (33, specSpoil 5)]) 3000 60 14
noncomputable def Gh : HintCtx := inlSH Try.prog [] (ctx [(32, memS 5), (27, specCopy 5), (33, specSpoil 5)]) 3000 60 14
theorem G_ok (xs : Nat → Nat → Ext) : CtxOK Try.prog (Iv xs) G := inlS_ok (ctx_ok (fun p hp => by
  simp only [List.mem_cons, List.not_mem_nil, or_false] at hp
  rcases hp with rfl | rfl | rfl
  · exact memS_ok mmok
  · exact specCopy_ok ccok
  · exact specSpoil_ok cpok
 )) (by kernel_rfl) 3000 60 14
end Go.Proofs.Ytcckecfjjccffaa.SignalTimes
