/- The law TickTimes returns true for every input. A timer that is on has made its tally one more behind each period times its target cycles, and not ahead of that; what was read is gone. It is run by symbols (SxA, SxB, SxC); what is left is arithmetic. No condition. -/
import Derived.Test.YtngbibifiadgiaaRows
import Derived.Test.YtngbibifiadgiaaSxC
namespace Go.Proofs.Ytngbibifiadgiaa.TickTimes
open Go.Sx Go.ChangeShapes Go.WideShapes Go.ChangeAt Go.RowKit
set_option linter.unusedVariables false
set_option linter.unusedSimpArgs false
set_option maxRecDepth 100000
noncomputable def G : Ctx := inl Try.prog (ctx []) 3000 20 8
noncomputable def Gh : HintCtx := inlH Try.prog (ctx []) 3000 20 8
theorem G_ok (xs : Nat → Nat → Ext) : CtxOK Try.prog (Iv xs) G := inl_ok (ctx_ok (fun p hp => by cases hp)) (by kernel_rfl) 3000 20 8
end Go.Proofs.Ytngbibifiadgiaa.TickTimes
