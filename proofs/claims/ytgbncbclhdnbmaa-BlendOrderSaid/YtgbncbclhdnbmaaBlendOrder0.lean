/- The law BlendOrder returns true for every input. The ranks are told in the document's order, left early, and again. It is run by symbols (SxA, SxB, SxC); what is left is arithmetic. No condition. -/
import Derived.Test.YtgbncbclhdnbmaaRows
import Derived.Test.YtgbncbclhdnbmaaSxC
namespace Go.Proofs.Ytgbncbclhdnbmaa.BlendOrder
open Go.Sx Go.ChangeShapes Go.WideShapes Go.ChangeAt Go.RowKit
set_option linter.unusedVariables false
set_option linter.unusedSimpArgs false
set_option maxRecDepth 100000
noncomputable def G : Ctx := inl Try.prog (ctx []) 6000 40 6
noncomputable def Gh : HintCtx := inlH Try.prog (ctx []) 6000 40 6
def Pc0 : List Pc := [.arr .u8 64, .arr .u16 4, .arr .u16 4, .arr .i16 6, .num .i16, .num .i16, .num .u16]
theorem G_ok (xs : Nat → Nat → Ext) : CtxOK Try.prog (Iv xs) G := inl_ok (ctx_ok (fun p hp => by cases hp)) (by kernel_rfl) 6000 40 6
end Go.Proofs.Ytgbncbclhdnbmaa.BlendOrder
