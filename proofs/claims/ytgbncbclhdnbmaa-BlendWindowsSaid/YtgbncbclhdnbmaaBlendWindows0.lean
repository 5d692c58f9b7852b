/- The law BlendWindows returns true for every input. What lies within each layer's window, and where it is shown, is what the document says. It is run by symbols (SxA, SxB, SxC); what is left is arithmetic. No condition. -/
import Derived.Test.YtgbncbclhdnbmaaRows
import Derived.Test.YtgbncbclhdnbmaaSxC
namespace Go.Proofs.Ytgbncbclhdnbmaa.BlendWindows
open Go.Sx Go.ChangeShapes Go.WideShapes Go.ChangeAt Go.RowKit
set_option linter.unusedVariables false
set_option linter.unusedSimpArgs false
set_option maxRecDepth 100000
noncomputable def G : Ctx := inl Try.prog (ctx []) 3000 20 5
noncomputable def Gh : HintCtx := inlH Try.prog (ctx []) 3000 20 5
def Pc0 : List Pc := [.arr .u8 64, .arr .u16 4, .arr .u16 4, .arr .i16 6, .num .i16, .num .i16, .num .u16]
theorem G_ok (xs : Nat → Nat → Ext) : CtxOK Try.prog (Iv xs) G := inl_ok (ctx_ok (fun p hp => by cases hp)) (by kernel_rfl) 3000 20 5
end Go.Proofs.Ytgbncbclhdnbmaa.BlendWindows
