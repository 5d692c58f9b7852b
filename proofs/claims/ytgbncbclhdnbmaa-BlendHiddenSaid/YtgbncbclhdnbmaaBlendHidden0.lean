/- The law BlendHidden returns true for every input. What is not shown, or not seen, does not matter. It is run by symbols (SxA, SxB, SxC); what is left is arithmetic. No condition. -/
import Derived.Test.YtgbncbclhdnbmaaRows
import Derived.Test.YtgbncbclhdnbmaaSxC
import Derived.Test.YtgbncbclhdnbmaaBHm
namespace Go.Proofs.Ytgbncbclhdnbmaa.BlendHidden
open Go.Sx Go.ChangeShapes Go.WideShapes Go.ChangeAt Go.RowKit
set_option linter.unusedVariables false
set_option linter.unusedSimpArgs false
set_option maxRecDepth 100000
noncomputable def G : Ctx := inlS Try.prog [] (ctx [(18, bhSSpec), (16, bhNSpec)]) 6000 40 6
noncomputable def Gh : HintCtx := inlSH Try.prog [] (ctx [(18, bhSSpec), (16, bhNSpec)]) 6000 40 6
def Pc0 : List Pc := [.arr .u8 64, .arr .u16 4, .arr .u16 4, .arr .i16 6, .num .i16, .num .i16, .num .u16]
def Pc1 : List Pc := [.bit, .num .u8, .num .u8, .num .u16, .bit, .num .u8, .num .u8, .num .u16, .bit, .num .u8, .num .u8, .num .u16, .bit, .num .u8, .num .u8, .num .u16, .bit, .num .u8, .num .u8, .num .u16]
def Pc4 : List Pc := [.bit, .num .u8, .num .u8, .num .u16]
theorem G_ok (xs : Nat → Nat → Ext) : CtxOK Try.prog (Iv xs) G := inlS_ok (ctx_ok (fun p hp => by
  simp only [List.mem_cons, List.not_mem_nil, or_false] at hp
  rcases hp with rfl | rfl
  · exact bhS_ok _
  · exact bhN_ok _
 )) (by kernel_rfl) 6000 40 6
end Go.Proofs.Ytgbncbclhdnbmaa.BlendHidden
