/- The law VramRows returns true for every input. Words that are written one behind the other are read in the same order from the same address. It is run by symbols (SxA, SxB, SxC); what is left is arithmetic. No condition. -/
import Derived.Test.YtjegnoknenahpaaRows
import Derived.Test.YtjegnoknenahpaaSxC
namespace Go.Proofs.Ytjegnoknenahpaa.VramRows
open Go.Sx Go.ChangeShapes Go.WideShapes Go.ChangeAt Go.RowKit
set_option linter.unusedVariables false
set_option linter.unusedSimpArgs false
set_option maxRecDepth 100000
noncomputable def G : Ctx := inlS Try.prog [] (ctx []) 3000 20 8
noncomputable def Gh : HintCtx := inlSH Try.prog [] (ctx []) 3000 20 8
theorem G_ok (xs : Nat → Nat → Ext) : CtxOK Try.prog (Iv xs) G := inlS_ok (ctx_ok (fun p hp => by cases hp)) (by kernel_rfl) 3000 20 8
end Go.Proofs.Ytjegnoknenahpaa.VramRows
