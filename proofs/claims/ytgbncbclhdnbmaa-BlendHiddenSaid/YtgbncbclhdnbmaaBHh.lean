/- Contracts of functions that laws of this seat call. They are run by symbols (SxA, SxB, SxC). No condition. -/
import Derived.Test.YtgbncbclhdnbmaaProg
import Derived.Test.YtgbncbclhdnbmaaSxC
namespace Go.Proofs.Ytgbncbclhdnbmaa
open Go.Sx Go.RowKit
set_option linter.unusedVariables false
set_option linter.unusedSimpArgs false
set_option maxRecDepth 100000
noncomputable def M1 : Ctx := inl Try.prog (ctx []) 6000 40 4
noncomputable def M1h : HintCtx := inlH Try.prog (ctx []) 6000 40 4
theorem M1_ok (I : Interp) : CtxOK Try.prog I M1 := inl_ok (ctx_ok (fun p hp => by cases hp)) (by kernel_rfl) 6000 40 4
def bhHy : Hyp := ⟨[(.v 18, (0, 255))], [(0, (0, 255))], [], [], [], []⟩
end Go.Proofs.Ytgbncbclhdnbmaa
