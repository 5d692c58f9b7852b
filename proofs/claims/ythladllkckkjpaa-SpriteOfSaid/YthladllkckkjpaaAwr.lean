/- Contracts of functions that laws of this seat call. They are run by symbols (SxA, SxB, SxC). No condition. -/
import Derived.Test.YthladllkckkjpaaProg
import Derived.Test.YthladllkckkjpaaAwn
import Derived.Test.YthladllkckkjpaaSxC
namespace Go.Proofs.Ythladllkckkjpaa
open Go.Sx Go.RowKit
set_option linter.unusedVariables false
set_option linter.unusedSimpArgs false
set_option maxRecDepth 100000
theorem awC6 : awChk 96 16 = true := by kernel_rfl
theorem awC7 : awChk 112 16 = true := by kernel_rfl
end Go.Proofs.Ythladllkckkjpaa
