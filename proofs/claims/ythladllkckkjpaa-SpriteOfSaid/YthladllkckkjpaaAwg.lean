/- Contracts of functions that laws of this seat call. They are run by symbols (SxA, SxB, SxC). No condition. -/
import Derived.Test.YthladllkckkjpaaProg
import Derived.Test.YthladllkckkjpaaAwf
import Derived.Test.YthladllkckkjpaaSxC
namespace Go.Proofs.Ythladllkckkjpaa
open Go.Sx Go.RowKit
set_option linter.unusedVariables false
set_option linter.unusedSimpArgs false
set_option maxRecDepth 100000
theorem fdc0 : iterX Try.prog F1 Try.f26 Try.f26.ntmps 59 fd0 200 = some (fds0, 199) := by kernel_rfl
theorem fdc1 : iterX Try.prog F1 Try.f26 Try.f26.ntmps 624 fds0 199 = some (fds1, 183) := by kernel_rfl
theorem fdc2 : iterX Try.prog F1 Try.f26 Try.f26.ntmps 624 fds1 183 = some (fds2, 167) := by kernel_rfl
theorem fdc3 : iterX Try.prog F1 Try.f26 Try.f26.ntmps 624 fds2 167 = some (fds3, 151) := by kernel_rfl
theorem fdc4 : iterX Try.prog F1 Try.f26 Try.f26.ntmps 624 fds3 151 = some (fds4, 135) := by kernel_rfl
end Go.Proofs.Ythladllkckkjpaa
