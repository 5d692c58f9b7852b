/- Contracts of functions that laws of this seat call. They are run by symbols (SxA, SxB, SxC). No condition. -/
import Derived.Test.YthladllkckkjpaaProg
import Derived.Test.YthladllkckkjpaaAwf
import Derived.Test.YthladllkckkjpaaSxC
namespace Go.Proofs.Ythladllkckkjpaa
open Go.Sx Go.RowKit
set_option linter.unusedVariables false
set_option linter.unusedSimpArgs false
set_option maxRecDepth 100000
theorem fdc5 : iterX Try.prog F1 Try.f26 Try.f26.ntmps 624 fds4 135 = some (fds5, 119) := by kernel_rfl
theorem fdc6 : iterX Try.prog F1 Try.f26 Try.f26.ntmps 624 fds5 119 = some (fds6, 103) := by kernel_rfl
theorem fdc7 : iterX Try.prog F1 Try.f26 Try.f26.ntmps 624 fds6 103 = some (fds7, 87) := by kernel_rfl
theorem fdEnd : collapse 4 (runX Try.prog F1 F1h Try.f26 Try.f26.ntmps 35573 87 fds7.ph fds7.todo fds7.H fds7.fr fds7.m) = some ([], .tup [], fdM1) := by kernel_rfl
end Go.Proofs.Ythladllkckkjpaa
