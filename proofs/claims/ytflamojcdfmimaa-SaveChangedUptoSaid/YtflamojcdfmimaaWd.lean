/- A contract of a writer, one run with unknown contents, for any contents: what was put is done. No condition. -/
import Derived.Test.YtflamojcdfmimaaWa
namespace Go.Proofs.Ytflamojcdfmimaa
open Go.Sx Go.ChangeShapes Go.WideShapes Go.ChangeAt Go.RowKit
set_option linter.unusedVariables false
set_option linter.unusedSimpArgs false
set_option maxRecDepth 100000
def dnH : Hyp := ⟨[(.v 0, (1, 4000000)), (.v 1, (0, 0)), (.v 2, (0, 0))], [(0, (0, 255)), (1, (-9223372036854775808, 9223372036854775807))], [(10, (0, 4294967295))], [], [], []⟩
def dnL : List SV := [.s (.ptr 0 (.lit 0))]
def dnM : Mem := [⟨69, [.one (.slc 1 (.lit 0) (.v 0) (.op (.lit 0))), .run .i64 (.lit 16) (.av 1) 0, .one (.int .i64 (.v 1)), .one (.int .i64 (.v 2))], true, none, false⟩, ⟨5, [.run .u8 (.v 0) (.av 0) 0], true, some 1, false⟩]
def dn0 : E := .add (.v 0) (.lit 13)
def dn1 : E := .upd (.tab []) (.lit 0) (.lit 76)
def dn2 : E := .upd dn1 (.lit 1) (.lit 65)
def dn3 : E := .upd dn2 (.lit 2) (.lit 78)
def dn4 : E := .upd dn3 (.lit 3) (.lit 84)
def dn5 : E := .upd dn4 (.lit 4) (.lit 1)
def dn6 : E := .mod (.v 0) (.lit 256)
def dn7 : E := .upd dn5 (.lit 5) dn6
def dn8 : E := .div (.v 0) (.lit 256)
def dn9 : E := .mod dn8 (.lit 256)
def dn10 : E := .upd dn7 (.lit 6) dn9
def dn11 : E := .div (.v 0) (.lit 65536)
def dn12 : E := .upd dn10 (.lit 7) dn11
def dn13 : E := .upd dn12 (.lit 8) (.lit 0)
def dn14 : E := .app 10 (.cons (.v 0) (.cons (.av 0) .nil))
def dn15 : E := .mod dn14 (.lit 256)
def dn16 : E := .upd dn13 (.lit 9) dn15
def dn17 : E := .div dn14 (.lit 256)
def dn18 : E := .mod dn17 (.lit 256)
def dn19 : E := .upd dn16 (.lit 10) dn18
def dn20 : E := .div dn14 (.lit 65536)
def dn21 : E := .mod dn20 (.lit 256)
def dn22 : E := .upd dn19 (.lit 11) dn21
def dn23 : E := .div dn14 (.lit 16777216)
def dn24 : E := .upd dn22 (.lit 12) dn23
def dn25 : E := .blt dn24 (.lit 13) (.v 0) (.av 0) (.lit 0)
def dnO : Mem := [⟨69, [.one (.slc 1 (.lit 0) (.v 0) (.op (.lit 0))), .run .i64 (.lit 16) (.av 1) 0, .one (.int .i64 (.v 1)), .one (.int .i64 (.v 2))], true, none, false⟩, ⟨5, [.run .u8 (.v 0) (.av 0) 0], true, some 1, false⟩, ⟨5, [.run .u8 dn0 dn25 0], true, some 1, false⟩]
def dnS : Go.Sx.Spec := memoG (findG 3 0 2 dnL dnM) dnH dnL dnM [] (.tup [(false, [.one (.slc 2 (.lit 0) dn0 (.op (.lit 0)))]), (false, [.one (.int .i64 (.lit 0))])]) (some dnO)
set_option maxHeartbeats 4000000 in
theorem dnrun : enter Try.prog SG SGh 3000 40 12 dnH dnL dnM = some ([], .tup [(false, [.one (.slc 2 (.lit 0) dn0 (.op (.lit 0)))]), (false, [.one (.int .i64 (.lit 0))])], some dnO) := by kernel_rfl
theorem dnok (xs : Nat → Nat → Ext) : SpecOK Try.prog (Iv xs) 12 dnS := memoG_ok (enter_ok (SG_ok xs) (by kernel_rfl) 3000 40) dnrun
end Go.Proofs.Ytflamojcdfmimaa
