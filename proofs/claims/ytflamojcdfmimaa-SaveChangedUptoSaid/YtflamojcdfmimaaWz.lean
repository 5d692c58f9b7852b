/- A contract of a writer that nothing was put into, run once: it is done. No condition. -/
import Derived.Test.YtflamojcdfmimaaWa
namespace Go.Proofs.Ytflamojcdfmimaa
open Go.Sx Go.ChangeShapes Go.WideShapes Go.ChangeAt Go.RowKit
set_option linter.unusedVariables false
set_option linter.unusedSimpArgs false
set_option maxRecDepth 100000
def dzH : Hyp := ⟨[(.v 0, (0, 0))], [(0, (-9223372036854775808, 9223372036854775807))], [(10, (0, 4294967295))], [], [], []⟩
def dzL : List SV := [.s (.ptr 0 (.lit 0))]
def dzM : Mem := [⟨69, [.one .nilSlc, .run .i64 (.lit 16) (.av 0) 0, .one (.int .i64 (.lit 0)), .one (.int .i64 (.v 0))], true, none, false⟩]
def dz0 : E := .app 10 (.cons (.lit 0) (.cons (.tab []) .nil))
def dz1 : E := .mod dz0 (.lit 256)
def dz2 : E := .div dz0 (.lit 256)
def dz3 : E := .mod dz2 (.lit 256)
def dz4 : E := .div dz0 (.lit 65536)
def dz5 : E := .mod dz4 (.lit 256)
def dz6 : E := .div dz0 (.lit 16777216)
def dzO : Mem := [⟨69, [.one (.nilSlc), .run .i64 (.lit 16) (.av 0) 0, .one (.int .i64 (.lit 0)), .one (.int .i64 (.v 0))], true, none, false⟩, ⟨5, [.one (.int .u8 (.lit 76)), .one (.int .u8 (.lit 65)), .one (.int .u8 (.lit 78)), .one (.int .u8 (.lit 84)), .one (.int .u8 (.lit 1)), .one (.int .u8 (.lit 0)), .one (.int .u8 (.lit 0)), .one (.int .u8 (.lit 0)), .one (.int .u8 (.lit 0)), .one (.int .u8 dz1), .one (.int .u8 dz3), .one (.int .u8 dz5), .one (.int .u8 dz6)], true, some 1, false⟩]
def dzS : Go.Sx.Spec := memoG (findG 1 0 1 dzL dzM) dzH dzL dzM [] (.tup [(false, [.one (.slc 1 (.lit 0) (.lit 13) (.op (.lit 0)))]), (false, [.one (.int .i64 (.lit 0))])]) (some dzO)
set_option maxHeartbeats 4000000 in
theorem dzrun : enter Try.prog SG SGh 3000 40 12 dzH dzL dzM = some ([], .tup [(false, [.one (.slc 1 (.lit 0) (.lit 13) (.op (.lit 0)))]), (false, [.one (.int .i64 (.lit 0))])], some dzO) := by kernel_rfl
theorem dzok (xs : Nat → Nat → Ext) : SpecOK Try.prog (Iv xs) 12 dzS := memoG_ok (enter_ok (SG_ok xs) (by kernel_rfl) 3000 40) dzrun
end Go.Proofs.Ytflamojcdfmimaa
