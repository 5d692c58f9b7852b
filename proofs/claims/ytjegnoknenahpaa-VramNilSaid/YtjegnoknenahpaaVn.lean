/- A contract of a writer that nothing was put into, run once: what it answers when it is done. No condition. -/
import Derived.Test.YtjegnoknenahpaaRows
import Derived.Test.YtjegnoknenahpaaSxC
namespace Go.Proofs.Ytjegnoknenahpaa
open Go.Sx Go.ChangeShapes Go.WideShapes Go.ChangeAt Go.RowKit
set_option linter.unusedVariables false
set_option maxRecDepth 100000
noncomputable def SG : Ctx := inlS Try.prog [] (ctx []) 3000 40 12
noncomputable def SGh : HintCtx := inlSH Try.prog [] (ctx []) 3000 40 12
theorem SG_ok (xs : Nat → Nat → Ext) : CtxOK Try.prog (Iv xs) SG := inlS_ok (ctx_ok (fun p hp => by cases hp)) (by kernel_rfl) 3000 40 12
def dnH : Hyp := ⟨[], [], [], [], [], []⟩
def dnL : List SV := [.s (.ptr 0 (.lit 0))]
def dnM : Mem := [⟨105, [.one .nilSlc, .run .i64 (.lit 16) (.tab []) 0, .one (.int .i64 (.lit 0)), .one (.int .i64 (.lit 0))], true, none, false⟩]

def dnO : Mem := [⟨105, [.one (.nilSlc), .run .i64 (.lit 16) (.tab []) 0, .one (.int .i64 (.lit 0)), .one (.int .i64 (.lit 0))], true, none, false⟩, ⟨5, [.one (.int .u8 (.lit 76)), .one (.int .u8 (.lit 65)), .one (.int .u8 (.lit 78)), .one (.int .u8 (.lit 84)), .one (.int .u8 (.lit 1)), .one (.int .u8 (.lit 0)), .one (.int .u8 (.lit 0)), .one (.int .u8 (.lit 0)), .one (.int .u8 (.lit 0)), .one (.int .u8 (.lit 1)), .one (.int .u8 (.lit 0)), .one (.int .u8 (.lit 0)), .one (.int .u8 (.lit 0))], true, some 1, false⟩]
def dnS : Go.Sx.Spec := memoG (findG 0 0 0 dnL dnM) dnH dnL dnM [] (.tup [(false, [.one (.slc 1 (.lit 0) (.lit 13) (.op (.lit 0)))]), (false, [.one (.int .i64 (.lit 0))])]) (some dnO)
set_option maxHeartbeats 4000000 in
theorem dnrun : enter Try.prog SG SGh 3000 40 34 dnH dnL dnM = some ([], .tup [(false, [.one (.slc 1 (.lit 0) (.lit 13) (.op (.lit 0)))]), (false, [.one (.int .i64 (.lit 0))])], some dnO) := by kernel_rfl
theorem dnok (xs : Nat → Nat → Ext) : SpecOK Try.prog (Iv xs) 34 dnS := memoG_ok (enter_ok (SG_ok xs) (by kernel_rfl) 3000 40) dnrun
end Go.Proofs.Ytjegnoknenahpaa
