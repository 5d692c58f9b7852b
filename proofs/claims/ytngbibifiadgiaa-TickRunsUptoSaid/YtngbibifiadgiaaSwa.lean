/- Contracts of a writer, each one run with unknown contents, for any contents: a byte is put; what was put, of 28 bytes, is done. No condition. -/
import Derived.Test.YtngbibifiadgiaaRows
import Derived.Test.YtngbibifiadgiaaRw
import Derived.Test.YtngbibifiadgiaaSxC
namespace Go.Proofs.Ytngbibifiadgiaa
open Go.Sx Go.ChangeShapes Go.WideShapes Go.ChangeAt Go.RowKit
set_option linter.unusedVariables false
set_option maxRecDepth 100000
noncomputable def SG : Ctx := inlS Try.prog [] (ctx [(47, specSum), (54, specSum), (21, specBytes)]) 3000 40 12
noncomputable def SGh : HintCtx := inlSH Try.prog [] (ctx [(47, specSum), (54, specSum), (21, specBytes)]) 3000 40 12
theorem SG_ok (xs : Nat → Nat → Ext) : CtxOK Try.prog (Iv xs) SG := inlS_ok (ctx_ok (fun p hp => by
  simp only [List.mem_cons, List.not_mem_nil, or_false] at hp
  rcases hp with rfl | rfl | rfl
  · exact specSum_ok csok rfl
  · exact specSum_ok crok rfl
  · exact specBytes_ok cbok
 )) (by kernel_rfl) 3000 40 12
def wbH : Hyp := ⟨[(.v 0, (1, 1048576)), (.v 1, (0, 255))], [(0, (0, 255)), (1, (-9223372036854775808, 9223372036854775807))], [(10, (0, 4294967295))], [], [], []⟩
def wbL : List SV := [.s (.ptr 0 (.lit 0)), .s (.int .u8 (.v 1))]
def wbM : Mem := [⟨95, [.one (.slc 1 (.lit 0) (.v 0) (.op (.lit 0))), .run .i64 (.lit 16) (.av 1) 0, .one (.int .i64 (.v 2)), .one (.int .i64 (.lit 0))], true, none, false⟩, ⟨5, [.run .u8 (.v 0) (.av 0) 0], true, some 1, false⟩]
def wb0 : E := .add (.v 0) (.lit 1)
def wb1 : E := .upd (.av 0) (.v 0) (.v 1)
def wbO : Mem := [⟨95, [.one (.slc 2 (.lit 0) wb0 (.op (.lit 0))), .run .i64 (.lit 16) (.av 1) 0, .one (.int .i64 (.v 2)), .one (.int .i64 (.lit 0))], true, none, false⟩, ⟨5, [.run .u8 (.v 0) (.av 0) 0], true, some 1, true⟩, ⟨5, [.run .u8 wb0 wb1 0], true, some 1, false⟩]
def wbS : Go.Sx.Spec := memoG (findG 3 0 2 wbL wbM) wbH wbL wbM [] (.tup []) (some wbO)
set_option maxHeartbeats 4000000 in
theorem wbrun : enter Try.prog SG SGh 3000 40 50 wbH wbL wbM = some ([], .tup [], some wbO) := by kernel_rfl
theorem wbok (xs : Nat → Nat → Ext) : SpecOK Try.prog (Iv xs) 50 wbS := memoG_ok (enter_ok (SG_ok xs) (by kernel_rfl) 3000 40) wbrun
def dnH : Hyp := ⟨[], [(0, (0, 255)), (1, (-9223372036854775808, 9223372036854775807))], [(10, (0, 4294967295))], [], [], []⟩
def dnL : List SV := [.s (.ptr 0 (.lit 0))]
def dnM : Mem := [⟨95, [.one (.slc 1 (.lit 0) (.lit 28) (.op (.lit 0))), .run .i64 (.lit 16) (.av 1) 0, .one (.int .i64 (.lit 0)), .one (.int .i64 (.lit 0))], true, none, false⟩, ⟨5, [.run .u8 (.lit 28) (.av 0) 0], true, some 1, false⟩]
def dn0 : E := .sel (.av 0) (.lit 0)
def dn1 : E := .upd (.tab []) (.lit 0) dn0
def dn2 : E := .sel (.av 0) (.lit 1)
def dn3 : E := .upd dn1 (.lit 1) dn2
def dn4 : E := .sel (.av 0) (.lit 2)
def dn5 : E := .upd dn3 (.lit 2) dn4
def dn6 : E := .sel (.av 0) (.lit 3)
def dn7 : E := .upd dn5 (.lit 3) dn6
def dn8 : E := .sel (.av 0) (.lit 4)
def dn9 : E := .upd dn7 (.lit 4) dn8
def dn10 : E := .sel (.av 0) (.lit 5)
def dn11 : E := .upd dn9 (.lit 5) dn10
def dn12 : E := .sel (.av 0) (.lit 6)
def dn13 : E := .upd dn11 (.lit 6) dn12
def dn14 : E := .sel (.av 0) (.lit 7)
def dn15 : E := .upd dn13 (.lit 7) dn14
def dn16 : E := .sel (.av 0) (.lit 8)
def dn17 : E := .upd dn15 (.lit 8) dn16
def dn18 : E := .sel (.av 0) (.lit 9)
def dn19 : E := .upd dn17 (.lit 9) dn18
def dn20 : E := .sel (.av 0) (.lit 10)
def dn21 : E := .upd dn19 (.lit 10) dn20
def dn22 : E := .sel (.av 0) (.lit 11)
def dn23 : E := .upd dn21 (.lit 11) dn22
def dn24 : E := .sel (.av 0) (.lit 12)
def dn25 : E := .upd dn23 (.lit 12) dn24
def dn26 : E := .sel (.av 0) (.lit 13)
def dn27 : E := .upd dn25 (.lit 13) dn26
def dn28 : E := .sel (.av 0) (.lit 14)
def dn29 : E := .upd dn27 (.lit 14) dn28
def dn30 : E := .sel (.av 0) (.lit 15)
def dn31 : E := .upd dn29 (.lit 15) dn30
def dn32 : E := .sel (.av 0) (.lit 16)
def dn33 : E := .upd dn31 (.lit 16) dn32
def dn34 : E := .sel (.av 0) (.lit 17)
def dn35 : E := .upd dn33 (.lit 17) dn34
def dn36 : E := .sel (.av 0) (.lit 18)
def dn37 : E := .upd dn35 (.lit 18) dn36
def dn38 : E := .sel (.av 0) (.lit 19)
def dn39 : E := .upd dn37 (.lit 19) dn38
def dn40 : E := .sel (.av 0) (.lit 20)
def dn41 : E := .upd dn39 (.lit 20) dn40
def dn42 : E := .sel (.av 0) (.lit 21)
def dn43 : E := .upd dn41 (.lit 21) dn42
def dn44 : E := .sel (.av 0) (.lit 22)
def dn45 : E := .upd dn43 (.lit 22) dn44
def dn46 : E := .sel (.av 0) (.lit 23)
def dn47 : E := .upd dn45 (.lit 23) dn46
def dn48 : E := .sel (.av 0) (.lit 24)
def dn49 : E := .upd dn47 (.lit 24) dn48
def dn50 : E := .sel (.av 0) (.lit 25)
def dn51 : E := .upd dn49 (.lit 25) dn50
def dn52 : E := .sel (.av 0) (.lit 26)
def dn53 : E := .upd dn51 (.lit 26) dn52
def dn54 : E := .sel (.av 0) (.lit 27)
def dn55 : E := .upd dn53 (.lit 27) dn54
def dn56 : E := .app 10 (.cons (.lit 28) (.cons dn55 .nil))
def dn57 : E := .mod dn56 (.lit 256)
def dn58 : E := .div dn56 (.lit 256)
def dn59 : E := .mod dn58 (.lit 256)
def dn60 : E := .div dn56 (.lit 65536)
def dn61 : E := .mod dn60 (.lit 256)
def dn62 : E := .div dn56 (.lit 16777216)
def dnO : Mem := [⟨95, [.one (.slc 1 (.lit 0) (.lit 28) (.op (.lit 0))), .run .i64 (.lit 16) (.av 1) 0, .one (.int .i64 (.lit 0)), .one (.int .i64 (.lit 0))], true, none, false⟩, ⟨5, [.run .u8 (.lit 28) (.av 0) 0], true, some 1, false⟩, ⟨5, [.one (.int .u8 (.lit 76)), .one (.int .u8 (.lit 65)), .one (.int .u8 (.lit 78)), .one (.int .u8 (.lit 84)), .one (.int .u8 (.lit 1)), .one (.int .u8 (.lit 28)), .one (.int .u8 (.lit 0)), .one (.int .u8 (.lit 0)), .one (.int .u8 (.lit 0)), .one (.int .u8 dn57), .one (.int .u8 dn59), .one (.int .u8 dn61), .one (.int .u8 dn62), .one (.int .u8 dn0), .one (.int .u8 dn2), .one (.int .u8 dn4), .one (.int .u8 dn6), .one (.int .u8 dn8), .one (.int .u8 dn10), .one (.int .u8 dn12), .one (.int .u8 dn14), .one (.int .u8 dn16), .one (.int .u8 dn18), .one (.int .u8 dn20), .one (.int .u8 dn22), .one (.int .u8 dn24), .one (.int .u8 dn26), .one (.int .u8 dn28), .one (.int .u8 dn30), .one (.int .u8 dn32), .one (.int .u8 dn34), .one (.int .u8 dn36), .one (.int .u8 dn38), .one (.int .u8 dn40), .one (.int .u8 dn42), .one (.int .u8 dn44), .one (.int .u8 dn46), .one (.int .u8 dn48), .one (.int .u8 dn50), .one (.int .u8 dn52), .one (.int .u8 dn54)], true, some 1, false⟩]
def dnS : Go.Sx.Spec := memoG (findG 0 0 2 dnL dnM) dnH dnL dnM [] (.tup [(false, [.one (.slc 2 (.lit 0) (.lit 41) (.op (.lit 0)))]), (false, [.one (.int .i64 (.lit 0))])]) (some dnO)
set_option maxHeartbeats 4000000 in
theorem dnrun : enter Try.prog SG SGh 3000 40 36 dnH dnL dnM = some ([], .tup [(false, [.one (.slc 2 (.lit 0) (.lit 41) (.op (.lit 0)))]), (false, [.one (.int .i64 (.lit 0))])], some dnO) := by kernel_rfl
theorem dnok (xs : Nat → Nat → Ext) : SpecOK Try.prog (Iv xs) 36 dnS := memoG_ok (enter_ok (SG_ok xs) (by kernel_rfl) 3000 40) dnrun
end Go.Proofs.Ytngbibifiadgiaa
