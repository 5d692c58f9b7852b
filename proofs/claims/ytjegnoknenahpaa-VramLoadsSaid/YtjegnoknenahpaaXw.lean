/- Contracts of a writer, each one run with unknown contents, for any contents. No condition. -/
import Derived.Test.YtjegnoknenahpaaRows
import Derived.Test.YtjegnoknenahpaaRw
namespace Go.Proofs.Ytjegnoknenahpaa
open Go.Sx Go.ChangeShapes Go.WideShapes Go.ChangeAt Go.RowKit
set_option linter.unusedVariables false
set_option linter.unusedSimpArgs false
set_option maxRecDepth 100000
noncomputable def SG : Ctx := inlS Try.prog [] (ctx [(50, specSumR), (19, specCopy 5), (24, specBytes)]) 3000 40 12
noncomputable def SGh : HintCtx := inlSH Try.prog [] (ctx [(50, specSumR), (19, specCopy 5), (24, specBytes)]) 3000 40 12
theorem SG_ok (xs : Nat → Nat → Ext) : CtxOK Try.prog (Iv xs) SG := inlS_ok (ctx_ok (fun p hp => by
  simp only [List.mem_cons, List.not_mem_nil, or_false] at hp
  rcases hp with rfl | rfl | rfl
  · exact specSumR_ok csok rfl
  · exact specCopy_ok ccok
  · exact specBytes_ok cbok
 )) (by kernel_rfl) 3000 40 12
def wbH : Hyp := ⟨[(.v 0, (1, 4000000)), (.v 3, (0, 0)), (.v 1, (0, 255))], [(0, (0, 255)), (1, (-9223372036854775808, 9223372036854775807))], [(10, (0, 4294967295))], [], [], []⟩
def wbL : List SV := [.s (.ptr 0 (.lit 0)), .s (.int .u8 (.v 1))]
def wbM : Mem := [⟨105, [.one (.slc 1 (.lit 0) (.v 0) (.op (.lit 0))), .run .i64 (.lit 16) (.av 1) 0, .one (.int .i64 (.v 2)), .one (.int .i64 (.v 3))], true, none, false⟩, ⟨5, [.run .u8 (.v 0) (.av 0) 0], true, some 1, false⟩]
def wb0 : E := .add (.v 0) (.lit 1)
def wb1 : E := .upd (.av 0) (.v 0) (.v 1)
def wbO : Mem := [⟨105, [.one (.slc 2 (.lit 0) wb0 (.op (.lit 0))), .run .i64 (.lit 16) (.av 1) 0, .one (.int .i64 (.v 2)), .one (.int .i64 (.v 3))], true, none, false⟩, ⟨5, [.run .u8 (.v 0) (.av 0) 0], true, some 1, true⟩, ⟨5, [.run .u8 wb0 wb1 0], true, some 1, false⟩]
def wbS : Go.Sx.Spec := memoG (findG 4 0 2 wbL wbM) wbH wbL wbM [] (.tup []) (some wbO)
set_option maxHeartbeats 4000000 in
theorem wbrun : enter Try.prog SG SGh 3000 40 46 wbH wbL wbM = some ([], .tup [], some wbO) := by kernel_rfl
theorem wbok (xs : Nat → Nat → Ext) : SpecOK Try.prog (Iv xs) 46 wbS := memoG_ok (enter_ok (SG_ok xs) (by kernel_rfl) 3000 40) wbrun
def wwH : Hyp := ⟨[(.v 0, (1, 4000000)), (.v 3, (0, 0)), (.v 1, (0, 65535))], [(0, (0, 255)), (1, (-9223372036854775808, 9223372036854775807))], [(10, (0, 4294967295))], [], [], []⟩
def wwL : List SV := [.s (.ptr 0 (.lit 0)), .s (.int .u16 (.v 1))]
def wwM : Mem := [⟨105, [.one (.slc 1 (.lit 0) (.v 0) (.op (.lit 0))), .run .i64 (.lit 16) (.av 1) 0, .one (.int .i64 (.v 2)), .one (.int .i64 (.v 3))], true, none, false⟩, ⟨5, [.run .u8 (.v 0) (.av 0) 0], true, some 1, false⟩]
def ww0 : E := .add (.v 0) (.lit 2)
def ww1 : E := .mod (.v 1) (.lit 256)
def ww2 : E := .upd (.av 0) (.v 0) ww1
def ww3 : E := .add (.v 0) (.lit 1)
def ww4 : E := .div (.v 1) (.lit 256)
def ww5 : E := .upd ww2 ww3 ww4
def wwO : Mem := [⟨105, [.one (.slc 2 (.lit 0) ww0 (.op (.lit 0))), .run .i64 (.lit 16) (.av 1) 0, .one (.int .i64 (.v 2)), .one (.int .i64 (.v 3))], true, none, false⟩, ⟨5, [.run .u8 (.v 0) (.av 0) 0], true, some 1, true⟩, ⟨5, [.run .u8 ww0 ww5 0], true, some 1, false⟩]
def wwS : Go.Sx.Spec := memoG (findG 4 0 2 wwL wwM) wwH wwL wwM [] (.tup []) (some wwO)
set_option maxHeartbeats 4000000 in
theorem wwrun : enter Try.prog SG SGh 3000 40 45 wwH wwL wwM = some ([], .tup [], some wwO) := by kernel_rfl
theorem wwok (xs : Nat → Nat → Ext) : SpecOK Try.prog (Iv xs) 45 wwS := memoG_ok (enter_ok (SG_ok xs) (by kernel_rfl) 3000 40) wwrun
def wfH : Hyp := ⟨[(.v 0, (1, 4000000)), (.v 2, (0, 0))], [(0, (0, 255)), (1, (-9223372036854775808, 9223372036854775807))], [(10, (0, 4294967295))], [], [], []⟩
def wfL : List SV := [.s (.ptr 0 (.lit 0)), .s (.bool (.bv 0))]
def wfM : Mem := [⟨105, [.one (.slc 1 (.lit 0) (.v 0) (.op (.lit 0))), .run .i64 (.lit 16) (.av 1) 0, .one (.int .i64 (.v 1)), .one (.int .i64 (.v 2))], true, none, false⟩, ⟨5, [.run .u8 (.v 0) (.av 0) 0], true, some 1, false⟩]
def wf0 : E := .add (.v 0) (.lit 1)
def wf1 : E := .ite (.bv 0) (.lit 1) (.lit 0)
def wf2 : E := .upd (.av 0) (.v 0) wf1
def wfO : Mem := [⟨105, [.one (.slc 2 (.lit 0) wf0 (.op (.lit 0))), .run .i64 (.lit 16) (.av 1) 0, .one (.int .i64 (.v 1)), .one (.int .i64 (.v 2))], true, none, false⟩, ⟨5, [.run .u8 (.v 0) (.av 0) 0], true, some 1, true⟩, ⟨5, [.run .u8 wf0 wf2 0], true, some 1, false⟩]
def wfS : Go.Sx.Spec := memoG (findG 3 1 2 wfL wfM) wfH wfL wfM [] (.tup []) (some wfO)
set_option maxHeartbeats 4000000 in
theorem wfrun : enter Try.prog SG SGh 3000 40 47 wfH wfL wfM = some ([], .tup [], some wfO) := by kernel_rfl
theorem wfok (xs : Nat → Nat → Ext) : SpecOK Try.prog (Iv xs) 47 wfS := memoG_ok (enter_ok (SG_ok xs) (by kernel_rfl) 3000 40) wfrun
def wyH : Hyp := ⟨[(.v 0, (1, 4000000)), (.v 3, (0, 0)), (.v 2, (0, 1048575))], [(0, (0, 255)), (1, (-9223372036854775808, 9223372036854775807)), (2, (0, 255))], [(10, (0, 4294967295))], [], [], []⟩
def wyL : List SV := [.s (.ptr 0 (.lit 0)), .s (.slc 2 (.lit 0) (.v 2) (.kn (.v 2)))]
def wyM : Mem := [⟨105, [.one (.slc 1 (.lit 0) (.v 0) (.op (.lit 0))), .run .i64 (.lit 16) (.av 1) 0, .one (.int .i64 (.v 1)), .one (.int .i64 (.v 3))], true, none, false⟩, ⟨5, [.run .u8 (.v 0) (.av 0) 0], true, some 1, false⟩, ⟨5, [.run .u8 (.v 2) (.av 2) 0], true, none, false⟩]
def wy0 : E := .add (.v 0) (.v 2)
def wy1 : E := .add wy0 (.lit 4)
def wy2 : E := .add (.v 2) (.lit 4)
def wy3 : E := .mod (.v 2) (.lit 256)
def wy4 : E := .upd (.tab []) (.lit 0) wy3
def wy5 : E := .div (.v 2) (.lit 256)
def wy6 : E := .mod wy5 (.lit 256)
def wy7 : E := .upd wy4 (.lit 1) wy6
def wy8 : E := .div (.v 2) (.lit 65536)
def wy9 : E := .upd wy7 (.lit 2) wy8
def wy10 : E := .upd wy9 (.lit 3) (.lit 0)
def wy11 : E := .blt wy10 (.lit 4) (.v 2) (.av 2) (.lit 0)
def wy12 : E := .blt (.av 0) (.v 0) wy2 wy11 (.lit 0)
def wyO : Mem := [⟨105, [.one (.slc 3 (.lit 0) wy1 (.op (.lit 0))), .run .i64 (.lit 16) (.av 1) 0, .one (.int .i64 (.v 1)), .one (.int .i64 (.v 3))], true, none, false⟩, ⟨5, [.run .u8 (.v 0) (.av 0) 0], true, some 1, true⟩, ⟨5, [.run .u8 (.v 2) (.av 2) 0], true, none, false⟩, ⟨5, [.run .u8 wy1 wy12 0], true, some 1, false⟩]
def wyS : Go.Sx.Spec := memoG (findG 4 0 3 wyL wyM) wyH wyL wyM [] (.tup []) (some wyO)
set_option maxHeartbeats 4000000 in
theorem wyrun : enter Try.prog SG SGh 3000 40 44 wyH wyL wyM = some ([], .tup [], some wyO) := by kernel_rfl
theorem wyok (xs : Nat → Nat → Ext) : SpecOK Try.prog (Iv xs) 44 wyS := memoG_ok (enter_ok (SG_ok xs) (by kernel_rfl) 3000 40) wyrun
def wgH : Hyp := ⟨[(.v 0, (1, 4000000)), (.v 3, (0, 0)), (.v 2, (0, 1048575))], [(0, (0, 255)), (1, (-9223372036854775808, 9223372036854775807)), (2, (0, 255))], [(10, (0, 4294967295))], [], [], []⟩
def wgL : List SV := [.s (.ptr 0 (.lit 0)), .s (.slc 2 (.lit 0) (.v 2) (.op (.lit 0)))]
def wgM : Mem := [⟨105, [.one (.slc 1 (.lit 0) (.v 0) (.op (.lit 0))), .run .i64 (.lit 16) (.av 1) 0, .one (.int .i64 (.v 1)), .one (.int .i64 (.v 3))], true, none, false⟩, ⟨5, [.run .u8 (.v 0) (.av 0) 0], true, some 1, false⟩, ⟨5, [.run .u8 (.v 2) (.av 2) 0], true, some 1, false⟩]
def wg0 : E := .add (.v 0) (.v 2)
def wg1 : E := .add wg0 (.lit 4)
def wg2 : E := .add (.v 2) (.lit 4)
def wg3 : E := .mod (.v 2) (.lit 256)
def wg4 : E := .upd (.tab []) (.lit 0) wg3
def wg5 : E := .div (.v 2) (.lit 256)
def wg6 : E := .mod wg5 (.lit 256)
def wg7 : E := .upd wg4 (.lit 1) wg6
def wg8 : E := .div (.v 2) (.lit 65536)
def wg9 : E := .upd wg7 (.lit 2) wg8
def wg10 : E := .upd wg9 (.lit 3) (.lit 0)
def wg11 : E := .blt wg10 (.lit 4) (.v 2) (.av 2) (.lit 0)
def wg12 : E := .blt (.av 0) (.v 0) wg2 wg11 (.lit 0)
def wgO : Mem := [⟨105, [.one (.slc 3 (.lit 0) wg1 (.op (.lit 0))), .run .i64 (.lit 16) (.av 1) 0, .one (.int .i64 (.v 1)), .one (.int .i64 (.v 3))], true, none, false⟩, ⟨5, [.run .u8 (.v 0) (.av 0) 0], true, some 1, true⟩, ⟨5, [.run .u8 (.v 2) (.av 2) 0], true, some 1, false⟩, ⟨5, [.run .u8 wg1 wg12 0], true, some 1, false⟩]
def wgS : Go.Sx.Spec := memoG (findG 4 0 3 wgL wgM) wgH wgL wgM [] (.tup []) (some wgO)
set_option maxHeartbeats 4000000 in
theorem wgrun : enter Try.prog SG SGh 3000 40 44 wgH wgL wgM = some ([], .tup [], some wgO) := by kernel_rfl
theorem wgok (xs : Nat → Nat → Ext) : SpecOK Try.prog (Iv xs) 44 wgS := memoG_ok (enter_ok (SG_ok xs) (by kernel_rfl) 3000 40) wgrun
def zbH : Hyp := ⟨[(.v 1, (0, 0)), (.v 0, (0, 255))], [(0, (-9223372036854775808, 9223372036854775807))], [(10, (0, 4294967295))], [], [], []⟩
def zbL : List SV := [.s (.ptr 0 (.lit 0)), .s (.int .u8 (.v 0))]
def zbM : Mem := [⟨105, [.one .nilSlc, .run .i64 (.lit 16) (.av 0) 0, .one (.int .i64 (.lit 0)), .one (.int .i64 (.v 1))], true, none, false⟩]

def zbO : Mem := [⟨105, [.one (.slc 1 (.lit 0) (.lit 1) (.op (.lit 0))), .run .i64 (.lit 16) (.av 0) 0, .one (.int .i64 (.lit 0)), .one (.int .i64 (.v 1))], true, none, false⟩, ⟨5, [.one (.int .u8 (.v 0))], true, some 1, false⟩]
def zbS : Go.Sx.Spec := memoG (findG 2 0 1 zbL zbM) zbH zbL zbM [] (.tup []) (some zbO)
set_option maxHeartbeats 4000000 in
theorem zbrun : enter Try.prog SG SGh 3000 40 46 zbH zbL zbM = some ([], .tup [], some zbO) := by kernel_rfl
theorem zbok (xs : Nat → Nat → Ext) : SpecOK Try.prog (Iv xs) 46 zbS := memoG_ok (enter_ok (SG_ok xs) (by kernel_rfl) 3000 40) zbrun
def zwH : Hyp := ⟨[(.v 1, (0, 0)), (.v 0, (0, 65535))], [(0, (-9223372036854775808, 9223372036854775807))], [(10, (0, 4294967295))], [], [], []⟩
def zwL : List SV := [.s (.ptr 0 (.lit 0)), .s (.int .u16 (.v 0))]
def zwM : Mem := [⟨105, [.one .nilSlc, .run .i64 (.lit 16) (.av 0) 0, .one (.int .i64 (.lit 0)), .one (.int .i64 (.v 1))], true, none, false⟩]
def zw0 : E := .mod (.v 0) (.lit 256)
def zw1 : E := .div (.v 0) (.lit 256)
def zwO : Mem := [⟨105, [.one (.slc 1 (.lit 0) (.lit 2) (.op (.lit 0))), .run .i64 (.lit 16) (.av 0) 0, .one (.int .i64 (.lit 0)), .one (.int .i64 (.v 1))], true, none, false⟩, ⟨5, [.one (.int .u8 zw0), .one (.int .u8 zw1)], true, some 1, false⟩]
def zwS : Go.Sx.Spec := memoG (findG 2 0 1 zwL zwM) zwH zwL zwM [] (.tup []) (some zwO)
set_option maxHeartbeats 4000000 in
theorem zwrun : enter Try.prog SG SGh 3000 40 45 zwH zwL zwM = some ([], .tup [], some zwO) := by kernel_rfl
theorem zwok (xs : Nat → Nat → Ext) : SpecOK Try.prog (Iv xs) 45 zwS := memoG_ok (enter_ok (SG_ok xs) (by kernel_rfl) 3000 40) zwrun
def zyH : Hyp := ⟨[(.v 1, (0, 0)), (.v 0, (0, 1048575))], [(0, (-9223372036854775808, 9223372036854775807)), (1, (0, 255))], [(10, (0, 4294967295))], [], [], []⟩
def zyL : List SV := [.s (.ptr 0 (.lit 0)), .s (.slc 1 (.lit 0) (.v 0) (.kn (.v 0)))]
def zyM : Mem := [⟨105, [.one .nilSlc, .run .i64 (.lit 16) (.av 0) 0, .one (.int .i64 (.lit 0)), .one (.int .i64 (.v 1))], true, none, false⟩, ⟨5, [.run .u8 (.v 0) (.av 1) 0], true, none, false⟩]
def zy0 : E := .add (.v 0) (.lit 4)
def zy1 : E := .mod (.v 0) (.lit 256)
def zy2 : E := .upd (.tab []) (.lit 0) zy1
def zy3 : E := .div (.v 0) (.lit 256)
def zy4 : E := .mod zy3 (.lit 256)
def zy5 : E := .upd zy2 (.lit 1) zy4
def zy6 : E := .div (.v 0) (.lit 65536)
def zy7 : E := .upd zy5 (.lit 2) zy6
def zy8 : E := .upd zy7 (.lit 3) (.lit 0)
def zy9 : E := .blt zy8 (.lit 4) (.v 0) (.av 1) (.lit 0)
def zyO : Mem := [⟨105, [.one (.slc 2 (.lit 0) zy0 (.op (.lit 0))), .run .i64 (.lit 16) (.av 0) 0, .one (.int .i64 (.lit 0)), .one (.int .i64 (.v 1))], true, none, false⟩, ⟨5, [.run .u8 (.v 0) (.av 1) 0], true, none, false⟩, ⟨5, [.run .u8 zy0 zy9 0], true, some 1, false⟩]
def zyS : Go.Sx.Spec := memoG (findG 2 0 2 zyL zyM) zyH zyL zyM [] (.tup []) (some zyO)
set_option maxHeartbeats 4000000 in
theorem zyrun : enter Try.prog SG SGh 3000 40 44 zyH zyL zyM = some ([], .tup [], some zyO) := by kernel_rfl
theorem zyok (xs : Nat → Nat → Ext) : SpecOK Try.prog (Iv xs) 44 zyS := memoG_ok (enter_ok (SG_ok xs) (by kernel_rfl) 3000 40) zyrun
def dnH : Hyp := ⟨[(.v 0, (1, 4000000)), (.v 1, (0, 0)), (.v 2, (0, 0))], [(0, (0, 255)), (1, (-9223372036854775808, 9223372036854775807))], [(10, (0, 4294967295))], [], [], []⟩
def dnL : List SV := [.s (.ptr 0 (.lit 0))]
def dnM : Mem := [⟨105, [.one (.slc 1 (.lit 0) (.v 0) (.op (.lit 0))), .run .i64 (.lit 16) (.av 1) 0, .one (.int .i64 (.v 1)), .one (.int .i64 (.v 2))], true, none, false⟩, ⟨5, [.run .u8 (.v 0) (.av 0) 0], true, some 1, false⟩]
def dn0 : E := .add (.v 0) (.lit 13)
def dn1 : E := .upd (.tab []) (.lit 0) (.lit 76)
def dn2 : E := .upd dn1 (.lit 1) (.lit 65)
def dn3 : E := .upd dn2 (.lit 2) (.lit 78)
def dn4 : E := .upd dn3 (.lit 3) (.lit 84)
def dn5 : E := .upd dn4 (.lit 4) (.lit 1)
def dn6 : E := .mod (.v 0) (.lit 256)
def dn7 : E := .upd dn5 (.lit 5) dn6
def dn8 : E := .div (.v 0) (.lit 256)
def dn9 : E := .mod dn8 (.lit 256)
def dn10 : E := .upd dn7 (.lit 6) dn9
def dn11 : E := .div (.v 0) (.lit 65536)
def dn12 : E := .upd dn10 (.lit 7) dn11
def dn13 : E := .upd dn12 (.lit 8) (.lit 0)
def dn14 : E := .app 10 (.cons (.v 0) (.cons (.av 0) .nil))
def dn15 : E := .mod dn14 (.lit 256)
def dn16 : E := .upd dn13 (.lit 9) dn15
def dn17 : E := .div dn14 (.lit 256)
def dn18 : E := .mod dn17 (.lit 256)
def dn19 : E := .upd dn16 (.lit 10) dn18
def dn20 : E := .div dn14 (.lit 65536)
def dn21 : E := .mod dn20 (.lit 256)
def dn22 : E := .upd dn19 (.lit 11) dn21
def dn23 : E := .div dn14 (.lit 16777216)
def dn24 : E := .upd dn22 (.lit 12) dn23
def dn25 : E := .blt dn24 (.lit 13) (.v 0) (.av 0) (.lit 0)
def dnO : Mem := [⟨105, [.one (.slc 1 (.lit 0) (.v 0) (.op (.lit 0))), .run .i64 (.lit 16) (.av 1) 0, .one (.int .i64 (.v 1)), .one (.int .i64 (.v 2))], true, none, false⟩, ⟨5, [.run .u8 (.v 0) (.av 0) 0], true, some 1, false⟩, ⟨5, [.run .u8 dn0 dn25 0], true, some 1, false⟩]
def dnS : Go.Sx.Spec := memoG (findG 3 0 2 dnL dnM) dnH dnL dnM [] (.tup [(false, [.one (.slc 2 (.lit 0) dn0 (.op (.lit 0)))]), (false, [.one (.int .i64 (.lit 0))])]) (some dnO)
set_option maxHeartbeats 4000000 in
theorem dnrun : enter Try.prog SG SGh 3000 40 34 dnH dnL dnM = some ([], .tup [(false, [.one (.slc 2 (.lit 0) dn0 (.op (.lit 0)))]), (false, [.one (.int .i64 (.lit 0))])], some dnO) := by kernel_rfl
theorem dnok (xs : Nat → Nat → Ext) : SpecOK Try.prog (Iv xs) 34 dnS := memoG_ok (enter_ok (SG_ok xs) (by kernel_rfl) 3000 40) dnrun
def zmH : Hyp := ⟨[(.v 0, (0, 65535)), (.v 1, (0, 65535)), (.v 2, (0, 255)), (.v 3, (0, 255)), (.v 4, (0, 65535)), (.v 5, (0, 65535)), (.v 6, (0, 65535)), (.v 7, (0, 255)), (.v 8, (544, 544)), (.v 9, (0, 0))], [(0, (0, 65535)), (1, (0, 255)), (2, (0, 65535)), (3, (-9223372036854775808, 9223372036854775807))], [(10, (0, 4294967295))], [(50, (0, 255))], [], []⟩
def zmL : List SV := [.s (.ptr 0 (.lit 0)), .s (.slc 1 (.lit 32768) (.v 8) (.kn (.v 8)))]
def zmM : Mem := [⟨105, [.one .nilSlc, .run .i64 (.lit 16) (.av 3) 0, .one (.int .i64 (.lit 0)), .one (.int .i64 (.v 9))], true, none, false⟩, ⟨75, [.run .u16 (.lit 32768) (.av 0) 0, .run .u8 (.v 8) (.av 1) 0, .run .u16 (.lit 256) (.av 2) 0, .one (.int .u16 (.v 0)), .one (.bool (.bv 0)), .one (.int .u16 (.v 1)), .one (.int .u8 (.v 2)), .one (.int .u8 (.v 3)), .one (.int .u16 (.v 4)), .one (.int .u16 (.v 5)), .one (.int .u16 (.v 6)), .one (.int .u8 (.v 7))], true, none, false⟩]
def zm0 : E := .add (.v 8) (.lit 4)
def zm1 : E := .mod (.v 8) (.lit 256)
def zm2 : E := .upd (.tab []) (.lit 0) zm1
def zm3 : E := .div (.v 8) (.lit 256)
def zm4 : E := .upd zm2 (.lit 1) zm3
def zm5 : E := .upd zm4 (.lit 2) (.lit 0)
def zm6 : E := .upd zm5 (.lit 3) (.lit 0)
def zm7 : E := .blt zm6 (.lit 4) (.v 8) (.av 1) (.lit 0)
def zmO : Mem := [⟨105, [.one (.slc 2 (.lit 0) zm0 (.op (.lit 0))), .run .i64 (.lit 16) (.av 3) 0, .one (.int .i64 (.lit 0)), .one (.int .i64 (.v 9))], true, none, false⟩, ⟨75, [.run .u16 (.lit 32768) (.av 0) 0, .run .u8 (.v 8) (.av 1) 0, .run .u16 (.lit 256) (.av 2) 0, .one (.int .u16 (.v 0)), .one (.bool (.bv 0)), .one (.int .u16 (.v 1)), .one (.int .u8 (.v 2)), .one (.int .u8 (.v 3)), .one (.int .u16 (.v 4)), .one (.int .u16 (.v 5)), .one (.int .u16 (.v 6)), .one (.int .u8 (.v 7))], true, none, false⟩, ⟨5, [.run .u8 zm0 zm7 0], true, some 1, false⟩]
def zmS : Go.Sx.Spec := memoG (findG 10 1 4 zmL zmM) zmH zmL zmM [] (.tup []) (some zmO)
set_option maxHeartbeats 4000000 in
theorem zmrun : enter Try.prog SG SGh 3000 40 44 zmH zmL zmM = some ([], .tup [], some zmO) := by kernel_rfl
theorem zmok (xs : Nat → Nat → Ext) : SpecOK Try.prog (Iv xs) 44 zmS := memoG_ok (enter_ok (SG_ok xs) (by kernel_rfl) 3000 40) zmrun
def wk1H : Hyp := ⟨[(.v 0, (1, 4000000)), (.v 3, (0, 0)), (.v 2, (511, 511))], [(0, (0, 255)), (1, (-9223372036854775808, 9223372036854775807)), (2, (0, 255))], [(10, (0, 4294967295))], [], [], []⟩
def wk1L : List SV := [.s (.ptr 0 (.lit 0)), .s (.slc 2 (.lit 1) (.v 2) (.op (.lit 1)))]
def wk1M : Mem := [⟨105, [.one (.slc 1 (.lit 0) (.v 0) (.op (.lit 0))), .run .i64 (.lit 16) (.av 1) 0, .one (.int .i64 (.v 1)), .one (.int .i64 (.v 3))], true, none, false⟩, ⟨5, [.run .u8 (.v 0) (.av 0) 0], true, some 1, false⟩, ⟨5, [.run .u8 (.lit 512) (.av 2) 0], true, some 1, false⟩]
def wk10 : E := .add (.v 0) (.v 2)
def wk11 : E := .add wk10 (.lit 4)
def wk12 : E := .add (.v 2) (.lit 4)
def wk13 : E := .mod (.v 2) (.lit 256)
def wk14 : E := .upd (.tab []) (.lit 0) wk13
def wk15 : E := .div (.v 2) (.lit 256)
def wk16 : E := .upd wk14 (.lit 1) wk15
def wk17 : E := .upd wk16 (.lit 2) (.lit 0)
def wk18 : E := .upd wk17 (.lit 3) (.lit 0)
def wk19 : E := .blt wk18 (.lit 4) (.v 2) (.av 2) (.lit 1)
def wk110 : E := .blt (.av 0) (.v 0) wk12 wk19 (.lit 0)
def wk1O : Mem := [⟨105, [.one (.slc 3 (.lit 0) wk11 (.op (.lit 0))), .run .i64 (.lit 16) (.av 1) 0, .one (.int .i64 (.v 1)), .one (.int .i64 (.v 3))], true, none, false⟩, ⟨5, [.run .u8 (.v 0) (.av 0) 0], true, some 1, true⟩, ⟨5, [.run .u8 (.lit 512) (.av 2) 0], true, some 1, false⟩, ⟨5, [.run .u8 wk11 wk110 0], true, some 1, false⟩]
def wk1S : Go.Sx.Spec := memoG (findG 4 0 3 wk1L wk1M) wk1H wk1L wk1M [] (.tup []) (some wk1O)
set_option maxHeartbeats 4000000 in
theorem wk1run : enter Try.prog SG SGh 3000 40 44 wk1H wk1L wk1M = some ([], .tup [], some wk1O) := by kernel_rfl
theorem wk1ok (xs : Nat → Nat → Ext) : SpecOK Try.prog (Iv xs) 44 wk1S := memoG_ok (enter_ok (SG_ok xs) (by kernel_rfl) 3000 40) wk1run
def wk2H : Hyp := ⟨[(.v 0, (1, 4000000)), (.v 3, (0, 0)), (.v 2, (510, 510))], [(0, (0, 255)), (1, (-9223372036854775808, 9223372036854775807)), (2, (0, 255))], [(10, (0, 4294967295))], [], [], []⟩
def wk2L : List SV := [.s (.ptr 0 (.lit 0)), .s (.slc 2 (.lit 2) (.v 2) (.op (.lit 2)))]
def wk2M : Mem := [⟨105, [.one (.slc 1 (.lit 0) (.v 0) (.op (.lit 0))), .run .i64 (.lit 16) (.av 1) 0, .one (.int .i64 (.v 1)), .one (.int .i64 (.v 3))], true, none, false⟩, ⟨5, [.run .u8 (.v 0) (.av 0) 0], true, some 1, false⟩, ⟨5, [.run .u8 (.lit 512) (.av 2) 0], true, some 1, false⟩]
def wk20 : E := .add (.v 0) (.v 2)
def wk21 : E := .add wk20 (.lit 4)
def wk22 : E := .add (.v 2) (.lit 4)
def wk23 : E := .mod (.v 2) (.lit 256)
def wk24 : E := .upd (.tab []) (.lit 0) wk23
def wk25 : E := .div (.v 2) (.lit 256)
def wk26 : E := .upd wk24 (.lit 1) wk25
def wk27 : E := .upd wk26 (.lit 2) (.lit 0)
def wk28 : E := .upd wk27 (.lit 3) (.lit 0)
def wk29 : E := .blt wk28 (.lit 4) (.v 2) (.av 2) (.lit 2)
def wk210 : E := .blt (.av 0) (.v 0) wk22 wk29 (.lit 0)
def wk2O : Mem := [⟨105, [.one (.slc 3 (.lit 0) wk21 (.op (.lit 0))), .run .i64 (.lit 16) (.av 1) 0, .one (.int .i64 (.v 1)), .one (.int .i64 (.v 3))], true, none, false⟩, ⟨5, [.run .u8 (.v 0) (.av 0) 0], true, some 1, true⟩, ⟨5, [.run .u8 (.lit 512) (.av 2) 0], true, some 1, false⟩, ⟨5, [.run .u8 wk21 wk210 0], true, some 1, false⟩]
def wk2S : Go.Sx.Spec := memoG (findG 4 0 3 wk2L wk2M) wk2H wk2L wk2M [] (.tup []) (some wk2O)
set_option maxHeartbeats 4000000 in
theorem wk2run : enter Try.prog SG SGh 3000 40 44 wk2H wk2L wk2M = some ([], .tup [], some wk2O) := by kernel_rfl
theorem wk2ok (xs : Nat → Nat → Ext) : SpecOK Try.prog (Iv xs) 44 wk2S := memoG_ok (enter_ok (SG_ok xs) (by kernel_rfl) 3000 40) wk2run
def wk3H : Hyp := ⟨[(.v 0, (1, 4000000)), (.v 3, (0, 0)), (.v 2, (509, 509))], [(0, (0, 255)), (1, (-9223372036854775808, 9223372036854775807)), (2, (0, 255))], [(10, (0, 4294967295))], [], [], []⟩
def wk3L : List SV := [.s (.ptr 0 (.lit 0)), .s (.slc 2 (.lit 3) (.v 2) (.op (.lit 3)))]
def wk3M : Mem := [⟨105, [.one (.slc 1 (.lit 0) (.v 0) (.op (.lit 0))), .run .i64 (.lit 16) (.av 1) 0, .one (.int .i64 (.v 1)), .one (.int .i64 (.v 3))], true, none, false⟩, ⟨5, [.run .u8 (.v 0) (.av 0) 0], true, some 1, false⟩, ⟨5, [.run .u8 (.lit 512) (.av 2) 0], true, some 1, false⟩]
def wk30 : E := .add (.v 0) (.v 2)
def wk31 : E := .add wk30 (.lit 4)
def wk32 : E := .add (.v 2) (.lit 4)
def wk33 : E := .mod (.v 2) (.lit 256)
def wk34 : E := .upd (.tab []) (.lit 0) wk33
def wk35 : E := .div (.v 2) (.lit 256)
def wk36 : E := .upd wk34 (.lit 1) wk35
def wk37 : E := .upd wk36 (.lit 2) (.lit 0)
def wk38 : E := .upd wk37 (.lit 3) (.lit 0)
def wk39 : E := .blt wk38 (.lit 4) (.v 2) (.av 2) (.lit 3)
def wk310 : E := .blt (.av 0) (.v 0) wk32 wk39 (.lit 0)
def wk3O : Mem := [⟨105, [.one (.slc 3 (.lit 0) wk31 (.op (.lit 0))), .run .i64 (.lit 16) (.av 1) 0, .one (.int .i64 (.v 1)), .one (.int .i64 (.v 3))], true, none, false⟩, ⟨5, [.run .u8 (.v 0) (.av 0) 0], true, some 1, true⟩, ⟨5, [.run .u8 (.lit 512) (.av 2) 0], true, some 1, false⟩, ⟨5, [.run .u8 wk31 wk310 0], true, some 1, false⟩]
def wk3S : Go.Sx.Spec := memoG (findG 4 0 3 wk3L wk3M) wk3H wk3L wk3M [] (.tup []) (some wk3O)
set_option maxHeartbeats 4000000 in
theorem wk3run : enter Try.prog SG SGh 3000 40 44 wk3H wk3L wk3M = some ([], .tup [], some wk3O) := by kernel_rfl
theorem wk3ok (xs : Nat → Nat → Ext) : SpecOK Try.prog (Iv xs) 44 wk3S := memoG_ok (enter_ok (SG_ok xs) (by kernel_rfl) 3000 40) wk3run
end Go.Proofs.Ytjegnoknenahpaa
