/- Contracts of a writer, each one run with unknown contents, for any contents: a value is put. No condition. -/
import Derived.Test.YtflamojcdfmimaaRows
import Derived.Test.YtflamojcdfmimaaRw
import Derived.Test.YtflamojcdfmimaaSxC
namespace Go.Proofs.Ytflamojcdfmimaa
open Go.Sx Go.ChangeShapes Go.WideShapes Go.ChangeAt Go.RowKit
set_option linter.unusedVariables false
set_option linter.unusedSimpArgs false
set_option maxRecDepth 100000
noncomputable def SG : Ctx := inlS Try.prog [] (ctx [(15, specSumR), (19, specCopy 5), (14, specSpoil 5)]) 3000 40 12
noncomputable def SGh : HintCtx := inlSH Try.prog [] (ctx [(15, specSumR), (19, specCopy 5), (14, specSpoil 5)]) 3000 40 12
theorem SG_ok (xs : Nat → Nat → Ext) : CtxOK Try.prog (Iv xs) SG := inlS_ok (ctx_ok (fun p hp => by
  simp only [List.mem_cons, List.not_mem_nil, or_false] at hp
  rcases hp with rfl | rfl | rfl
  · exact specSumR_ok csok rfl
  · exact specCopy_ok ccok
  · exact specSpoil_ok cpok
 )) (by kernel_rfl) 3000 40 12
def wbH : Hyp := ⟨[(.v 0, (1, 4000000)), (.v 3, (0, 0)), (.v 1, (0, 255))], [(0, (0, 255)), (1, (-9223372036854775808, 9223372036854775807))], [(10, (0, 4294967295))], [], [], []⟩
def wbL : List SV := [.s (.ptr 0 (.lit 0)), .s (.int .u8 (.v 1))]
def wbM : Mem := [⟨69, [.one (.slc 1 (.lit 0) (.v 0) (.op (.lit 0))), .run .i64 (.lit 16) (.av 1) 0, .one (.int .i64 (.v 2)), .one (.int .i64 (.v 3))], true, none, false⟩, ⟨5, [.run .u8 (.v 0) (.av 0) 0], true, some 1, false⟩]
def wb0 : E := .add (.v 0) (.lit 1)
def wb1 : E := .upd (.av 0) (.v 0) (.v 1)
def wbO : Mem := [⟨69, [.one (.slc 2 (.lit 0) wb0 (.op (.lit 0))), .run .i64 (.lit 16) (.av 1) 0, .one (.int .i64 (.v 2)), .one (.int .i64 (.v 3))], true, none, false⟩, ⟨5, [.run .u8 (.v 0) (.av 0) 0], true, some 1, true⟩, ⟨5, [.run .u8 wb0 wb1 0], true, some 1, false⟩]
def wbS : Go.Sx.Spec := memoG (findG 4 0 2 wbL wbM) wbH wbL wbM [] (.tup []) (some wbO)
set_option maxHeartbeats 4000000 in
theorem wbrun : enter Try.prog SG SGh 3000 40 29 wbH wbL wbM = some ([], .tup [], some wbO) := by kernel_rfl
theorem wbok (xs : Nat → Nat → Ext) : SpecOK Try.prog (Iv xs) 29 wbS := memoG_ok (enter_ok (SG_ok xs) (by kernel_rfl) 3000 40) wbrun
def wwH : Hyp := ⟨[(.v 0, (1, 4000000)), (.v 3, (0, 0)), (.v 1, (0, 65535))], [(0, (0, 255)), (1, (-9223372036854775808, 9223372036854775807))], [(10, (0, 4294967295))], [], [], []⟩
def wwL : List SV := [.s (.ptr 0 (.lit 0)), .s (.int .u16 (.v 1))]
def wwM : Mem := [⟨69, [.one (.slc 1 (.lit 0) (.v 0) (.op (.lit 0))), .run .i64 (.lit 16) (.av 1) 0, .one (.int .i64 (.v 2)), .one (.int .i64 (.v 3))], true, none, false⟩, ⟨5, [.run .u8 (.v 0) (.av 0) 0], true, some 1, false⟩]
def ww0 : E := .add (.v 0) (.lit 2)
def ww1 : E := .mod (.v 1) (.lit 256)
def ww2 : E := .upd (.av 0) (.v 0) ww1
def ww3 : E := .add (.v 0) (.lit 1)
def ww4 : E := .div (.v 1) (.lit 256)
def ww5 : E := .upd ww2 ww3 ww4
def wwO : Mem := [⟨69, [.one (.slc 2 (.lit 0) ww0 (.op (.lit 0))), .run .i64 (.lit 16) (.av 1) 0, .one (.int .i64 (.v 2)), .one (.int .i64 (.v 3))], true, none, false⟩, ⟨5, [.run .u8 (.v 0) (.av 0) 0], true, some 1, true⟩, ⟨5, [.run .u8 ww0 ww5 0], true, some 1, false⟩]
def wwS : Go.Sx.Spec := memoG (findG 4 0 2 wwL wwM) wwH wwL wwM [] (.tup []) (some wwO)
set_option maxHeartbeats 4000000 in
theorem wwrun : enter Try.prog SG SGh 3000 40 30 wwH wwL wwM = some ([], .tup [], some wwO) := by kernel_rfl
theorem wwok (xs : Nat → Nat → Ext) : SpecOK Try.prog (Iv xs) 30 wwS := memoG_ok (enter_ok (SG_ok xs) (by kernel_rfl) 3000 40) wwrun
def wlH : Hyp := ⟨[(.v 0, (1, 4000000)), (.v 3, (0, 0)), (.v 1, (0, 4294967295))], [(0, (0, 255)), (1, (-9223372036854775808, 9223372036854775807))], [(10, (0, 4294967295))], [], [], []⟩
def wlL : List SV := [.s (.ptr 0 (.lit 0)), .s (.int .u32 (.v 1))]
def wlM : Mem := [⟨69, [.one (.slc 1 (.lit 0) (.v 0) (.op (.lit 0))), .run .i64 (.lit 16) (.av 1) 0, .one (.int .i64 (.v 2)), .one (.int .i64 (.v 3))], true, none, false⟩, ⟨5, [.run .u8 (.v 0) (.av 0) 0], true, some 1, false⟩]
def wl0 : E := .add (.v 0) (.lit 4)
def wl1 : E := .mod (.v 1) (.lit 256)
def wl2 : E := .upd (.av 0) (.v 0) wl1
def wl3 : E := .add (.v 0) (.lit 1)
def wl4 : E := .div (.v 1) (.lit 256)
def wl5 : E := .mod wl4 (.lit 256)
def wl6 : E := .upd wl2 wl3 wl5
def wl7 : E := .add (.v 0) (.lit 2)
def wl8 : E := .div (.v 1) (.lit 65536)
def wl9 : E := .mod wl8 (.lit 256)
def wl10 : E := .upd wl6 wl7 wl9
def wl11 : E := .add (.v 0) (.lit 3)
def wl12 : E := .div (.v 1) (.lit 16777216)
def wl13 : E := .upd wl10 wl11 wl12
def wlO : Mem := [⟨69, [.one (.slc 2 (.lit 0) wl0 (.op (.lit 0))), .run .i64 (.lit 16) (.av 1) 0, .one (.int .i64 (.v 2)), .one (.int .i64 (.v 3))], true, none, false⟩, ⟨5, [.run .u8 (.v 0) (.av 0) 0], true, some 1, true⟩, ⟨5, [.run .u8 wl0 wl13 0], true, some 1, false⟩]
def wlS : Go.Sx.Spec := memoG (findG 4 0 2 wlL wlM) wlH wlL wlM [] (.tup []) (some wlO)
set_option maxHeartbeats 4000000 in
theorem wlrun : enter Try.prog SG SGh 3000 40 31 wlH wlL wlM = some ([], .tup [], some wlO) := by kernel_rfl
theorem wlok (xs : Nat → Nat → Ext) : SpecOK Try.prog (Iv xs) 31 wlS := memoG_ok (enter_ok (SG_ok xs) (by kernel_rfl) 3000 40) wlrun
def wnH : Hyp := ⟨[(.v 0, (1, 4000000)), (.v 3, (0, 0)), (.v 1, (-9223372036854775808, 9223372036854775807))], [(0, (0, 255)), (1, (-9223372036854775808, 9223372036854775807))], [(10, (0, 4294967295))], [], [], []⟩
def wnL : List SV := [.s (.ptr 0 (.lit 0)), .s (.int .i64 (.v 1))]
def wnM : Mem := [⟨69, [.one (.slc 1 (.lit 0) (.v 0) (.op (.lit 0))), .run .i64 (.lit 16) (.av 1) 0, .one (.int .i64 (.v 2)), .one (.int .i64 (.v 3))], true, none, false⟩, ⟨5, [.run .u8 (.v 0) (.av 0) 0], true, some 1, false⟩]
def wn0 : E := .add (.v 0) (.lit 8)
def wn1 : E := .mod (.v 1) (.lit 256)
def wn2 : E := .upd (.av 0) (.v 0) wn1
def wn3 : E := .add (.v 0) (.lit 1)
def wn4 : E := .div (.v 1) (.lit 256)
def wn5 : E := .mod wn4 (.lit 256)
def wn6 : E := .upd wn2 wn3 wn5
def wn7 : E := .add (.v 0) (.lit 2)
def wn8 : E := .div (.v 1) (.lit 65536)
def wn9 : E := .mod wn8 (.lit 256)
def wn10 : E := .upd wn6 wn7 wn9
def wn11 : E := .add (.v 0) (.lit 3)
def wn12 : E := .div (.v 1) (.lit 16777216)
def wn13 : E := .mod wn12 (.lit 256)
def wn14 : E := .upd wn10 wn11 wn13
def wn15 : E := .add (.v 0) (.lit 4)
def wn16 : E := .div (.v 1) (.lit 4294967296)
def wn17 : E := .mod wn16 (.lit 256)
def wn18 : E := .upd wn14 wn15 wn17
def wn19 : E := .add (.v 0) (.lit 5)
def wn20 : E := .div (.v 1) (.lit 1099511627776)
def wn21 : E := .mod wn20 (.lit 256)
def wn22 : E := .upd wn18 wn19 wn21
def wn23 : E := .add (.v 0) (.lit 6)
def wn24 : E := .div (.v 1) (.lit 281474976710656)
def wn25 : E := .mod wn24 (.lit 256)
def wn26 : E := .upd wn22 wn23 wn25
def wn27 : E := .add (.v 0) (.lit 7)
def wn28 : E := .div (.v 1) (.lit 72057594037927936)
def wn29 : E := .mod wn28 (.lit 256)
def wn30 : E := .upd wn26 wn27 wn29
def wnO : Mem := [⟨69, [.one (.slc 2 (.lit 0) wn0 (.op (.lit 0))), .run .i64 (.lit 16) (.av 1) 0, .one (.int .i64 (.v 2)), .one (.int .i64 (.v 3))], true, none, false⟩, ⟨5, [.run .u8 (.v 0) (.av 0) 0], true, some 1, true⟩, ⟨5, [.run .u8 wn0 wn30 0], true, some 1, false⟩]
def wnS : Go.Sx.Spec := memoG (findG 4 0 2 wnL wnM) wnH wnL wnM [] (.tup []) (some wnO)
set_option maxHeartbeats 4000000 in
theorem wnrun : enter Try.prog SG SGh 3000 40 32 wnH wnL wnM = some ([], .tup [], some wnO) := by kernel_rfl
theorem wnok (xs : Nat → Nat → Ext) : SpecOK Try.prog (Iv xs) 32 wnS := memoG_ok (enter_ok (SG_ok xs) (by kernel_rfl) 3000 40) wnrun
def wfH : Hyp := ⟨[(.v 0, (1, 4000000)), (.v 2, (0, 0))], [(0, (0, 255)), (1, (-9223372036854775808, 9223372036854775807))], [(10, (0, 4294967295))], [], [], []⟩
def wfL : List SV := [.s (.ptr 0 (.lit 0)), .s (.bool (.bv 0))]
def wfM : Mem := [⟨69, [.one (.slc 1 (.lit 0) (.v 0) (.op (.lit 0))), .run .i64 (.lit 16) (.av 1) 0, .one (.int .i64 (.v 1)), .one (.int .i64 (.v 2))], true, none, false⟩, ⟨5, [.run .u8 (.v 0) (.av 0) 0], true, some 1, false⟩]
def wf0 : E := .add (.v 0) (.lit 1)
def wf1 : E := .ite (.bv 0) (.lit 1) (.lit 0)
def wf2 : E := .upd (.av 0) (.v 0) wf1
def wfO : Mem := [⟨69, [.one (.slc 2 (.lit 0) wf0 (.op (.lit 0))), .run .i64 (.lit 16) (.av 1) 0, .one (.int .i64 (.v 1)), .one (.int .i64 (.v 2))], true, none, false⟩, ⟨5, [.run .u8 (.v 0) (.av 0) 0], true, some 1, true⟩, ⟨5, [.run .u8 wf0 wf2 0], true, some 1, false⟩]
def wfS : Go.Sx.Spec := memoG (findG 3 1 2 wfL wfM) wfH wfL wfM [] (.tup []) (some wfO)
set_option maxHeartbeats 4000000 in
theorem wfrun : enter Try.prog SG SGh 3000 40 33 wfH wfL wfM = some ([], .tup [], some wfO) := by kernel_rfl
theorem wfok (xs : Nat → Nat → Ext) : SpecOK Try.prog (Iv xs) 33 wfS := memoG_ok (enter_ok (SG_ok xs) (by kernel_rfl) 3000 40) wfrun
def wyH : Hyp := ⟨[(.v 0, (1, 4000000)), (.v 3, (0, 0)), (.v 2, (0, 1048575))], [(0, (0, 255)), (1, (-9223372036854775808, 9223372036854775807)), (2, (0, 255))], [(10, (0, 4294967295))], [], [], []⟩
def wyL : List SV := [.s (.ptr 0 (.lit 0)), .s (.slc 2 (.lit 0) (.v 2) (.kn (.v 2)))]
def wyM : Mem := [⟨69, [.one (.slc 1 (.lit 0) (.v 0) (.op (.lit 0))), .run .i64 (.lit 16) (.av 1) 0, .one (.int .i64 (.v 1)), .one (.int .i64 (.v 3))], true, none, false⟩, ⟨5, [.run .u8 (.v 0) (.av 0) 0], true, some 1, false⟩, ⟨5, [.run .u8 (.v 2) (.av 2) 0], true, none, false⟩]
def wy0 : E := .add (.v 0) (.v 2)
def wy1 : E := .add wy0 (.lit 4)
def wy2 : E := .add (.v 2) (.lit 4)
def wy3 : E := .mod (.v 2) (.lit 256)
def wy4 : E := .upd (.tab []) (.lit 0) wy3
def wy5 : E := .div (.v 2) (.lit 256)
def wy6 : E := .mod wy5 (.lit 256)
def wy7 : E := .upd wy4 (.lit 1) wy6
def wy8 : E := .div (.v 2) (.lit 65536)
def wy9 : E := .upd wy7 (.lit 2) wy8
def wy10 : E := .upd wy9 (.lit 3) (.lit 0)
def wy11 : E := .blt wy10 (.lit 4) (.v 2) (.av 2) (.lit 0)
def wy12 : E := .blt (.av 0) (.v 0) wy2 wy11 (.lit 0)
def wyO : Mem := [⟨69, [.one (.slc 3 (.lit 0) wy1 (.op (.lit 0))), .run .i64 (.lit 16) (.av 1) 0, .one (.int .i64 (.v 1)), .one (.int .i64 (.v 3))], true, none, false⟩, ⟨5, [.run .u8 (.v 0) (.av 0) 0], true, some 1, true⟩, ⟨5, [.run .u8 (.v 2) (.av 2) 0], true, none, false⟩, ⟨5, [.run .u8 wy1 wy12 0], true, some 1, false⟩]
def wyS : Go.Sx.Spec := memoG (findG 4 0 3 wyL wyM) wyH wyL wyM [] (.tup []) (some wyO)
set_option maxHeartbeats 4000000 in
theorem wyrun : enter Try.prog SG SGh 3000 40 34 wyH wyL wyM = some ([], .tup [], some wyO) := by kernel_rfl
theorem wyok (xs : Nat → Nat → Ext) : SpecOK Try.prog (Iv xs) 34 wyS := memoG_ok (enter_ok (SG_ok xs) (by kernel_rfl) 3000 40) wyrun
def woH : Hyp := ⟨[(.v 0, (1, 4000000)), (.v 3, (0, 0)), (.v 1, (0, 255)), (.v 2, (0, 15))], [(0, (0, 255)), (1, (-9223372036854775808, 9223372036854775807))], [(10, (0, 4294967295))], [], [], []⟩
def woL : List SV := [.s (.ptr 0 (.lit 0)), .s (.int .u8 (.v 1))]
def woM : Mem := [⟨69, [.one (.slc 1 (.lit 0) (.v 0) (.op (.lit 0))), .run .i64 (.lit 16) (.av 1) 0, .one (.int .i64 (.v 2)), .one (.int .i64 (.v 3))], true, none, false⟩, ⟨5, [.run .u8 (.v 0) (.av 0) 0], true, some 1, false⟩]
def wo0 : E := .add (.v 0) (.lit 5)
def wo1 : E := .upd (.av 1) (.v 2) wo0
def wo2 : E := .add (.v 2) (.lit 1)
def wo3 : E := .upd (.av 0) (.v 0) (.v 1)
def wo4 : E := .add (.v 0) (.lit 1)
def wo5 : E := .upd wo3 wo4 (.lit 0)
def wo6 : E := .add (.v 0) (.lit 2)
def wo7 : E := .upd wo5 wo6 (.lit 0)
def wo8 : E := .add (.v 0) (.lit 3)
def wo9 : E := .upd wo7 wo8 (.lit 0)
def wo10 : E := .add (.v 0) (.lit 4)
def wo11 : E := .upd wo9 wo10 (.lit 0)
def woO : Mem := [⟨69, [.one (.slc 2 (.lit 0) wo0 (.op (.lit 0))), .run .i64 (.lit 16) wo1 0, .one (.int .i64 wo2), .one (.int .i64 (.v 3))], true, none, false⟩, ⟨5, [.run .u8 (.v 0) (.av 0) 0], true, some 1, true⟩, ⟨5, [.run .u8 wo0 wo11 0], true, some 1, false⟩]
def woS : Go.Sx.Spec := memoG (findG 4 0 2 woL woM) woH woL woM [] (.tup []) (some woO)
set_option maxHeartbeats 4000000 in
theorem worun : enter Try.prog SG SGh 3000 40 35 woH woL woM = some ([], .tup [], some woO) := by kernel_rfl
theorem wook (xs : Nat → Nat → Ext) : SpecOK Try.prog (Iv xs) 35 woS := memoG_ok (enter_ok (SG_ok xs) (by kernel_rfl) 3000 40) worun
def oxH : Hyp := ⟨[(.v 0, (1, 4000000)), (.v 2, (0, 0)), (.v 1, (0, 255))], [(0, (0, 255)), (1, (-9223372036854775808, 9223372036854775807))], [(10, (0, 4294967295))], [], [], []⟩
def oxL : List SV := [.s (.ptr 0 (.lit 0)), .s (.int .u8 (.v 1))]
def oxM : Mem := [⟨69, [.one (.slc 1 (.lit 0) (.v 0) (.op (.lit 0))), .run .i64 (.lit 16) (.av 1) 0, .one (.int .i64 (.lit 16)), .one (.int .i64 (.v 2))], true, none, false⟩, ⟨5, [.run .u8 (.v 0) (.av 0) 0], true, some 1, false⟩]

def oxO : Mem := [⟨69, [.one (.slc 1 (.lit 0) (.v 0) (.op (.lit 0))), .run .i64 (.lit 16) (.av 1) 0, .one (.int .i64 (.lit 16)), .one (.int .i64 (.lit 4))], true, none, false⟩, ⟨5, [.run .u8 (.v 0) (.av 0) 0], true, some 1, false⟩]
def oxS : Go.Sx.Spec := memoG (findG 3 0 2 oxL oxM) oxH oxL oxM [] (.tup []) (some oxO)
set_option maxHeartbeats 4000000 in
theorem oxrun : enter Try.prog SG SGh 3000 40 35 oxH oxL oxM = some ([], .tup [], some oxO) := by kernel_rfl
theorem oxok (xs : Nat → Nat → Ext) : SpecOK Try.prog (Iv xs) 35 oxS := memoG_ok (enter_ok (SG_ok xs) (by kernel_rfl) 3000 40) oxrun
def cxH : Hyp := ⟨[(.v 0, (1, 4000000)), (.v 2, (0, 0)), (.v 1, (0, 0))], [(0, (0, 255)), (1, (-9223372036854775808, 9223372036854775807))], [(10, (0, 4294967295))], [], [], []⟩
def cxL : List SV := [.s (.ptr 0 (.lit 0))]
def cxM : Mem := [⟨69, [.one (.slc 1 (.lit 0) (.v 0) (.op (.lit 0))), .run .i64 (.lit 16) (.av 1) 0, .one (.int .i64 (.v 1)), .one (.int .i64 (.v 2))], true, none, false⟩, ⟨5, [.run .u8 (.v 0) (.av 0) 0], true, some 1, false⟩]

def cxO : Mem := [⟨69, [.one (.slc 1 (.lit 0) (.v 0) (.op (.lit 0))), .run .i64 (.lit 16) (.av 1) 0, .one (.int .i64 (.v 1)), .one (.int .i64 (.lit 2))], true, none, false⟩, ⟨5, [.run .u8 (.v 0) (.av 0) 0], true, some 1, false⟩]
def cxS : Go.Sx.Spec := memoG (findG 3 0 2 cxL cxM) cxH cxL cxM [] (.tup []) (some cxO)
set_option maxHeartbeats 4000000 in
theorem cxrun : enter Try.prog SG SGh 3000 40 27 cxH cxL cxM = some ([], .tup [], some cxO) := by kernel_rfl
theorem cxok (xs : Nat → Nat → Ext) : SpecOK Try.prog (Iv xs) 27 cxS := memoG_ok (enter_ok (SG_ok xs) (by kernel_rfl) 3000 40) cxrun
def wcH : Hyp := ⟨[(.v 0, (1, 4000000)), (.v 1, (1, 16)), (.v 2, (0, 0))], [(0, (0, 255)), (1, (0, 16777216))], [(10, (0, 4294967295))], [], [], []⟩
def wcL : List SV := [.s (.ptr 0 (.lit 0))]
def wcM : Mem := [⟨69, [.one (.slc 1 (.lit 0) (.v 0) (.op (.lit 0))), .run .i64 (.lit 16) (.av 1) 0, .one (.int .i64 (.v 1)), .one (.int .i64 (.v 2))], true, none, false⟩, ⟨5, [.run .u8 (.v 0) (.av 0) 0], true, some 1, false⟩]
def wc0 : E := .add (.v 1) (.lit (-1))
def wc1 : E := .sel (.av 1) wc0
def wc2 : E := .add wc1 (.lit (-4))
def wc3 : E := .le (.lit 0) wc2
def wc4 : E := .le wc2 (.v 0)
def wc5 : E := .le wc2 (.lit (-1))
def wc6 : E := .or wc4 wc5
def wc7 : E := .lt (.v 0) wc2
def wc8 : E := .sub (.v 0) wc2
def wc9 : E := .le (.lit 4) wc8
def wc10 : E := .or wc7 wc9
def wc11 : E := .or wc10 wc5
def wc12 : E := .and wc7 wc3
def wc13 : E := .or wc11 wc12
def wc14 : E := .or wc7 wc3
def wc15 : E := .or wc14 wc5
def wc16 : E := .le wc8 (.lit 3)
def wc17 : E := .or wc15 wc16
def wc18 : E := .or wc17 wc12
def wc19 : E := .and wc3 wc4
def wc20 : E := .and wc19 wc16
def wc21 : E := .or wc18 wc20
def wc22 : E := .and wc20 wc6
def wc23 : E := .or wc21 wc22
def wc24 : E := .or wc11 wc16
def wc25 : E := .or wc24 wc12
def wc26 : E := .or wc25 wc20
def wc27 : E := .and wc3 wc9
def wc28 : E := .and wc27 wc4
def wc29 : E := .and wc28 wc5
def wc30 : E := .or wc26 wc29
def wc31 : E := .or wc30 wc22
def wc32 : E := .and wc29 wc6
def wc33 : E := .and wc32 wc11
def wc34 : E := .or wc31 wc33
def wc35 : E := .sub (.v 0) wc1
def wc36 : E := .mod wc35 (.lit 256)
def wc37 : E := .upd (.av 0) wc2 wc36
def wc38 : E := .add wc1 (.lit (-3))
def wc39 : E := .div wc35 (.lit 256)
def wc40 : E := .mod wc39 (.lit 256)
def wc41 : E := .upd wc37 wc38 wc40
def wc42 : E := .add wc1 (.lit (-2))
def wc43 : E := .div wc35 (.lit 65536)
def wc44 : E := .mod wc43 (.lit 256)
def wc45 : E := .upd wc41 wc42 wc44
def wc46 : E := .add wc1 (.lit (-1))
def wc47 : E := .div wc35 (.lit 16777216)
def wc48 : E := .mod wc47 (.lit 256)
def wc49 : E := .upd wc45 wc46 wc48
def wcO : Mem := [⟨69, [.one (.slc 1 (.lit 0) (.v 0) (.op (.lit 0))), .run .i64 (.lit 16) (.av 1) 0, .one (.int .i64 wc0), .one (.int .i64 (.v 2))], true, none, false⟩, ⟨5, [.run .u8 (.v 0) wc49 0], true, some 1, false⟩]
def wcN : List E := [.le (.lit 0) (.add (.sel (.av 1) (.add (.v 1) (.lit (-1)))) (.lit (-4))), .le (.sel (.av 1) (.add (.v 1) (.lit (-1)))) (.v 0)]
def wcS : Go.Sx.Spec := memoG (findG 3 0 2 wcL wcM) wcH wcL wcM wcN (.tup []) (some wcO)
set_option maxHeartbeats 4000000 in
theorem wcrun : enter Try.prog SG SGh 3000 40 27 wcH wcL wcM = some ([wc3, wc6, wc13, wc23, wc34], .tup [], some wcO) := by kernel_rfl
theorem wcimp (xs : Nat → Nat → Ext) (ρ : Env) (hI : ρ.I = Iv xs) (hH : wcH.ok ρ) (hn : allN ρ wcN) : allN ρ [wc3, wc6, wc13, wc23, wc34] := by
  have h1 := hn (.le (.lit 0) (.add (.sel (.av 1) (.add (.v 1) (.lit (-1)))) (.lit (-4)))) (by simp [wcN])
  have h2 := hn (.le (.sel (.av 1) (.add (.v 1) (.lit (-1)))) (.v 0)) (by simp [wcN])
  rw [show E.b ρ (.le (.lit 0) (.add (.sel (.av 1) (.add (.v 1) (.lit (-1)))) (.lit (-4)))) = decide ((0 : Int) ≤ ((.sel (.av 1) (.add (.v 1) (.lit (-1)))) : E).i ρ + (-4)) from rfl, decide_eq_true_eq] at h1
  rw [show E.b ρ (.le (.sel (.av 1) (.add (.v 1) (.lit (-1)))) (.v 0)) = decide (((.sel (.av 1) (.add (.v 1) (.lit (-1)))) : E).i ρ ≤ (E.v 0).i ρ) from rfl, decide_eq_true_eq] at h2
  intro e he
  simp only [List.mem_cons, List.not_mem_nil, or_false] at he
  rcases he with rfl | rfl | rfl | rfl | rfl
  all_goals (simp only [wc0, wc1, wc2, wc3, wc4, wc5, wc6, wc7, wc8, wc9, wc10, wc11, wc12, wc13, wc14, wc15, wc16, wc17, wc18, wc19, wc20, wc21, wc22, wc23, wc24, wc25, wc26, wc27, wc28, wc29, wc30, wc31, wc32, wc33, wc34, wc35, wc36, wc37, wc38, wc39, wc40, wc41, wc42, wc43, wc44, wc45, wc46, wc47, wc48, wc49, b_or, b_and, b_not, b_le, b_lt, b_eq, Bool.or_eq_true, Bool.and_eq_true, Bool.not_eq_true', decide_eq_true_eq, decide_eq_false_iff_not]; simp only [i_add, i_sub, i_lit]; omega)
theorem wcok (xs : Nat → Nat → Ext) : SpecOK Try.prog (Iv xs) 27 wcS := memoG_ok (weakS_ok (enter_ok (SG_ok xs) (by kernel_rfl) 3000 40) wcrun (wcimp xs)) (weakS_at _ _ _ _ _ _)
def zbH : Hyp := ⟨[(.v 1, (0, 0)), (.v 0, (0, 255))], [(0, (-9223372036854775808, 9223372036854775807))], [(10, (0, 4294967295))], [], [], []⟩
def zbL : List SV := [.s (.ptr 0 (.lit 0)), .s (.int .u8 (.v 0))]
def zbM : Mem := [⟨69, [.one .nilSlc, .run .i64 (.lit 16) (.av 0) 0, .one (.int .i64 (.lit 0)), .one (.int .i64 (.v 1))], true, none, false⟩]

def zbO : Mem := [⟨69, [.one (.slc 1 (.lit 0) (.lit 1) (.op (.lit 0))), .run .i64 (.lit 16) (.av 0) 0, .one (.int .i64 (.lit 0)), .one (.int .i64 (.v 1))], true, none, false⟩, ⟨5, [.one (.int .u8 (.v 0))], true, some 1, false⟩]
def zbS : Go.Sx.Spec := memoG (findG 2 0 1 zbL zbM) zbH zbL zbM [] (.tup []) (some zbO)
set_option maxHeartbeats 4000000 in
theorem zbrun : enter Try.prog SG SGh 3000 40 29 zbH zbL zbM = some ([], .tup [], some zbO) := by kernel_rfl
theorem zbok (xs : Nat → Nat → Ext) : SpecOK Try.prog (Iv xs) 29 zbS := memoG_ok (enter_ok (SG_ok xs) (by kernel_rfl) 3000 40) zbrun
def zwH : Hyp := ⟨[(.v 1, (0, 0)), (.v 0, (0, 65535))], [(0, (-9223372036854775808, 9223372036854775807))], [(10, (0, 4294967295))], [], [], []⟩
def zwL : List SV := [.s (.ptr 0 (.lit 0)), .s (.int .u16 (.v 0))]
def zwM : Mem := [⟨69, [.one .nilSlc, .run .i64 (.lit 16) (.av 0) 0, .one (.int .i64 (.lit 0)), .one (.int .i64 (.v 1))], true, none, false⟩]
def zw0 : E := .mod (.v 0) (.lit 256)
def zw1 : E := .div (.v 0) (.lit 256)
def zwO : Mem := [⟨69, [.one (.slc 1 (.lit 0) (.lit 2) (.op (.lit 0))), .run .i64 (.lit 16) (.av 0) 0, .one (.int .i64 (.lit 0)), .one (.int .i64 (.v 1))], true, none, false⟩, ⟨5, [.one (.int .u8 zw0), .one (.int .u8 zw1)], true, some 1, false⟩]
def zwS : Go.Sx.Spec := memoG (findG 2 0 1 zwL zwM) zwH zwL zwM [] (.tup []) (some zwO)
set_option maxHeartbeats 4000000 in
theorem zwrun : enter Try.prog SG SGh 3000 40 30 zwH zwL zwM = some ([], .tup [], some zwO) := by kernel_rfl
theorem zwok (xs : Nat → Nat → Ext) : SpecOK Try.prog (Iv xs) 30 zwS := memoG_ok (enter_ok (SG_ok xs) (by kernel_rfl) 3000 40) zwrun
def zlH : Hyp := ⟨[(.v 1, (0, 0)), (.v 0, (0, 4294967295))], [(0, (-9223372036854775808, 9223372036854775807))], [(10, (0, 4294967295))], [], [], []⟩
def zlL : List SV := [.s (.ptr 0 (.lit 0)), .s (.int .u32 (.v 0))]
def zlM : Mem := [⟨69, [.one .nilSlc, .run .i64 (.lit 16) (.av 0) 0, .one (.int .i64 (.lit 0)), .one (.int .i64 (.v 1))], true, none, false⟩]
def zl0 : E := .mod (.v 0) (.lit 256)
def zl1 : E := .div (.v 0) (.lit 256)
def zl2 : E := .mod zl1 (.lit 256)
def zl3 : E := .div (.v 0) (.lit 65536)
def zl4 : E := .mod zl3 (.lit 256)
def zl5 : E := .div (.v 0) (.lit 16777216)
def zlO : Mem := [⟨69, [.one (.slc 1 (.lit 0) (.lit 4) (.op (.lit 0))), .run .i64 (.lit 16) (.av 0) 0, .one (.int .i64 (.lit 0)), .one (.int .i64 (.v 1))], true, none, false⟩, ⟨5, [.one (.int .u8 zl0), .one (.int .u8 zl2), .one (.int .u8 zl4), .one (.int .u8 zl5)], true, some 1, false⟩]
def zlS : Go.Sx.Spec := memoG (findG 2 0 1 zlL zlM) zlH zlL zlM [] (.tup []) (some zlO)
set_option maxHeartbeats 4000000 in
theorem zlrun : enter Try.prog SG SGh 3000 40 31 zlH zlL zlM = some ([], .tup [], some zlO) := by kernel_rfl
theorem zlok (xs : Nat → Nat → Ext) : SpecOK Try.prog (Iv xs) 31 zlS := memoG_ok (enter_ok (SG_ok xs) (by kernel_rfl) 3000 40) zlrun
def znH : Hyp := ⟨[(.v 1, (0, 0)), (.v 0, (-9223372036854775808, 9223372036854775807))], [(0, (-9223372036854775808, 9223372036854775807))], [(10, (0, 4294967295))], [], [], []⟩
def znL : List SV := [.s (.ptr 0 (.lit 0)), .s (.int .i64 (.v 0))]
def znM : Mem := [⟨69, [.one .nilSlc, .run .i64 (.lit 16) (.av 0) 0, .one (.int .i64 (.lit 0)), .one (.int .i64 (.v 1))], true, none, false⟩]
def zn0 : E := .mod (.v 0) (.lit 256)
def zn1 : E := .div (.v 0) (.lit 256)
def zn2 : E := .mod zn1 (.lit 256)
def zn3 : E := .div (.v 0) (.lit 65536)
def zn4 : E := .mod zn3 (.lit 256)
def zn5 : E := .div (.v 0) (.lit 16777216)
def zn6 : E := .mod zn5 (.lit 256)
def zn7 : E := .div (.v 0) (.lit 4294967296)
def zn8 : E := .mod zn7 (.lit 256)
def zn9 : E := .div (.v 0) (.lit 1099511627776)
def zn10 : E := .mod zn9 (.lit 256)
def zn11 : E := .div (.v 0) (.lit 281474976710656)
def zn12 : E := .mod zn11 (.lit 256)
def zn13 : E := .div (.v 0) (.lit 72057594037927936)
def zn14 : E := .mod zn13 (.lit 256)
def znO : Mem := [⟨69, [.one (.slc 1 (.lit 0) (.lit 8) (.op (.lit 0))), .run .i64 (.lit 16) (.av 0) 0, .one (.int .i64 (.lit 0)), .one (.int .i64 (.v 1))], true, none, false⟩, ⟨5, [.one (.int .u8 zn0), .one (.int .u8 zn2), .one (.int .u8 zn4), .one (.int .u8 zn6), .one (.int .u8 zn8), .one (.int .u8 zn10), .one (.int .u8 zn12), .one (.int .u8 zn14)], true, some 1, false⟩]
def znS : Go.Sx.Spec := memoG (findG 2 0 1 znL znM) znH znL znM [] (.tup []) (some znO)
set_option maxHeartbeats 4000000 in
theorem znrun : enter Try.prog SG SGh 3000 40 32 znH znL znM = some ([], .tup [], some znO) := by kernel_rfl
theorem znok (xs : Nat → Nat → Ext) : SpecOK Try.prog (Iv xs) 32 znS := memoG_ok (enter_ok (SG_ok xs) (by kernel_rfl) 3000 40) znrun
def zfH : Hyp := ⟨[(.v 0, (0, 0))], [(0, (-9223372036854775808, 9223372036854775807))], [(10, (0, 4294967295))], [], [], []⟩
def zfL : List SV := [.s (.ptr 0 (.lit 0)), .s (.bool (.bv 0))]
def zfM : Mem := [⟨69, [.one .nilSlc, .run .i64 (.lit 16) (.av 0) 0, .one (.int .i64 (.lit 0)), .one (.int .i64 (.v 0))], true, none, false⟩]
def zf0 : E := .ite (.bv 0) (.lit 1) (.lit 0)
def zfO : Mem := [⟨69, [.one (.slc 1 (.lit 0) (.lit 1) (.op (.lit 0))), .run .i64 (.lit 16) (.av 0) 0, .one (.int .i64 (.lit 0)), .one (.int .i64 (.v 0))], true, none, false⟩, ⟨5, [.one (.int .u8 zf0)], true, some 1, false⟩]
def zfS : Go.Sx.Spec := memoG (findG 1 1 1 zfL zfM) zfH zfL zfM [] (.tup []) (some zfO)
set_option maxHeartbeats 4000000 in
theorem zfrun : enter Try.prog SG SGh 3000 40 33 zfH zfL zfM = some ([], .tup [], some zfO) := by kernel_rfl
theorem zfok (xs : Nat → Nat → Ext) : SpecOK Try.prog (Iv xs) 33 zfS := memoG_ok (enter_ok (SG_ok xs) (by kernel_rfl) 3000 40) zfrun
def zyH : Hyp := ⟨[(.v 1, (0, 0)), (.v 0, (0, 1048575))], [(0, (-9223372036854775808, 9223372036854775807)), (1, (0, 255))], [(10, (0, 4294967295))], [], [], []⟩
def zyL : List SV := [.s (.ptr 0 (.lit 0)), .s (.slc 1 (.lit 0) (.v 0) (.kn (.v 0)))]
def zyM : Mem := [⟨69, [.one .nilSlc, .run .i64 (.lit 16) (.av 0) 0, .one (.int .i64 (.lit 0)), .one (.int .i64 (.v 1))], true, none, false⟩, ⟨5, [.run .u8 (.v 0) (.av 1) 0], true, none, false⟩]
def zy0 : E := .add (.v 0) (.lit 4)
def zy1 : E := .mod (.v 0) (.lit 256)
def zy2 : E := .upd (.tab []) (.lit 0) zy1
def zy3 : E := .div (.v 0) (.lit 256)
def zy4 : E := .mod zy3 (.lit 256)
def zy5 : E := .upd zy2 (.lit 1) zy4
def zy6 : E := .div (.v 0) (.lit 65536)
def zy7 : E := .upd zy5 (.lit 2) zy6
def zy8 : E := .upd zy7 (.lit 3) (.lit 0)
def zy9 : E := .blt zy8 (.lit 4) (.v 0) (.av 1) (.lit 0)
def zyO : Mem := [⟨69, [.one (.slc 2 (.lit 0) zy0 (.op (.lit 0))), .run .i64 (.lit 16) (.av 0) 0, .one (.int .i64 (.lit 0)), .one (.int .i64 (.v 1))], true, none, false⟩, ⟨5, [.run .u8 (.v 0) (.av 1) 0], true, none, false⟩, ⟨5, [.run .u8 zy0 zy9 0], true, some 1, false⟩]
def zyS : Go.Sx.Spec := memoG (findG 2 0 2 zyL zyM) zyH zyL zyM [] (.tup []) (some zyO)
set_option maxHeartbeats 4000000 in
theorem zyrun : enter Try.prog SG SGh 3000 40 34 zyH zyL zyM = some ([], .tup [], some zyO) := by kernel_rfl
theorem zyok (xs : Nat → Nat → Ext) : SpecOK Try.prog (Iv xs) 34 zyS := memoG_ok (enter_ok (SG_ok xs) (by kernel_rfl) 3000 40) zyrun
def zoH : Hyp := ⟨[(.v 1, (0, 0)), (.v 0, (0, 255))], [(0, (-9223372036854775808, 9223372036854775807))], [(10, (0, 4294967295))], [], [], []⟩
def zoL : List SV := [.s (.ptr 0 (.lit 0)), .s (.int .u8 (.v 0))]
def zoM : Mem := [⟨69, [.one .nilSlc, .run .i64 (.lit 16) (.av 0) 0, .one (.int .i64 (.lit 0)), .one (.int .i64 (.v 1))], true, none, false⟩]
def zo0 : E := .upd (.av 0) (.lit 0) (.lit 5)
def zoO : Mem := [⟨69, [.one (.slc 1 (.lit 0) (.lit 5) (.op (.lit 0))), .run .i64 (.lit 16) zo0 0, .one (.int .i64 (.lit 1)), .one (.int .i64 (.v 1))], true, none, false⟩, ⟨5, [.one (.int .u8 (.v 0)), .one (.int .u8 (.lit 0)), .one (.int .u8 (.lit 0)), .one (.int .u8 (.lit 0)), .one (.int .u8 (.lit 0))], true, some 1, false⟩]
def zoS : Go.Sx.Spec := memoG (findG 2 0 1 zoL zoM) zoH zoL zoM [] (.tup []) (some zoO)
set_option maxHeartbeats 4000000 in
theorem zorun : enter Try.prog SG SGh 3000 40 35 zoH zoL zoM = some ([], .tup [], some zoO) := by kernel_rfl
theorem zook (xs : Nat → Nat → Ext) : SpecOK Try.prog (Iv xs) 35 zoS := memoG_ok (enter_ok (SG_ok xs) (by kernel_rfl) 3000 40) zorun
end Go.Proofs.Ytflamojcdfmimaa
