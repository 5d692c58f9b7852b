/- A contract of a greater unit, one run with unknown contents, for any contents: what a tick saves. No condition. -/
import Derived.Test.YtngbibifiadgiaaSwa
namespace Go.Proofs.Ytngbibifiadgiaa
open Go.Sx Go.ChangeShapes Go.WideShapes Go.ChangeAt Go.RowKit
set_option linter.unusedVariables false
set_option maxRecDepth 100000
noncomputable def SH : Ctx := inlS Try.prog [] (ctx [(47, specSum), (54, specSum), (21, specBytes), (50, wbS), (36, dnS)]) 3000 40 12
noncomputable def SHh : HintCtx := inlSH Try.prog [] (ctx [(47, specSum), (54, specSum), (21, specBytes), (50, wbS), (36, dnS)]) 3000 40 12
theorem SH_ok (xs : Nat → Nat → Ext) : CtxOK Try.prog (Iv xs) SH := inlS_ok (ctx_ok (fun p hp => by
  simp only [List.mem_cons, List.not_mem_nil, or_false] at hp
  rcases hp with rfl | rfl | rfl | rfl | rfl
  · exact specSum_ok csok rfl
  · exact specSum_ok crok rfl
  · exact specBytes_ok cbok
  · exact wbok _
  · exact dnok _
 )) (by kernel_rfl) 3000 40 12
def svH : Hyp := ⟨[(.v 0, (0, 255))], [(0, (0, 255)), (1, (0, 255)), (2, (0, 255)), (3, (0, 255)), (4, (0, 255)), (5, (0, 255)), (6, (0, 255))], [(10, (0, 4294967295))], [], [], []⟩
def svL : List SV := [.s (.ptr 0 (.lit 0))]
def svM : Mem := [⟨68, [.one (.int .u8 (.v 0)), .rows (.lit 3) [(some .u8, .av 0), (some .u8, .av 1), (some .u8, .av 2), (some .u8, .av 3)] 0, .run .u8 (.lit 4) (.av 4) 0, .run .u8 (.lit 4) (.av 5) 0, .run .u8 (.lit 2) (.av 6) 0], true, none, false⟩]
def sv0 : E := .upd (.tab []) (.lit 0) (.lit 13)
def sv1 : E := .upd sv0 (.lit 1) (.lit 23)
def sv2 : E := .upd sv1 (.lit 2) (.lit 0)
def sv3 : E := .upd sv2 (.lit 3) (.lit 0)
def sv4 : E := .upd sv3 (.lit 4) (.lit 0)
def sv5 : E := .upd sv4 (.lit 5) (.v 0)
def sv6 : E := .sel (.av 0) (.lit 0)
def sv7 : E := .upd sv5 (.lit 6) sv6
def sv8 : E := .sel (.av 1) (.lit 0)
def sv9 : E := .upd sv7 (.lit 7) sv8
def sv10 : E := .sel (.av 2) (.lit 0)
def sv11 : E := .upd sv9 (.lit 8) sv10
def sv12 : E := .sel (.av 3) (.lit 0)
def sv13 : E := .upd sv11 (.lit 9) sv12
def sv14 : E := .sel (.av 0) (.lit 1)
def sv15 : E := .upd sv13 (.lit 10) sv14
def sv16 : E := .sel (.av 1) (.lit 1)
def sv17 : E := .upd sv15 (.lit 11) sv16
def sv18 : E := .sel (.av 2) (.lit 1)
def sv19 : E := .upd sv17 (.lit 12) sv18
def sv20 : E := .sel (.av 3) (.lit 1)
def sv21 : E := .upd sv19 (.lit 13) sv20
def sv22 : E := .sel (.av 0) (.lit 2)
def sv23 : E := .upd sv21 (.lit 14) sv22
def sv24 : E := .sel (.av 1) (.lit 2)
def sv25 : E := .upd sv23 (.lit 15) sv24
def sv26 : E := .sel (.av 2) (.lit 2)
def sv27 : E := .upd sv25 (.lit 16) sv26
def sv28 : E := .sel (.av 3) (.lit 2)
def sv29 : E := .upd sv27 (.lit 17) sv28
def sv30 : E := .sel (.av 4) (.lit 0)
def sv31 : E := .upd sv29 (.lit 18) sv30
def sv32 : E := .sel (.av 4) (.lit 1)
def sv33 : E := .upd sv31 (.lit 19) sv32
def sv34 : E := .sel (.av 4) (.lit 2)
def sv35 : E := .upd sv33 (.lit 20) sv34
def sv36 : E := .sel (.av 4) (.lit 3)
def sv37 : E := .upd sv35 (.lit 21) sv36
def sv38 : E := .sel (.av 5) (.lit 0)
def sv39 : E := .upd sv37 (.lit 22) sv38
def sv40 : E := .sel (.av 5) (.lit 1)
def sv41 : E := .upd sv39 (.lit 23) sv40
def sv42 : E := .sel (.av 5) (.lit 2)
def sv43 : E := .upd sv41 (.lit 24) sv42
def sv44 : E := .sel (.av 5) (.lit 3)
def sv45 : E := .upd sv43 (.lit 25) sv44
def sv46 : E := .sel (.av 6) (.lit 0)
def sv47 : E := .upd sv45 (.lit 26) sv46
def sv48 : E := .sel (.av 6) (.lit 1)
def sv49 : E := .upd sv47 (.lit 27) sv48
def sv50 : E := .app 10 (.cons (.lit 28) (.cons sv49 .nil))
def sv51 : E := .mod sv50 (.lit 256)
def sv52 : E := .div sv50 (.lit 256)
def sv53 : E := .mod sv52 (.lit 256)
def sv54 : E := .div sv50 (.lit 65536)
def sv55 : E := .mod sv54 (.lit 256)
def sv56 : E := .div sv50 (.lit 16777216)
def svO : Mem := [⟨68, [.one (.int .u8 (.v 0)), .rows (.lit 3) [(some .u8, (.av 0)), (some .u8, (.av 1)), (some .u8, (.av 2)), (some .u8, (.av 3))] 0, .run .u8 (.lit 4) (.av 4) 0, .run .u8 (.lit 4) (.av 5) 0, .run .u8 (.lit 2) (.av 6) 0], true, none, false⟩, ⟨5, [.one (.int .u8 (.lit 76)), .one (.int .u8 (.lit 65)), .one (.int .u8 (.lit 78)), .one (.int .u8 (.lit 84)), .one (.int .u8 (.lit 1)), .one (.int .u8 (.lit 28)), .one (.int .u8 (.lit 0)), .one (.int .u8 (.lit 0)), .one (.int .u8 (.lit 0)), .one (.int .u8 sv51), .one (.int .u8 sv53), .one (.int .u8 sv55), .one (.int .u8 sv56), .one (.int .u8 (.lit 13)), .one (.int .u8 (.lit 23)), .one (.int .u8 (.lit 0)), .one (.int .u8 (.lit 0)), .one (.int .u8 (.lit 0)), .one (.int .u8 (.v 0)), .one (.int .u8 sv6), .one (.int .u8 sv8), .one (.int .u8 sv10), .one (.int .u8 sv12), .one (.int .u8 sv14), .one (.int .u8 sv16), .one (.int .u8 sv18), .one (.int .u8 sv20), .one (.int .u8 sv22), .one (.int .u8 sv24), .one (.int .u8 sv26), .one (.int .u8 sv28), .one (.int .u8 sv30), .one (.int .u8 sv32), .one (.int .u8 sv34), .one (.int .u8 sv36), .one (.int .u8 sv38), .one (.int .u8 sv40), .one (.int .u8 sv42), .one (.int .u8 sv44), .one (.int .u8 sv46), .one (.int .u8 sv48)], true, some 1, false⟩]
def svS : Go.Sx.Spec := memoG (findG 1 0 7 svL svM) svH svL svM [] (.s (.slc 1 (.lit 0) (.lit 41) (.op (.lit 0)))) (some svO)
set_option maxHeartbeats 4000000 in
theorem svrun : enter Try.prog SH SHh 3000 40 22 svH svL svM = some ([], .s (.slc 1 (.lit 0) (.lit 41) (.op (.lit 0))), some svO) := by kernel_rfl
theorem svok (xs : Nat → Nat → Ext) : SpecOK Try.prog (Iv xs) 22 svS := memoG_ok (enter_ok (SH_ok xs) (by kernel_rfl) 3000 40) svrun
end Go.Proofs.Ytngbibifiadgiaa
