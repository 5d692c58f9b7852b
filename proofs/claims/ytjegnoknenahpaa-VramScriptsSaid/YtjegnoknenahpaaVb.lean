/- Contracts: memories that are saved, and taken again; addresses that are turned. No condition. -/
import Derived.Test.YtjegnoknenahpaaVa
import Derived.Test.YtjegnoknenahpaaWa
namespace Go.Proofs.Ytjegnoknenahpaa
open Go.Sx Go.ChangeShapes Go.WideShapes Go.ChangeAt Go.RowKit
set_option linter.unusedVariables false
set_option linter.unusedSimpArgs false
set_option maxRecDepth 100000
noncomputable def SVx : Ctx := inlS Try.prog [] (ctx [(50, specSumR), (19, specCopy 5), (24, specBytes), (64, orS rvS (rcS)), (56, orS uvS (ucS)), (57, cnS), (46, orS wbS (zbS)), (45, orS wwS (zwS)), (47, wfS), (44, orS zmS (orS wyS (orS wgS (zyS)))), (34, dnS)]) 3000 40 12
noncomputable def SVxh : HintCtx := inlSH Try.prog [] (ctx [(50, specSumR), (19, specCopy 5), (24, specBytes), (64, orS rvS (rcS)), (56, orS uvS (ucS)), (57, cnS), (46, orS wbS (zbS)), (45, orS wwS (zwS)), (47, wfS), (44, orS zmS (orS wyS (orS wgS (zyS)))), (34, dnS)]) 3000 40 12
theorem SVx_ok (xs : Nat → Nat → Ext) : CtxOK Try.prog (Iv xs) SVx := inlS_ok (ctx_ok (fun p hp => by
  simp only [List.mem_cons, List.not_mem_nil, or_false] at hp
  rcases hp with rfl | rfl | rfl | rfl | rfl | rfl | rfl | rfl | rfl | rfl | rfl
  · exact specSumR_ok csok rfl
  · exact specCopy_ok ccok
  · exact specBytes_ok cbok
  · exact orS_ok (rvok xs) (rcok xs)
  · exact orS_ok (uvok xs) (ucok xs)
  · exact cnok xs
  · exact orS_ok (wbok xs) (zbok xs)
  · exact orS_ok (wwok xs) (zwok xs)
  · exact wfok xs
  · exact orS_ok (zmok xs) (orS_ok (wyok xs) (orS_ok (wgok xs) (zyok xs)))
  · exact dnok xs
 )) (by kernel_rfl) 3000 40 12
def svH : Hyp := ⟨[(.v 0, (0, 511)), (.v 1, (0, 1023)), (.v 2, (0, 255)), (.v 3, (0, 255)), (.v 4, (0, 65535)), (.v 5, (0, 65535)), (.v 6, (0, 511)), (.v 7, (0, 255))], [(0, (0, 65535)), (1, (0, 255)), (2, (0, 32767))], [(10, (0, 4294967295))], [(50, (0, 255))], [], []⟩
def svL : List SV := [.s (.ptr 0 (.lit 0))]
def svM : Mem := [⟨75, [.run .u16 (.lit 32768) (.av 0) 0, .run .u8 (.lit 544) (.av 1) 0, .run .u16 (.lit 256) (.av 2) 0, .one (.int .u16 (.v 0)), .one (.bool (.bv 0)), .one (.int .u16 (.v 1)), .one (.int .u8 (.v 2)), .one (.int .u8 (.v 3)), .one (.int .u16 (.v 4)), .one (.int .u16 (.v 5)), .one (.int .u16 (.v 6)), .one (.int .u8 (.v 7))], true, none, false⟩]
def sv0 : E := .upd (.tab []) (.lit 0) (.lit 76)
def sv1 : E := .upd sv0 (.lit 1) (.lit 65)
def sv2 : E := .upd sv1 (.lit 2) (.lit 78)
def sv3 : E := .upd sv2 (.lit 3) (.lit 84)
def sv4 : E := .upd sv3 (.lit 4) (.lit 1)
def sv5 : E := .upd sv4 (.lit 5) (.lit 58)
def sv6 : E := .upd sv5 (.lit 6) (.lit 4)
def sv7 : E := .upd sv6 (.lit 7) (.lit 1)
def sv8 : E := .upd sv7 (.lit 8) (.lit 0)
def sv9 : E := .upd (.tab []) (.lit 0) (.lit 32)
def sv10 : E := .upd sv9 (.lit 1) (.lit 2)
def sv11 : E := .upd sv10 (.lit 2) (.lit 0)
def sv12 : E := .upd sv11 (.lit 3) (.lit 0)
def sv13 : E := .blt sv12 (.lit 4) (.lit 544) (.av 1) (.lit 0)
def sv14 : E := .upd (.tab []) (.lit 0) (.lit 0)
def sv15 : E := .upd sv14 (.lit 1) (.lit 0)
def sv16 : E := .upd sv15 (.lit 2) (.lit 1)
def sv17 : E := .upd sv16 (.lit 3) (.lit 0)
def sv18 : E := .app 50 (.cons (.av 0) .nil)
def sv19 : E := .blt sv17 (.lit 4) (.lit 65536) sv18 (.lit 0)
def sv20 : E := .blt sv13 (.lit 548) (.lit 65540) sv19 (.lit 0)
def sv21 : E := .upd sv14 (.lit 1) (.lit 2)
def sv22 : E := .upd sv21 (.lit 2) (.lit 0)
def sv23 : E := .upd sv22 (.lit 3) (.lit 0)
def sv24 : E := .app 50 (.cons (.av 2) .nil)
def sv25 : E := .blt sv23 (.lit 4) (.lit 512) sv24 (.lit 0)
def sv26 : E := .blt sv20 (.lit 66088) (.lit 516) sv25 (.lit 0)
def sv27 : E := .mod (.v 0) (.lit 256)
def sv28 : E := .upd sv26 (.lit 66604) sv27
def sv29 : E := .div (.v 0) (.lit 256)
def sv30 : E := .upd sv28 (.lit 66605) sv29
def sv31 : E := .mod (.v 1) (.lit 256)
def sv32 : E := .upd sv30 (.lit 66606) sv31
def sv33 : E := .div (.v 1) (.lit 256)
def sv34 : E := .upd sv32 (.lit 66607) sv33
def sv35 : E := .mod (.v 4) (.lit 256)
def sv36 : E := .upd sv34 (.lit 66608) sv35
def sv37 : E := .div (.v 4) (.lit 256)
def sv38 : E := .upd sv36 (.lit 66609) sv37
def sv39 : E := .mod (.v 5) (.lit 256)
def sv40 : E := .upd sv38 (.lit 66610) sv39
def sv41 : E := .div (.v 5) (.lit 256)
def sv42 : E := .upd sv40 (.lit 66611) sv41
def sv43 : E := .mod (.v 6) (.lit 256)
def sv44 : E := .upd sv42 (.lit 66612) sv43
def sv45 : E := .div (.v 6) (.lit 256)
def sv46 : E := .upd sv44 (.lit 66613) sv45
def sv47 : E := .upd sv46 (.lit 66614) (.v 2)
def sv48 : E := .upd sv47 (.lit 66615) (.v 7)
def sv49 : E := .upd sv48 (.lit 66616) (.v 3)
def sv50 : E := .ite (.bv 0) (.lit 1) (.lit 0)
def sv51 : E := .upd sv49 (.lit 66617) sv50
def sv52 : E := .app 10 (.cons (.lit 66618) (.cons sv51 .nil))
def sv53 : E := .mod sv52 (.lit 256)
def sv54 : E := .upd sv8 (.lit 9) sv53
def sv55 : E := .div sv52 (.lit 256)
def sv56 : E := .mod sv55 (.lit 256)
def sv57 : E := .upd sv54 (.lit 10) sv56
def sv58 : E := .div sv52 (.lit 65536)
def sv59 : E := .mod sv58 (.lit 256)
def sv60 : E := .upd sv57 (.lit 11) sv59
def sv61 : E := .div sv52 (.lit 16777216)
def sv62 : E := .upd sv60 (.lit 12) sv61
def sv63 : E := .blt sv62 (.lit 13) (.lit 66618) sv51 (.lit 0)
def svO : Mem := [⟨75, [.run .u16 (.lit 32768) (.av 0) 0, .run .u8 (.lit 544) (.av 1) 0, .run .u16 (.lit 256) (.av 2) 0, .one (.int .u16 (.v 0)), .one (.bool (.bv 0)), .one (.int .u16 (.v 1)), .one (.int .u8 (.v 2)), .one (.int .u8 (.v 3)), .one (.int .u16 (.v 4)), .one (.int .u16 (.v 5)), .one (.int .u16 (.v 6)), .one (.int .u8 (.v 7))], true, none, false⟩, ⟨5, [.run .u8 (.lit 66631) sv63 0], true, some 1, false⟩]
def svS : Go.Sx.Spec := memoG (findG 8 1 3 svL svM) svH svL svM [] (.s (.slc 1 (.lit 0) (.lit 66631) (.op (.lit 0)))) (some svO)
set_option maxHeartbeats 4000000 in
theorem svrun : enter Try.prog SVx SVxh 3000 60 20 svH svL svM = some ([], .s (.slc 1 (.lit 0) (.lit 66631) (.op (.lit 0))), some svO) := by kernel_rfl
theorem svok (xs : Nat → Nat → Ext) : SpecOK Try.prog (Iv xs) 20 svS := memoG_ok (enter_ok (SVx_ok xs) (by kernel_rfl) 3000 60) svrun
def ldH : Hyp := ⟨[(.v 0, (0, 511)), (.v 1, (0, 1023)), (.v 2, (0, 255)), (.v 3, (0, 255)), (.v 4, (0, 65535)), (.v 5, (0, 65535)), (.v 6, (0, 511)), (.v 7, (0, 255))], [(0, (0, 65535)), (1, (0, 255)), (2, (0, 32767))], [(10, (0, 4294967295))], [(50, (0, 255))], [], []⟩
def ldL : List SV := [.s (.slc 0 (.lit 0) (.lit 66631) (.op (.lit 0)))]
def ldM : Mem := [⟨5, [.run .u8 (.lit 66631) sv63 0], true, some 1, false⟩]
def ld0 : E := .upd (.tab []) (.lit 0) (.lit 76)
def ld1 : E := .upd ld0 (.lit 1) (.lit 65)
def ld2 : E := .upd ld1 (.lit 2) (.lit 78)
def ld3 : E := .upd ld2 (.lit 3) (.lit 84)
def ld4 : E := .upd ld3 (.lit 4) (.lit 1)
def ld5 : E := .upd ld4 (.lit 5) (.lit 58)
def ld6 : E := .upd ld5 (.lit 6) (.lit 4)
def ld7 : E := .upd ld6 (.lit 7) (.lit 1)
def ld8 : E := .upd ld7 (.lit 8) (.lit 0)
def ld9 : E := .upd (.tab []) (.lit 0) (.lit 32)
def ld10 : E := .upd ld9 (.lit 1) (.lit 2)
def ld11 : E := .upd ld10 (.lit 2) (.lit 0)
def ld12 : E := .upd ld11 (.lit 3) (.lit 0)
def ld13 : E := .blt ld12 (.lit 4) (.lit 544) (.av 1) (.lit 0)
def ld14 : E := .upd (.tab []) (.lit 0) (.lit 0)
def ld15 : E := .upd ld14 (.lit 1) (.lit 0)
def ld16 : E := .upd ld15 (.lit 2) (.lit 1)
def ld17 : E := .upd ld16 (.lit 3) (.lit 0)
def ld18 : E := .app 50 (.cons (.av 0) .nil)
def ld19 : E := .blt ld17 (.lit 4) (.lit 65536) ld18 (.lit 0)
def ld20 : E := .blt ld13 (.lit 548) (.lit 65540) ld19 (.lit 0)
def ld21 : E := .upd ld14 (.lit 1) (.lit 2)
def ld22 : E := .upd ld21 (.lit 2) (.lit 0)
def ld23 : E := .upd ld22 (.lit 3) (.lit 0)
def ld24 : E := .app 50 (.cons (.av 2) .nil)
def ld25 : E := .blt ld23 (.lit 4) (.lit 512) ld24 (.lit 0)
def ld26 : E := .blt ld20 (.lit 66088) (.lit 516) ld25 (.lit 0)
def ld27 : E := .mod (.v 0) (.lit 256)
def ld28 : E := .upd ld26 (.lit 66604) ld27
def ld29 : E := .div (.v 0) (.lit 256)
def ld30 : E := .upd ld28 (.lit 66605) ld29
def ld31 : E := .mod (.v 1) (.lit 256)
def ld32 : E := .upd ld30 (.lit 66606) ld31
def ld33 : E := .div (.v 1) (.lit 256)
def ld34 : E := .upd ld32 (.lit 66607) ld33
def ld35 : E := .mod (.v 4) (.lit 256)
def ld36 : E := .upd ld34 (.lit 66608) ld35
def ld37 : E := .div (.v 4) (.lit 256)
def ld38 : E := .upd ld36 (.lit 66609) ld37
def ld39 : E := .mod (.v 5) (.lit 256)
def ld40 : E := .upd ld38 (.lit 66610) ld39
def ld41 : E := .div (.v 5) (.lit 256)
def ld42 : E := .upd ld40 (.lit 66611) ld41
def ld43 : E := .mod (.v 6) (.lit 256)
def ld44 : E := .upd ld42 (.lit 66612) ld43
def ld45 : E := .div (.v 6) (.lit 256)
def ld46 : E := .upd ld44 (.lit 66613) ld45
def ld47 : E := .upd ld46 (.lit 66614) (.v 2)
def ld48 : E := .upd ld47 (.lit 66615) (.v 7)
def ld49 : E := .upd ld48 (.lit 66616) (.v 3)
def ld50 : E := .ite (.bv 0) (.lit 1) (.lit 0)
def ld51 : E := .upd ld49 (.lit 66617) ld50
def ld52 : E := .app 10 (.cons (.lit 66618) (.cons ld51 .nil))
def ld53 : E := .mod ld52 (.lit 256)
def ld54 : E := .upd ld8 (.lit 9) ld53
def ld55 : E := .div ld52 (.lit 256)
def ld56 : E := .mod ld55 (.lit 256)
def ld57 : E := .upd ld54 (.lit 10) ld56
def ld58 : E := .div ld52 (.lit 65536)
def ld59 : E := .mod ld58 (.lit 256)
def ld60 : E := .upd ld57 (.lit 11) ld59
def ld61 : E := .div ld52 (.lit 16777216)
def ld62 : E := .upd ld60 (.lit 12) ld61
def ld63 : E := .blt ld62 (.lit 13) (.lit 66618) ld51 (.lit 0)
def ld64 : E := .eq ld50 (.lit 0)
def ld65 : E := .not ld64
def ldX : Mem := [⟨5, [.run .u8 (.lit 66631) ld63 0], true, some 1, false⟩, ⟨75, [.run .u16 (.lit 32768) (.av 0) 0, .run .u8 (.lit 544) (.av 1) 0, .run .u16 (.lit 256) (.av 2) 0, .one (.int .u16 (.v 0)), .one (.bool ld65), .one (.int .u16 (.v 1)), .one (.int .u8 (.v 2)), .one (.int .u8 (.v 3)), .one (.int .u16 (.v 4)), .one (.int .u16 (.v 5)), .one (.int .u16 (.v 6)), .one (.int .u8 (.v 7))], true, none, false⟩]
def ldO : Mem := [⟨5, [.run .u8 (.lit 66631) ld63 0], true, some 1, false⟩, ⟨75, [.run .u16 (.lit 32768) (.av 0) 0, .run .u8 (.lit 544) (.av 1) 0, .run .u16 (.lit 256) (.av 2) 0, .one (.int .u16 (.v 0)), .one (.bool (.bv 0)), .one (.int .u16 (.v 1)), .one (.int .u8 (.v 2)), .one (.int .u8 (.v 3)), .one (.int .u16 (.v 4)), .one (.int .u16 (.v 5)), .one (.int .u16 (.v 6)), .one (.int .u8 (.v 7))], true, none, false⟩]
def ldS : Go.Sx.Spec := memoG (findG 8 1 3 ldL ldM) ldH ldL ldM [] (.tup [(false, [.one (.ptr 1 (.lit 0))]), (false, [.one (.int .i64 (.lit 0))])]) (some ldO)
set_option maxHeartbeats 4000000 in
theorem ldrun : enter Try.prog SVx SVxh 3000 60 29 ldH ldL ldM = some ([], .tup [(false, [.one (.ptr 1 (.lit 0))]), (false, [.one (.int .i64 (.lit 0))])], some ldX) := by kernel_rfl
set_option maxHeartbeats 4000000 in
theorem ldeq (xs : Nat → Nat → Ext) (ρ : Env) (hI : ρ.I = Iv xs) (hz : Sized ρ 8 1 3) (hH : ldH.ok ρ) (hn : allN ρ []) : allN ρ [] ∧ VEq ρ ρ (.tup [(false, [.one (.ptr 1 (.lit 0))]), (false, [.one (.int .i64 (.lit 0))])]) (.tup [(false, [.one (.ptr 1 (.lit 0))]), (false, [.one (.int .i64 (.lit 0))])]) ∧ omEq ρ (some ldX) (some ldO) := by
  refine ⟨hn, ?_, ?_⟩
  · repeat' (first | exact rfl | exact trivial | refine And.intro ?_ ?_)
  · have hb : E.b ρ ld65 = E.b ρ (.bv 0) := by
      simp only [ld65, ld64, ld50, b_not, b_eq, i_ite, i_lit]
      cases E.b ρ (.bv 0) <;> rfl
    simp only [omEq, ldX, ldO, MemEq, BlkEq, SegsEq, SegEq, SEq, hb]
    repeat' (first | exact trivial | exact rfl | refine And.intro ?_ ?_ | exact fun _ _ => rfl | exact fun _ _ => trivial | refine Or.inr ?_)
theorem ldok (xs : Nat → Nat → Ext) : SpecOK Try.prog (Iv xs) 29 ldS := memoA_ok (eqS_ok (SpecAt.of (enter_ok (SVx_ok xs) (by kernel_rfl) 3000 60)) ldrun rfl rfl (ldeq xs)) (exactS_at _ _ _ _ _ _)
def tc00 : E := .mod (.v 1) (.lit 32768)
def tc0H : Hyp := ⟨[(.mod (.div (.v 0) (.lit 4)) (.lit 4), (0, 0)), (.v 0, (0, 255)), (.v 1, (0, 65535))], [], [], [], [], []⟩
def tc0L : List SV := [.s (.int .u8 (.v 0)), .s (.int .u16 (.v 1))]
def tc0S : Go.Sx.Spec := memoQ (findG 2 0 0 tc0L []) tc0H tc0L [] [] (.s (.int .u16 tc00))
theorem tc0run : enter Try.prog SG SGh 3000 40 9 tc0H tc0L [] = some ([], .s (.int .u16 tc00), none) := by kernel_rfl
theorem tc0ok (xs : Nat → Nat → Ext) : SpecOK Try.prog (Iv xs) 9 tc0S := memoQ_ok (memoG_ok (enter_ok (SG_ok xs) (by kernel_rfl) 3000 40) tc0run)
def td00 : E := .mod (.v 1) (.lit 32768)
def td0H : Hyp := ⟨[(.mod (.div (.v 0) (.lit 4)) (.lit 4), (0, 0)), (.v 0, (0, 255)), (.v 1, (0, 65535))], [], [], [], [], []⟩
def td0L : List SV := [.s (.int .u8 (.v 0)), .s (.int .u16 (.v 1))]
def td0S : Go.Sx.Spec := memoQ (findG 2 0 0 td0L []) td0H td0L [] [] (.s (.int .u16 td00))
theorem td0run : enter Try.prog SG SGh 3000 40 10 td0H td0L [] = some ([], .s (.int .u16 td00), none) := by kernel_rfl
theorem td0ok (xs : Nat → Nat → Ext) : SpecOK Try.prog (Iv xs) 10 td0S := memoQ_ok (memoG_ok (enter_ok (SG_ok xs) (by kernel_rfl) 3000 40) td0run)
def tc10 : E := .div (.v 1) (.lit 256)
def tc11 : E := .mul tc10 (.lit 256)
def tc12 : E := .mod (.v 1) (.lit 32)
def tc13 : E := .mul tc12 (.lit 8)
def tc14 : E := .add tc11 tc13
def tc15 : E := .div (.v 1) (.lit 32)
def tc16 : E := .mod tc15 (.lit 8)
def tc17 : E := .add tc14 tc16
def tc18 : E := .mod tc17 (.lit 32768)
def tc1H : Hyp := ⟨[(.mod (.div (.v 0) (.lit 4)) (.lit 4), (1, 1)), (.v 0, (0, 255)), (.v 1, (0, 65535))], [], [], [], [], []⟩
def tc1L : List SV := [.s (.int .u8 (.v 0)), .s (.int .u16 (.v 1))]
def tc1S : Go.Sx.Spec := memoQ (findG 2 0 0 tc1L []) tc1H tc1L [] [] (.s (.int .u16 tc18))
theorem tc1run : enter Try.prog SG SGh 3000 40 9 tc1H tc1L [] = some ([], .s (.int .u16 tc18), none) := by kernel_rfl
theorem tc1ok (xs : Nat → Nat → Ext) : SpecOK Try.prog (Iv xs) 9 tc1S := memoQ_ok (memoG_ok (enter_ok (SG_ok xs) (by kernel_rfl) 3000 40) tc1run)
def td10 : E := .div (.v 1) (.lit 256)
def td11 : E := .mul td10 (.lit 256)
def td12 : E := .mod (.v 1) (.lit 32)
def td13 : E := .mul td12 (.lit 8)
def td14 : E := .add td11 td13
def td15 : E := .div (.v 1) (.lit 32)
def td16 : E := .mod td15 (.lit 8)
def td17 : E := .add td14 td16
def td18 : E := .mod td17 (.lit 32768)
def td1H : Hyp := ⟨[(.mod (.div (.v 0) (.lit 4)) (.lit 4), (1, 1)), (.v 0, (0, 255)), (.v 1, (0, 65535))], [], [], [], [], []⟩
def td1L : List SV := [.s (.int .u8 (.v 0)), .s (.int .u16 (.v 1))]
def td1S : Go.Sx.Spec := memoQ (findG 2 0 0 td1L []) td1H td1L [] [] (.s (.int .u16 td18))
theorem td1run : enter Try.prog SG SGh 3000 40 10 td1H td1L [] = some ([], .s (.int .u16 td18), none) := by kernel_rfl
theorem td1ok (xs : Nat → Nat → Ext) : SpecOK Try.prog (Iv xs) 10 td1S := memoQ_ok (memoG_ok (enter_ok (SG_ok xs) (by kernel_rfl) 3000 40) td1run)
def tc20 : E := .div (.v 1) (.lit 512)
def tc21 : E := .mul tc20 (.lit 512)
def tc22 : E := .mod (.v 1) (.lit 64)
def tc23 : E := .mul tc22 (.lit 8)
def tc24 : E := .add tc21 tc23
def tc25 : E := .div (.v 1) (.lit 64)
def tc26 : E := .mod tc25 (.lit 8)
def tc27 : E := .add tc24 tc26
def tc28 : E := .mod tc27 (.lit 32768)
def tc2H : Hyp := ⟨[(.mod (.div (.v 0) (.lit 4)) (.lit 4), (2, 2)), (.v 0, (0, 255)), (.v 1, (0, 65535))], [], [], [], [], []⟩
def tc2L : List SV := [.s (.int .u8 (.v 0)), .s (.int .u16 (.v 1))]
def tc2S : Go.Sx.Spec := memoQ (findG 2 0 0 tc2L []) tc2H tc2L [] [] (.s (.int .u16 tc28))
theorem tc2run : enter Try.prog SG SGh 3000 40 9 tc2H tc2L [] = some ([], .s (.int .u16 tc28), none) := by kernel_rfl
theorem tc2ok (xs : Nat → Nat → Ext) : SpecOK Try.prog (Iv xs) 9 tc2S := memoQ_ok (memoG_ok (enter_ok (SG_ok xs) (by kernel_rfl) 3000 40) tc2run)
def td20 : E := .div (.v 1) (.lit 512)
def td21 : E := .mul td20 (.lit 512)
def td22 : E := .mod (.v 1) (.lit 64)
def td23 : E := .mul td22 (.lit 8)
def td24 : E := .add td21 td23
def td25 : E := .div (.v 1) (.lit 64)
def td26 : E := .mod td25 (.lit 8)
def td27 : E := .add td24 td26
def td28 : E := .mod td27 (.lit 32768)
def td2H : Hyp := ⟨[(.mod (.div (.v 0) (.lit 4)) (.lit 4), (2, 2)), (.v 0, (0, 255)), (.v 1, (0, 65535))], [], [], [], [], []⟩
def td2L : List SV := [.s (.int .u8 (.v 0)), .s (.int .u16 (.v 1))]
def td2S : Go.Sx.Spec := memoQ (findG 2 0 0 td2L []) td2H td2L [] [] (.s (.int .u16 td28))
theorem td2run : enter Try.prog SG SGh 3000 40 10 td2H td2L [] = some ([], .s (.int .u16 td28), none) := by kernel_rfl
theorem td2ok (xs : Nat → Nat → Ext) : SpecOK Try.prog (Iv xs) 10 td2S := memoQ_ok (memoG_ok (enter_ok (SG_ok xs) (by kernel_rfl) 3000 40) td2run)
def tc30 : E := .div (.v 1) (.lit 1024)
def tc31 : E := .mul tc30 (.lit 1024)
def tc32 : E := .mod (.v 1) (.lit 128)
def tc33 : E := .mul tc32 (.lit 8)
def tc34 : E := .add tc31 tc33
def tc35 : E := .div (.v 1) (.lit 128)
def tc36 : E := .mod tc35 (.lit 8)
def tc37 : E := .add tc34 tc36
def tc38 : E := .mod tc37 (.lit 32768)
def tc3H : Hyp := ⟨[(.mod (.div (.v 0) (.lit 4)) (.lit 4), (3, 3)), (.v 0, (0, 255)), (.v 1, (0, 65535))], [], [], [], [], []⟩
def tc3L : List SV := [.s (.int .u8 (.v 0)), .s (.int .u16 (.v 1))]
def tc3S : Go.Sx.Spec := memoQ (findG 2 0 0 tc3L []) tc3H tc3L [] [] (.s (.int .u16 tc38))
theorem tc3run : enter Try.prog SG SGh 3000 40 9 tc3H tc3L [] = some ([], .s (.int .u16 tc38), none) := by kernel_rfl
theorem tc3ok (xs : Nat → Nat → Ext) : SpecOK Try.prog (Iv xs) 9 tc3S := memoQ_ok (memoG_ok (enter_ok (SG_ok xs) (by kernel_rfl) 3000 40) tc3run)
def td30 : E := .div (.v 1) (.lit 1024)
def td31 : E := .mul td30 (.lit 1024)
def td32 : E := .mod (.v 1) (.lit 128)
def td33 : E := .mul td32 (.lit 8)
def td34 : E := .add td31 td33
def td35 : E := .div (.v 1) (.lit 128)
def td36 : E := .mod td35 (.lit 8)
def td37 : E := .add td34 td36
def td38 : E := .mod td37 (.lit 32768)
def td3H : Hyp := ⟨[(.mod (.div (.v 0) (.lit 4)) (.lit 4), (3, 3)), (.v 0, (0, 255)), (.v 1, (0, 65535))], [], [], [], [], []⟩
def td3L : List SV := [.s (.int .u8 (.v 0)), .s (.int .u16 (.v 1))]
def td3S : Go.Sx.Spec := memoQ (findG 2 0 0 td3L []) td3H td3L [] [] (.s (.int .u16 td38))
theorem td3run : enter Try.prog SG SGh 3000 40 10 td3H td3L [] = some ([], .s (.int .u16 td38), none) := by kernel_rfl
theorem td3ok (xs : Nat → Nat → Ext) : SpecOK Try.prog (Iv xs) 10 td3S := memoQ_ok (memoG_ok (enter_ok (SG_ok xs) (by kernel_rfl) 3000 40) td3run)
end Go.Proofs.Ytjegnoknenahpaa
