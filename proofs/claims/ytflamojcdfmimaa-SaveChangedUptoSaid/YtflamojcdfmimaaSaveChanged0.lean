/- The law SaveChanged returns true for every input. Saved bytes of which any one byte is changed, or some are left out at the end, or more stand behind, are refused. Where what comes in is of bulk at most 1048576. It is run by symbols (SxA, SxB, SxC); what is left is arithmetic. No condition. -/
import Derived.Test.YtflamojcdfmimaaRows
import Derived.Test.YtflamojcdfmimaaSxC
import Derived.Test.YtflamojcdfmimaaRw
import Derived.Test.YtflamojcdfmimaaWa
import Derived.Test.YtflamojcdfmimaaWz
import Derived.Test.YtflamojcdfmimaaWd
namespace Go.Proofs.Ytflamojcdfmimaa.SaveChanged
open Go.Sx Go.ChangeShapes Go.WideShapes Go.ChangeAt Go.RowKit
set_option linter.unusedVariables false
set_option linter.unusedSimpArgs false
set_option maxRecDepth 100000
noncomputable def G : Ctx := inlS Try.prog [] (ctx [(15, specSumR), (19, specCopy 5), (14, specSpoil 5), (29, orS wbS (zbS)), (30, orS wwS (zwS)), (31, orS wlS (zlS)), (32, orS wnS (znS)), (33, orS wfS (zfS)), (34, orS wyS (zyS)), (35, orS woS (orS oxS (zoS))), (27, orS cxS (wcS)), (12, orS dnS dzS)]) 3000 30 14
noncomputable def Gh : HintCtx := inlSH Try.prog [] (ctx [(15, specSumR), (19, specCopy 5), (14, specSpoil 5), (29, orS wbS (zbS)), (30, orS wwS (zwS)), (31, orS wlS (zlS)), (32, orS wnS (znS)), (33, orS wfS (zfS)), (34, orS wyS (zyS)), (35, orS woS (orS oxS (zoS))), (27, orS cxS (wcS)), (12, orS dnS dzS)]) 3000 30 14
theorem G_ok (xs : Nat → Nat → Ext) : CtxOK Try.prog (Iv xs) G := inlS_ok (ctx_ok (fun p hp => by
  simp only [List.mem_cons, List.not_mem_nil, or_false] at hp
  rcases hp with rfl | rfl | rfl | rfl | rfl | rfl | rfl | rfl | rfl | rfl | rfl | rfl
  · exact specSumR_ok csok rfl
  · exact specCopy_ok ccok
  · exact specSpoil_ok cpok
  · exact orS_ok (wbok _) (zbok _)
  · exact orS_ok (wwok _) (zwok _)
  · exact orS_ok (wlok _) (zlok _)
  · exact orS_ok (wnok _) (znok _)
  · exact orS_ok (wfok _) (zfok _)
  · exact orS_ok (wyok _) (zyok _)
  · exact orS_ok (wook _) (orS_ok (oxok _) (zook _))
  · exact orS_ok (cxok _) (wcok _)
  · exact orS_ok (dnok _) (dzok _)
 )) (by kernel_rfl) 3000 30 14
end Go.Proofs.Ytflamojcdfmimaa.SaveChanged
