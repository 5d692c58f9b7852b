/- The law VramLoads returns true for every input. A state that is handed in is taken just if it can be; else the memories have not changed; it is saved as the same bytes. It is run by symbols (SxA, SxB, SxC); what is left is arithmetic. No condition. -/
import Derived.Test.YtjegnoknenahpaaRows
import Derived.Test.YtjegnoknenahpaaSxC
import Derived.Test.YtjegnoknenahpaaXa
import Derived.Test.YtjegnoknenahpaaXw
namespace Go.Proofs.Ytjegnoknenahpaa.VramLoads
open Go.Sx Go.ChangeShapes Go.WideShapes Go.ChangeAt Go.RowKit
set_option linter.unusedVariables false
set_option linter.unusedSimpArgs false
set_option maxRecDepth 100000
noncomputable def G : Ctx := inlS Try.prog [] (ctx [(50, specSumR), (24, specBytes), (64, orS rvS (rcS)), (56, orS uvS (ucS)), (57, cgS), (23, cdS), (17, orS wvS (wdS)), (19, orS (coS) (specCopy 5)), (46, orS wbS (zbS)), (45, orS wwS (zwS)), (47, wfS), (44, orS wyS (orS wgS (orS zyS (orS zmS (orS wk1S (orS wk2S (wk3S))))))), (34, dnS)]) 3000 60 14
noncomputable def Gh : HintCtx := inlSH Try.prog [] (ctx [(50, specSumR), (24, specBytes), (64, orS rvS (rcS)), (56, orS uvS (ucS)), (57, cgS), (23, cdS), (17, orS wvS (wdS)), (19, orS (coS) (specCopy 5)), (46, orS wbS (zbS)), (45, orS wwS (zwS)), (47, wfS), (44, orS wyS (orS wgS (orS zyS (orS zmS (orS wk1S (orS wk2S (wk3S))))))), (34, dnS)]) 3000 60 14
def Pc0 : List Pc := [.arr .u16 32768, .arr .u8 544, .arr .u16 256, .num .i64, .bit, .num .i64, .num .u8, .num .u8, .num .i64, .num .u16, .num .i64, .num .u8]
theorem G_ok (xs : Nat → Nat → Ext) : CtxOK Try.prog (Iv xs) G := inlS_ok (ctx_ok (fun p hp => by
  simp only [List.mem_cons, List.not_mem_nil, or_false] at hp
  rcases hp with rfl | rfl | rfl | rfl | rfl | rfl | rfl | rfl | rfl | rfl | rfl | rfl | rfl
  · exact specSumR_ok csok rfl
  · exact specBytes_ok cbok
  · exact orS_ok (rvok xs) (rcok xs)
  · exact orS_ok (uvok xs) (ucok xs)
  · exact cgok xs
  · exact cdok xs
  · exact orS_ok (wvok xs) (wdok xs)
  · exact orS_ok (cook xs) (specCopy_ok ccok)
  · exact orS_ok (wbok xs) (zbok xs)
  · exact orS_ok (wwok xs) (zwok xs)
  · exact wfok xs
  · exact orS_ok (wyok xs) (orS_ok (wgok xs) (orS_ok (zyok xs) (orS_ok (zmok xs) (orS_ok (wk1ok xs) (orS_ok (wk2ok xs) (wk3ok xs))))))
  · exact dnok xs
 )) (by kernel_rfl) 3000 60 14
end Go.Proofs.Ytjegnoknenahpaa.VramLoads
