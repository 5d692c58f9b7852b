/- The law VramScripts returns true for every input. The ports, in whatever order they are written and read, saving and loading between, do to the memories what the document says, and read what it says. It is run by symbols (SxA, SxB, SxC); what is left is arithmetic. No condition. -/
import Derived.Test.YtjegnoknenahpaaRows
import Derived.Test.YtjegnoknenahpaaSxC
import Derived.Test.YtjegnoknenahpaaVb
namespace Go.Proofs.Ytjegnoknenahpaa.VramScripts
open Go.Sx Go.ChangeShapes Go.WideShapes Go.ChangeAt Go.RowKit
set_option linter.unusedVariables false
set_option linter.unusedSimpArgs false
set_option maxRecDepth 100000
noncomputable def G : Ctx := inlS Try.prog [] (ctx [(20, svS), (29, ldS), (9, orS tc0S (orS tc1S (orS tc2S tc3S))), (10, orS td0S (orS td1S (orS td2S td3S)))]) 3000 30 14
noncomputable def Gh : HintCtx := inlSH Try.prog [] (ctx [(20, svS), (29, ldS), (9, orS tc0S (orS tc1S (orS tc2S tc3S))), (10, orS td0S (orS td1S (orS td2S td3S)))]) 3000 30 14
theorem G_ok (xs : Nat → Nat → Ext) : CtxOK Try.prog (Iv xs) G := inlS_ok (ctx_ok (fun p hp => by
  simp only [List.mem_cons, List.not_mem_nil, or_false] at hp
  rcases hp with rfl | rfl | rfl | rfl
  · exact svok xs
  · exact ldok xs
  · exact orS_ok (tc0ok xs) (orS_ok (tc1ok xs) (orS_ok (tc2ok xs) (tc3ok xs)))
  · exact orS_ok (td0ok xs) (orS_ok (td1ok xs) (orS_ok (td2ok xs) (td3ok xs)))
 )) (by kernel_rfl) 3000 30 14
end Go.Proofs.Ytjegnoknenahpaa.VramScripts
