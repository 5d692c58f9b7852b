/- The law SpriteOf returns true for every input. Each sprite, its size, its row on a line are those that the document says. It is run by symbols (SxA, SxB, SxC); what is left is arithmetic. No condition. -/
import Derived.Test.YthladllkckkjpaaRows
import Derived.Test.YthladllkckkjpaaSxC
import Derived.Test.YthladllkckkjpaaSpecs
import Derived.Test.YthladllkckkjpaaAwake
namespace Go.Proofs.Ythladllkckkjpaa.SpriteOf
open Go.Sx Go.ChangeShapes Go.WideShapes Go.ChangeAt Go.RowKit
set_option linter.unusedVariables false
set_option linter.unusedSimpArgs false
set_option maxRecDepth 100000
noncomputable def G : Ctx := inlS Try.prog [] (ctx [(25, specVideo 49), (16, trueSpec), (36, btSpec)]) 3000 6 8
noncomputable def Gh : HintCtx := inlSH Try.prog [] (ctx [(25, specVideo 49), (16, trueSpec), (36, btSpec)]) 3000 6 8
def Pc1 : List Pc := [.arr .u8 64, .arr .u16 4, .arr .u16 4, .arr .i16 6, .num .i16, .num .i16, .num .u16]
theorem G_ok (xs : Nat → Nat → Ext) : CtxOK Try.prog (Iv xs) G := inlS_ok (ctx_ok (fun p hp => by
  simp only [List.mem_cons, List.not_mem_nil, or_false] at hp
  rcases hp with rfl | rfl | rfl
  · exact specVideo_ok video_ok rfl
  · exact awake_ok _
  · exact btSpec_ok
 )) (by kernel_rfl) 3000 6 8
end Go.Proofs.Ythladllkckkjpaa.SpriteOf
