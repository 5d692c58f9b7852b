/- The law TickRuns returns true for every input. Whatever is done to it, in every order, timers, ports and registers are what the document says, to the last saved byte. Where what comes in is of bulk at most 1048576. It is run by symbols (SxA, SxB, SxC); what is left is arithmetic. No condition. -/
import Derived.Test.YtngbibifiadgiaaRows
import Derived.Test.YtngbibifiadgiaaSxC
import Derived.Test.YtngbibifiadgiaaRw
import Derived.Test.YtngbibifiadgiaaSt
import Derived.Test.YtngbibifiadgiaaSw
namespace Go.Proofs.Ytngbibifiadgiaa.TickRuns
open Go.Sx Go.ChangeShapes Go.WideShapes Go.ChangeAt Go.RowKit
set_option linter.unusedVariables false
set_option linter.unusedSimpArgs false
set_option maxRecDepth 100000
noncomputable def G : Ctx := inlS Try.prog [] (ctx [(47, specSum), (54, specSum), (21, specBytes), (22, svS), (15, stepS)]) 3000 40 12
noncomputable def Gh : HintCtx := inlSH Try.prog [] (ctx [(47, specSum), (54, specSum), (21, specBytes), (22, svS), (15, stepS)]) 3000 40 12
theorem tmN_lt {p : Int} (hp : 0 < p) (o : Bool) (T : Int) (s : Int × Int × Int) (h : 0 ≤ s.1 ∧ s.1 < p) : ∀ n, 0 ≤ (tmN p o T n s).1 ∧ (tmN p o T n s).1 < p
  | 0 => h
  | n + 1 => by
    have h1 := Int.emod_nonneg ((tmN p o T n s).1 + 1) (show p ≠ 0 by omega)
    have h2 := Int.emod_lt_of_pos ((tmN p o T n s).1 + 1) hp
    show 0 ≤ (tm1 p o T (tmN p o T n s)).1 ∧ (tm1 p o T (tmN p o T n s)).1 < p
    unfold tm1
    split
    · split <;> exact ⟨h1, h2⟩
    · exact ⟨h1, h2⟩
theorem G_ok (xs : Nat → Nat → Ext) : CtxOK Try.prog (Iv xs) G := inlS_ok (ctx_ok (fun p hp => by
  simp only [List.mem_cons, List.not_mem_nil, or_false] at hp
  rcases hp with rfl | rfl | rfl | rfl | rfl
  · exact specSum_ok csok rfl
  · exact specSum_ok crok rfl
  · exact specBytes_ok cbok
  · exact svok _
  · exact stepok rfl
 )) (by kernel_rfl) 3000 40 12
end Go.Proofs.Ytngbibifiadgiaa.TickRuns
