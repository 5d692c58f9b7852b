/- A part of the law TickLoads, which returns true for every input. Bytes are taken, if they are a state, and refused if not, and then all is as it was; what was taken is saved again with the same bytes. Where what comes in is of bulk at most 1048576. No condition. -/
import Derived.Test.YtngbibifiadgiaaTickLoadsF
namespace Go.Proofs.Ytngbibifiadgiaa.TickLoads
open Go.Sx Go.ChangeShapes Go.WideShapes Go.ChangeAt Go.RowKit
set_option linter.unusedVariables false
set_option linter.unusedSimpArgs false
set_option maxRecDepth 100000
theorem g_st_2 : startL Try.prog G Gh g_D (g_hs 2) [] 3000 0 7 (g_Hy 2) (g_Ls 2) [] = some (.jump 0 (g_T0 2) ⟨[(3, (.lit 128)), (2, (.lit 0))], [], [(10, (.tab [])), (9, (.tab [])), (8, (.tab [])), (7, (.tab [])), (6, (.tab [])), (5, (.tab [])), (4, (.tab []))]⟩) := by kernel_rfl
set_option maxHeartbeats 4000000 in
theorem g_sg_2 : (segL Try.prog G Gh g_D (g_hs 2) [] 3000 0 7 (g_h0 2)).map LT.bare = some (.ite g_0 (.need g_0 (.need g_0 (.need g_0 (.need g_0 (.need g_0 (.need g_0 (.need g_0 (.need g_0 (.need g_16 (.need g_31 (.need g_50 (.jump 0 (g_T0 2) ⟨[(3, g_56), (2, g_57)], [], [(10, g_62), (9, g_66), (8, g_92), (7, g_194), (6, g_203), (5, g_211), (4, g_212)]⟩)))))))))))) (.ret (.s (.bool (.blit true))) [])) := by kernel_rfl
theorem g_st_10 : startL Try.prog G Gh g_D (g_hs 10) [] 3000 0 7 (g_Hy 10) (g_Ls 10) [] = some (.jump 0 (g_T0 10) ⟨[(3, (.lit 128)), (2, (.lit 0))], [], [(10, (.tab [])), (9, (.tab [])), (8, (.tab [])), (7, (.tab [])), (6, (.tab [])), (5, (.tab [])), (4, (.tab []))]⟩) := by kernel_rfl
set_option maxHeartbeats 4000000 in
theorem g_sg_10 : (segL Try.prog G Gh g_D (g_hs 10) [] 3000 0 7 (g_h0 10)).map LT.bare = some (.ite g_0 (.need g_0 (.need g_0 (.need g_0 (.need g_0 (.need g_0 (.need g_0 (.need g_0 (.need g_0 (.need g_16 (.need g_31 (.need g_50 (.jump 0 (g_T0 10) ⟨[(3, g_56), (2, g_57)], [], [(10, g_62), (9, g_66), (8, g_92), (7, g_194), (6, g_203), (5, g_211), (4, g_212)]⟩)))))))))))) (.ret (.s (.bool (.blit true))) [])) := by kernel_rfl
theorem g_st_18 : startL Try.prog G Gh g_D (g_hs 18) [] 3000 0 7 (g_Hy 18) (g_Ls 18) [] = some (.jump 0 (g_T0 18) ⟨[(3, (.lit 128)), (2, (.lit 0))], [], [(10, (.tab [])), (9, (.tab [])), (8, (.tab [])), (7, (.tab [])), (6, (.tab [])), (5, (.tab [])), (4, (.tab []))]⟩) := by kernel_rfl
set_option maxHeartbeats 4000000 in
theorem g_sg_18 : (segL Try.prog G Gh g_D (g_hs 18) [] 3000 0 7 (g_h0 18)).map LT.bare = some (.ite g_0 (.need g_0 (.need g_0 (.need g_0 (.need g_0 (.need g_0 (.need g_0 (.need g_0 (.need g_0 (.need g_16 (.need g_31 (.need g_50 (.jump 0 (g_T0 18) ⟨[(3, g_56), (2, g_57)], [], [(10, g_62), (9, g_66), (8, g_92), (7, g_194), (6, g_203), (5, g_211), (4, g_212)]⟩)))))))))))) (.ret (.s (.bool (.blit true))) [])) := by kernel_rfl
end Go.Proofs.Ytngbibifiadgiaa.TickLoads
