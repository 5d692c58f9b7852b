/- A part of the law TickLoads, which returns true for every input. Bytes are taken, if they are a state, and refused if not, and then all is as it was; what was taken is saved again with the same bytes. Where what comes in is of bulk at most 1048576. No condition. -/
import Derived.Test.YtngbibifiadgiaaTickLoadsF
namespace Go.Proofs.Ytngbibifiadgiaa.TickLoads
open Go.Sx Go.ChangeShapes Go.WideShapes Go.ChangeAt Go.RowKit
set_option linter.unusedVariables false
set_option linter.unusedSimpArgs false
set_option maxRecDepth 100000
theorem g_st_4 : startL Try.prog G Gh g_D (g_hs 4) [] 3000 0 7 (g_Hy 4) (g_Ls 4) [] = some (.jump 0 (g_T0 4) ⟨[(3, (.lit 128)), (2, (.lit 0))], [], [(10, (.tab [])), (9, (.tab [])), (8, (.tab [])), (7, (.tab [])), (6, (.tab [])), (5, (.tab [])), (4, (.tab []))]⟩) := by kernel_rfl
set_option maxHeartbeats 4000000 in
theorem g_sg_4 : (segL Try.prog G Gh g_D (g_hs 4) [] 3000 0 7 (g_h0 4)).map LT.bare = some (.ite g_0 (.need g_0 (.need g_0 (.need g_0 (.need g_0 (.need g_0 (.need g_0 (.need g_0 (.need g_0 (.need g_16 (.need g_31 (.need g_50 (.jump 0 (g_T0 4) ⟨[(3, g_56), (2, g_57)], [], [(10, g_62), (9, g_66), (8, g_92), (7, g_194), (6, g_203), (5, g_211), (4, g_212)]⟩)))))))))))) (.ret (.s (.bool (.blit true))) [])) := by kernel_rfl
theorem g_st_12 : startL Try.prog G Gh g_D (g_hs 12) [] 3000 0 7 (g_Hy 12) (g_Ls 12) [] = some (.jump 0 (g_T0 12) ⟨[(3, (.lit 128)), (2, (.lit 0))], [], [(10, (.tab [])), (9, (.tab [])), (8, (.tab [])), (7, (.tab [])), (6, (.tab [])), (5, (.tab [])), (4, (.tab []))]⟩) := by kernel_rfl
set_option maxHeartbeats 4000000 in
theorem g_sg_12 : (segL Try.prog G Gh g_D (g_hs 12) [] 3000 0 7 (g_h0 12)).map LT.bare = some (.ite g_0 (.need g_0 (.need g_0 (.need g_0 (.need g_0 (.need g_0 (.need g_0 (.need g_0 (.need g_0 (.need g_16 (.need g_31 (.need g_50 (.jump 0 (g_T0 12) ⟨[(3, g_56), (2, g_57)], [], [(10, g_62), (9, g_66), (8, g_92), (7, g_194), (6, g_203), (5, g_211), (4, g_212)]⟩)))))))))))) (.ret (.s (.bool (.blit true))) [])) := by kernel_rfl
theorem g_st_20 : startL Try.prog G Gh g_D (g_hs 20) [] 3000 0 7 (g_Hy 20) (g_Ls 20) [] = some (.jump 0 (g_T0 20) ⟨[(3, (.lit 128)), (2, (.lit 0))], [], [(10, (.tab [])), (9, (.tab [])), (8, (.tab [])), (7, (.tab [])), (6, (.tab [])), (5, (.tab [])), (4, (.tab []))]⟩) := by kernel_rfl
set_option maxHeartbeats 4000000 in
theorem g_sg_20 : (segL Try.prog G Gh g_D (g_hs 20) [] 3000 0 7 (g_h0 20)).map LT.bare = some (.ite g_0 (.need g_0 (.need g_0 (.need g_0 (.need g_0 (.need g_0 (.need g_0 (.need g_0 (.need g_0 (.need g_16 (.need g_31 (.need g_50 (.jump 0 (g_T0 20) ⟨[(3, g_56), (2, g_57)], [], [(10, g_62), (9, g_66), (8, g_92), (7, g_194), (6, g_203), (5, g_211), (4, g_212)]⟩)))))))))))) (.ret (.s (.bool (.blit true))) [])) := by kernel_rfl
end Go.Proofs.Ytngbibifiadgiaa.TickLoads
