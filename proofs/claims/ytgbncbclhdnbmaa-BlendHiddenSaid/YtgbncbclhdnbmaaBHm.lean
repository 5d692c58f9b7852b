/- Contracts of functions that laws of this seat call. They are run by symbols (SxA, SxB, SxC). No condition. -/
import Derived.Test.YtgbncbclhdnbmaaProg
import Derived.Test.YtgbncbclhdnbmaaBHs
import Derived.Test.YtgbncbclhdnbmaaBHt0
import Derived.Test.YtgbncbclhdnbmaaBHt1
import Derived.Test.YtgbncbclhdnbmaaBHt2
import Derived.Test.YtgbncbclhdnbmaaBHt3
import Derived.Test.YtgbncbclhdnbmaaBHt4
import Derived.Test.YtgbncbclhdnbmaaSxC
namespace Go.Proofs.Ytgbncbclhdnbmaa
open Go.Sx Go.RowKit
set_option linter.unusedVariables false
set_option linter.unusedSimpArgs false
set_option maxRecDepth 100000
def bhSSpec : Go.Sx.Spec := (orS sf0Sp (orS sf1Sp (orS sf2Sp (orS sf3Sp (orS sf4Sp (orS st0Sp (orS st1Sp (orS st2Sp (orS st3Sp (orS st4Sp (orS t0f0Sp (orS t0f1Sp (orS t0f2Sp (orS t0f3Sp (orS t0f4Sp (orS t0t0Sp (orS t0t1Sp (orS t0t2Sp (orS t0t3Sp (orS t0t4Sp (orS t1f0Sp (orS t1f1Sp (orS t1f2Sp (orS t1f3Sp (orS t1f4Sp (orS t1t0Sp (orS t1t1Sp (orS t1t2Sp (orS t1t3Sp (orS t1t4Sp (orS t2f0Sp (orS t2f1Sp (orS t2f2Sp (orS t2f3Sp (orS t2f4Sp (orS t2t0Sp (orS t2t1Sp (orS t2t2Sp (orS t2t3Sp (orS t2t4Sp (orS t3f0Sp (orS t3f1Sp (orS t3f2Sp (orS t3f3Sp (orS t3f4Sp (orS t3t0Sp (orS t3t1Sp (orS t3t2Sp (orS t3t3Sp (orS t3t4Sp (orS t4f0Sp (orS t4f1Sp (orS t4f2Sp (orS t4f3Sp (orS t4f4Sp (orS t4t0Sp (orS t4t1Sp (orS t4t2Sp (orS t4t3Sp t4t4Sp)))))))))))))))))))))))))))))))))))))))))))))))))))))))))))
theorem bhS_ok (I : Interp) : SpecOK Try.prog I 18 bhSSpec := (orS_ok (sf0_ok I) (orS_ok (sf1_ok I) (orS_ok (sf2_ok I) (orS_ok (sf3_ok I) (orS_ok (sf4_ok I) (orS_ok (st0_ok I) (orS_ok (st1_ok I) (orS_ok (st2_ok I) (orS_ok (st3_ok I) (orS_ok (st4_ok I) (orS_ok (t0f0_ok I) (orS_ok (t0f1_ok I) (orS_ok (t0f2_ok I) (orS_ok (t0f3_ok I) (orS_ok (t0f4_ok I) (orS_ok (t0t0_ok I) (orS_ok (t0t1_ok I) (orS_ok (t0t2_ok I) (orS_ok (t0t3_ok I) (orS_ok (t0t4_ok I) (orS_ok (t1f0_ok I) (orS_ok (t1f1_ok I) (orS_ok (t1f2_ok I) (orS_ok (t1f3_ok I) (orS_ok (t1f4_ok I) (orS_ok (t1t0_ok I) (orS_ok (t1t1_ok I) (orS_ok (t1t2_ok I) (orS_ok (t1t3_ok I) (orS_ok (t1t4_ok I) (orS_ok (t2f0_ok I) (orS_ok (t2f1_ok I) (orS_ok (t2f2_ok I) (orS_ok (t2f3_ok I) (orS_ok (t2f4_ok I) (orS_ok (t2t0_ok I) (orS_ok (t2t1_ok I) (orS_ok (t2t2_ok I) (orS_ok (t2t3_ok I) (orS_ok (t2t4_ok I) (orS_ok (t3f0_ok I) (orS_ok (t3f1_ok I) (orS_ok (t3f2_ok I) (orS_ok (t3f3_ok I) (orS_ok (t3f4_ok I) (orS_ok (t3t0_ok I) (orS_ok (t3t1_ok I) (orS_ok (t3t2_ok I) (orS_ok (t3t3_ok I) (orS_ok (t3t4_ok I) (orS_ok (t4f0_ok I) (orS_ok (t4f1_ok I) (orS_ok (t4f2_ok I) (orS_ok (t4f3_ok I) (orS_ok (t4f4_ok I) (orS_ok (t4t0_ok I) (orS_ok (t4t1_ok I) (orS_ok (t4t2_ok I) (orS_ok (t4t3_ok I) (t4t4_ok I))))))))))))))))))))))))))))))))))))))))))))))))))))))))))))
def bhNSpec : Go.Sx.Spec := (orS siSp (orS t0iSp (orS t1iSp (orS t2iSp (orS t3iSp t4iSp)))))
theorem bhN_ok (I : Interp) : SpecOK Try.prog I 16 bhNSpec := (orS_ok (si_ok I) (orS_ok (t0i_ok I) (orS_ok (t1i_ok I) (orS_ok (t2i_ok I) (orS_ok (t3i_ok I) (t4i_ok I))))))
end Go.Proofs.Ytgbncbclhdnbmaa
