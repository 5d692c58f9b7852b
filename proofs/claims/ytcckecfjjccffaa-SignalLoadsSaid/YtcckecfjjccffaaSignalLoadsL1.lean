/- A part of the law SignalLoads, which returns true for every input. A body is taken, if it is a state, and refused if not, with the document's error; then all is as it was; what was taken is saved again with the same bytes. No condition. -/
import Derived.Test.YtcckecfjjccffaaSignalLoadsA
namespace Go.Proofs.Ytcckecfjjccffaa.SignalLoads
open Go.Sx Go.ChangeShapes Go.WideShapes Go.ChangeAt Go.RowKit
set_option linter.unusedVariables false
set_option linter.unusedSimpArgs false
set_option maxRecDepth 100000
def w3E:List (E × Rng):=[((.v 0),(11,1048576)),((.sel (.av 0) (.lit 0)),(28,28)),((.add (.add (.add (.mul (.sel (.av 0) (.lit 4)) (.lit 16777216)) (.mul (.sel (.av 0) (.lit 3)) (.lit 65536))) (.mul (.sel (.av 0) (.lit 2)) (.lit 256))) (.sel (.av 0) (.lit 1))),(6,7))]
def w3B:List (E × Bool):=[((.lt (.add (.v 0) (.lit (-5))) (.add (.add (.add (.mul (.sel (.av 0) (.lit 4)) (.lit 16777216)) (.mul (.sel (.av 0) (.lit 3)) (.lit 65536))) (.mul (.sel (.av 0) (.lit 2)) (.lit 256))) (.sel (.av 0) (.lit 1)))),false)]
theorem w3run:enter Try.prog G Gh 3000 60 6 (eH w3E w3B) eLs []=some ([],.s (.bool (.blit true)),none):=by kernel_rfl
def w4E:List (E × Rng):=[((.v 0),(13,1048576)),((.sel (.av 0) (.lit 0)),(28,28)),((.add (.add (.add (.mul (.sel (.av 0) (.lit 4)) (.lit 16777216)) (.mul (.sel (.av 0) (.lit 3)) (.lit 65536))) (.mul (.sel (.av 0) (.lit 2)) (.lit 256))) (.sel (.av 0) (.lit 1))),(8,9))]
def w4B:List (E × Bool):=[((.lt (.add (.v 0) (.lit (-5))) (.add (.add (.add (.mul (.sel (.av 0) (.lit 4)) (.lit 16777216)) (.mul (.sel (.av 0) (.lit 3)) (.lit 65536))) (.mul (.sel (.av 0) (.lit 2)) (.lit 256))) (.sel (.av 0) (.lit 1)))),false)]
theorem w4run:enter Try.prog G Gh 3000 60 6 (eH w4E w4B) eLs []=some ([],.s (.bool (.blit true)),none):=by kernel_rfl
def w5E:List (E × Rng):=[((.v 0),(15,1048576)),((.sel (.av 0) (.lit 0)),(28,28)),((.add (.add (.add (.mul (.sel (.av 0) (.lit 4)) (.lit 16777216)) (.mul (.sel (.av 0) (.lit 3)) (.lit 65536))) (.mul (.sel (.av 0) (.lit 2)) (.lit 256))) (.sel (.av 0) (.lit 1))),(10,11))]
def w5B:List (E × Bool):=[((.lt (.add (.v 0) (.lit (-5))) (.add (.add (.add (.mul (.sel (.av 0) (.lit 4)) (.lit 16777216)) (.mul (.sel (.av 0) (.lit 3)) (.lit 65536))) (.mul (.sel (.av 0) (.lit 2)) (.lit 256))) (.sel (.av 0) (.lit 1)))),false)]
theorem w5run:enter Try.prog G Gh 3000 60 6 (eH w5E w5B) eLs []=some ([],.s (.bool (.blit true)),none):=by kernel_rfl
def w6E:List (E × Rng):=[((.v 0),(17,1048576)),((.sel (.av 0) (.lit 0)),(28,28)),((.add (.add (.add (.mul (.sel (.av 0) (.lit 4)) (.lit 16777216)) (.mul (.sel (.av 0) (.lit 3)) (.lit 65536))) (.mul (.sel (.av 0) (.lit 2)) (.lit 256))) (.sel (.av 0) (.lit 1))),(12,13))]
def w6B:List (E × Bool):=[((.lt (.add (.v 0) (.lit (-5))) (.add (.add (.add (.mul (.sel (.av 0) (.lit 4)) (.lit 16777216)) (.mul (.sel (.av 0) (.lit 3)) (.lit 65536))) (.mul (.sel (.av 0) (.lit 2)) (.lit 256))) (.sel (.av 0) (.lit 1)))),false)]
theorem w6run:enter Try.prog G Gh 3000 60 6 (eH w6E w6B) eLs []=some ([],.s (.bool (.blit true)),none):=by kernel_rfl
def w7E:List (E × Rng):=[((.v 0),(19,1048576)),((.sel (.av 0) (.lit 0)),(28,28)),((.add (.add (.add (.mul (.sel (.av 0) (.lit 4)) (.lit 16777216)) (.mul (.sel (.av 0) (.lit 3)) (.lit 65536))) (.mul (.sel (.av 0) (.lit 2)) (.lit 256))) (.sel (.av 0) (.lit 1))),(14,15))]
def w7B:List (E × Bool):=[((.lt (.add (.v 0) (.lit (-5))) (.add (.add (.add (.mul (.sel (.av 0) (.lit 4)) (.lit 16777216)) (.mul (.sel (.av 0) (.lit 3)) (.lit 65536))) (.mul (.sel (.av 0) (.lit 2)) (.lit 256))) (.sel (.av 0) (.lit 1)))),false)]
theorem w7run:enter Try.prog G Gh 3000 60 6 (eH w7E w7B) eLs []=some ([],.s (.bool (.blit true)),none):=by kernel_rfl
def w8E:List (E × Rng):=[((.v 0),(21,1048576)),((.sel (.av 0) (.lit 0)),(28,28)),((.add (.add (.add (.mul (.sel (.av 0) (.lit 4)) (.lit 16777216)) (.mul (.sel (.av 0) (.lit 3)) (.lit 65536))) (.mul (.sel (.av 0) (.lit 2)) (.lit 256))) (.sel (.av 0) (.lit 1))),(16,17))]
def w8B:List (E × Bool):=[((.lt (.add (.v 0) (.lit (-5))) (.add (.add (.add (.mul (.sel (.av 0) (.lit 4)) (.lit 16777216)) (.mul (.sel (.av 0) (.lit 3)) (.lit 65536))) (.mul (.sel (.av 0) (.lit 2)) (.lit 256))) (.sel (.av 0) (.lit 1)))),false)]
theorem w8run:enter Try.prog G Gh 3000 60 6 (eH w8E w8B) eLs []=some ([],.s (.bool (.blit true)),none):=by kernel_rfl
def w9E:List (E × Rng):=[((.v 0),(23,1048576)),((.sel (.av 0) (.lit 0)),(28,28)),((.add (.add (.add (.mul (.sel (.av 0) (.lit 4)) (.lit 16777216)) (.mul (.sel (.av 0) (.lit 3)) (.lit 65536))) (.mul (.sel (.av 0) (.lit 2)) (.lit 256))) (.sel (.av 0) (.lit 1))),(18,19))]
def w9B:List (E × Bool):=[((.lt (.add (.v 0) (.lit (-5))) (.add (.add (.add (.mul (.sel (.av 0) (.lit 4)) (.lit 16777216)) (.mul (.sel (.av 0) (.lit 3)) (.lit 65536))) (.mul (.sel (.av 0) (.lit 2)) (.lit 256))) (.sel (.av 0) (.lit 1)))),false)]
theorem w9run:enter Try.prog G Gh 3000 60 6 (eH w9E w9B) eLs []=some ([],.s (.bool (.blit true)),none):=by kernel_rfl
def w10E:List (E × Rng):=[((.v 0),(25,1048576)),((.sel (.av 0) (.lit 0)),(28,28)),((.add (.add (.add (.mul (.sel (.av 0) (.lit 4)) (.lit 16777216)) (.mul (.sel (.av 0) (.lit 3)) (.lit 65536))) (.mul (.sel (.av 0) (.lit 2)) (.lit 256))) (.sel (.av 0) (.lit 1))),(20,21))]
def w10B:List (E × Bool):=[((.lt (.add (.v 0) (.lit (-5))) (.add (.add (.add (.mul (.sel (.av 0) (.lit 4)) (.lit 16777216)) (.mul (.sel (.av 0) (.lit 3)) (.lit 65536))) (.mul (.sel (.av 0) (.lit 2)) (.lit 256))) (.sel (.av 0) (.lit 1)))),false)]
theorem bQC:enter Try.prog G Gh 3000 60 6 (eH w10E w10B) eLs []=some ([],.s (.bool (.blit true)),none):=by kernel_rfl
def y0E:List (E × Rng):=[((.v 0),(27,1048576)),((.sel (.av 0) (.lit 0)),(28,28)),((.add (.add (.add (.mul (.sel (.av 0) (.lit 4)) (.lit 16777216)) (.mul (.sel (.av 0) (.lit 3)) (.lit 65536))) (.mul (.sel (.av 0) (.lit 2)) (.lit 256))) (.sel (.av 0) (.lit 1))),(22,22))]
def y0B:List (E × Bool):=[((.lt (.add (.v 0) (.lit (-5))) (.add (.add (.add (.mul (.sel (.av 0) (.lit 4)) (.lit 16777216)) (.mul (.sel (.av 0) (.lit 3)) (.lit 65536))) (.mul (.sel (.av 0) (.lit 2)) (.lit 256))) (.sel (.av 0) (.lit 1)))),false)]
theorem y0run:enter Try.prog G Gh 3000 60 6 (eH y0E y0B) eLs []=some ([],.s (.bool (.blit true)),none):=by kernel_rfl
end Go.Proofs.Ytcckecfjjccffaa.SignalLoads
