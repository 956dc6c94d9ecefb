/- Part 17. -/
import Derived.Test.YtkogeiacmmckkaaGreatDoorFlowNames11
set_option linter.all false
set_option maxHeartbeats 0
set_option maxRecDepth 10000
section
open Go List
namespace Go.Abs
open Go.Proofs.Tryz
def ahj:Dd [] 16 [Yh] (I 81):=by unfold Dd;kernel_rfl
end Go.Abs
end
