/- Part 14. -/
import Derived.Test.YtkogeiacmmckkaaGreatDoorFlowNames11
set_option linter.all false
set_option maxHeartbeats 0
set_option maxRecDepth 10000
section
open Go List
namespace Go.Abs
open Go.Proofs.Tryz
def Yj:Dd [] 16 [LW] (.s (.int .i64 0)):=by unfold Dd;kernel_rfl
end Go.Abs
end
