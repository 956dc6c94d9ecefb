/- Part 14. -/
import Derived.Test.YtkogeiacmmckkaaGreatDoorFlowMemory11
set_option linter.all false
section
open Go Go.Abs
namespace Go.Proofs.Tryz.K
theorem SH:zb [] 16 [Hc] (.s (.int .i64 0)):=by unfold zb;kernel_rfl
end Go.Proofs.Tryz.K
end
