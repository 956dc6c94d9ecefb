/- Part 14. -/
import Derived.Test.YtkogeiacmmckkaaGreatDoorFlowLists11
set_option linter.all false
section
open Go Go.Abs
namespace Go.Proofs.Tryz.K
theorem SY:zH [] 16 [Hw] (.s (.int .i64 0)):=by unfold zH;kernel_rfl
end Go.Proofs.Tryz.K
end
