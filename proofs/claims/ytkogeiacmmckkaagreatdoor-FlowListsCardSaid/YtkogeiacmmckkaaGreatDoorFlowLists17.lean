/- Part 17. -/
import Derived.Test.YtkogeiacmmckkaaGreatDoorFlowLists11
set_option linter.all false
section
open Go Go.Abs Go.Argus
namespace Go.Proofs.Tryz.K
theorem aaD:zH [] 16 [SW] (I 81):=by unfold zH;kernel_rfl
end Go.Proofs.Tryz.K
end
