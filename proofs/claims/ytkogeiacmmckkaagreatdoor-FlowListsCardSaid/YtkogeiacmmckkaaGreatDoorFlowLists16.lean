/- Part 16. -/
import Derived.Test.YtkogeiacmmckkaaGreatDoorFlowLists11
set_option linter.all false
section
open Go Go.Abs Go.Argus
namespace Go.Proofs.Tryz.K
theorem aaC:zH N8 15 [] (.s (.bool true)):=by unfold zH;kernel_rfl
end Go.Proofs.Tryz.K
end
