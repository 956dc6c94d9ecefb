/- Part 16. -/
import Derived.Test.YtkogeiacmmckkaaGreatDoorFlowMemory11
set_option linter.all false
section
open Go Go.Abs Go.Argus
namespace Go.Proofs.Tryz.K
theorem abL:zb NY 15 [] (.s (.bool true)):=by unfold zb;kernel_rfl
end Go.Proofs.Tryz.K
end
