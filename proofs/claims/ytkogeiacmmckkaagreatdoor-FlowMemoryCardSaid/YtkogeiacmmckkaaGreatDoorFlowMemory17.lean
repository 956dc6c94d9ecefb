/- Part 17. -/
import Derived.Test.YtkogeiacmmckkaaGreatDoorFlowMemory11
set_option linter.all false
section
open Go Go.Abs Go.Argus
namespace Go.Proofs.Tryz.K
theorem abM:zb [] 16 [SF] (I 81):=by unfold zb;kernel_rfl
end Go.Proofs.Tryz.K
end
