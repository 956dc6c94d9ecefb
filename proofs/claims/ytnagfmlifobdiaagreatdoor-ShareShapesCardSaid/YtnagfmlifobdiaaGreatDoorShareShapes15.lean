/- Part 15. -/
import Derived.Test.YtnagfmlifobdiaaGreatDoorShareShapes12
set_option linter.all false
section
open Go Go.Abs Go.Argus
namespace Go.Proofs.Tryz.K
theorem agO:xC Q6 43 [l5] ZQ:=by unfold xC;kernel_rfl
end Go.Proofs.Tryz.K
end
