/- Part 16. -/
import Derived.Test.YtnagfmlifobdiaaGreatDoorShareShapes12
set_option linter.all false
section
open Go Go.Abs Go.Argus
namespace Go.Proofs.Tryz.K
theorem adF:xC Q5 15 [] (.s (.bool true)):=by unfold xC;kernel_rfl
end Go.Proofs.Tryz.K
end
