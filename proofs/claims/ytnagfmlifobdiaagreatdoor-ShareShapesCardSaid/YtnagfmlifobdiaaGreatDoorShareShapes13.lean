/- Part 13. -/
import Derived.Test.YtnagfmlifobdiaaGreatDoorShareShapes12
set_option linter.all false
section
open Go Go.Abs Go.Argus
namespace Go.Proofs.Tryz.K
theorem agN:xC [] 42 [] l5:=by unfold xC;kernel_rfl
end Go.Proofs.Tryz.K
end
