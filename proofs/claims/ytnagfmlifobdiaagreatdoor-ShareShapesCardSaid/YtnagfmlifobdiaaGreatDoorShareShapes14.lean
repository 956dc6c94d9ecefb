/- Part 14. -/
import Derived.Test.YtnagfmlifobdiaaGreatDoorShareShapes12
set_option linter.all false
section
open Go Go.Abs Go.Argus
namespace Go.Proofs.Tryz.K
theorem ahQ:xC [] 30 [l5] ZP:=by unfold xC;kernel_rfl
end Go.Proofs.Tryz.K
end
