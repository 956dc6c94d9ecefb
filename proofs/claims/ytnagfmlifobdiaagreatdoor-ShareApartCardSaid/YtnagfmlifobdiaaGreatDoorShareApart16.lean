/- Part 16. -/
import Derived.Test.YtnagfmlifobdiaaGreatDoorShareApart15
set_option linter.all false
set_option maxHeartbeats 0
set_option maxRecDepth 10000
section
open Go List
namespace Go.Abs
open Go.Proofs.Tryz
def aoc:A8 [] 42 [] l5:=by unfold A8;kernel_rfl
end Go.Abs
end
