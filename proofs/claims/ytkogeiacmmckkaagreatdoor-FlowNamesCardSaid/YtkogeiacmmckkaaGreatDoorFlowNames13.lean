/- Part 13. -/
import Derived.Test.YtkogeiacmmckkaaGreatDoorFlowNames11
set_option linter.all false
set_option maxHeartbeats 0
set_option maxRecDepth 10000
section
open Go List
namespace Go.Abs
open Go.Proofs.Tryz
def aqo:zZ prog (An prog (yM zp) (IX zp) 100 21 (yz 4 19) .leaf 0)=some (.inl aaK):=kr
end Go.Abs
end
