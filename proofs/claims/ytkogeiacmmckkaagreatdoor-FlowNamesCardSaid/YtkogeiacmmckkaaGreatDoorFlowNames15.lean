/- Part 15. -/
import Derived.Test.YtkogeiacmmckkaaGreatDoorFlowNames11
set_option linter.all false
set_option maxHeartbeats 0
set_option maxRecDepth 10000
section
open Go List
namespace Go.Abs
open Go.Proofs.Tryz
def aqm:zZ prog (An prog (yM zp) (IX zp) 100 21 (yz 1000000000 100000) .leaf 0)=some (.inl aaI):=kr
end Go.Abs
end
