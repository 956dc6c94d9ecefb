/- Part 12. -/
import Derived.Test.YtkogeiacmmckkaaGreatDoorFlowNames11
set_option linter.all false
set_option maxHeartbeats 0
set_option maxRecDepth 10000
section
open Go List
namespace Go.Abs
open Go.Proofs.Tryz
def aqn:zZ prog (An prog (yM zp) (IX zp) 100 21 (yz 4 100) .leaf 0)=some (.inl aaJ):=kr
end Go.Abs
end
