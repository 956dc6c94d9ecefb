/- Part 13. -/
import Derived.Test.YtkogeiacmmckkaaGreatDoorFlowLists11
set_option linter.all false
section
open Go Go.Abs Go.Argus
namespace Go.Proofs.Tryz.K
theorem aif:wg prog (wA prog (uK vy) (EH vy) 100 21 (uA 4 19) .leaf 0)=some (.inl U0):=kr
end Go.Proofs.Tryz.K
end
