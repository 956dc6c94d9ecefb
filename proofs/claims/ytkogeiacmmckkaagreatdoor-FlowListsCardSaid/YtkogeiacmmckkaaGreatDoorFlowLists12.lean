/- Part 12. -/
import Derived.Test.YtkogeiacmmckkaaGreatDoorFlowLists11
set_option linter.all false
section
open Go Go.Abs Go.Argus
namespace Go.Proofs.Tryz.K
theorem aie:wg prog (wA prog (uK vy) (EH vy) 100 21 (uA 4 100) .leaf 0)=some (.inl UZ):=kr
end Go.Proofs.Tryz.K
end
