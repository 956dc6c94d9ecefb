/- Part 15. -/
import Derived.Test.YtkogeiacmmckkaaGreatDoorFlowLists11
set_option linter.all false
section
open Go Go.Abs Go.Argus
namespace Go.Proofs.Tryz.K
theorem aid:wg prog (wA prog (uK vy) (EH vy) 100 21 (uA 1000000000 100000) .leaf 0)=some (.inl UY):=kr
end Go.Proofs.Tryz.K
end
