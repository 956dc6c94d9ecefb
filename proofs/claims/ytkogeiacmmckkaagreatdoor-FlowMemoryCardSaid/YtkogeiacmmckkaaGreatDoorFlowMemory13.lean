/- Part 13. -/
import Derived.Test.YtkogeiacmmckkaaGreatDoorFlowMemory11
set_option linter.all false
section
open Go Go.Abs Go.Argus
namespace Go.Proofs.Tryz.K
theorem aju:vy prog (vN prog (tR uu) (DU uu) 100 21 (tH 4 19) .leaf 0)=some (.inl Vw):=kr
end Go.Proofs.Tryz.K
end
