/- Part 15. -/
import Derived.Test.YtkogeiacmmckkaaGreatDoorFlowMemory11
set_option linter.all false
section
open Go Go.Abs Go.Argus
namespace Go.Proofs.Tryz.K
theorem ajs:vy prog (vN prog (tR uu) (DU uu) 100 21 (tH 1000000000 100000) .leaf 0)=some (.inl Vu):=kr
end Go.Proofs.Tryz.K
end
