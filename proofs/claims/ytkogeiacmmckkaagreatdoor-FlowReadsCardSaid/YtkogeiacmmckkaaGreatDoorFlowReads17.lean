/- Part 17 of the proof; the last part says what is proved. -/
import Derived.Test.YtkogeiacmmckkaaGreatDoorFlowReads16
set_option linter.all false
section
open Go Go.Abs Go.Argus
namespace Go.Proofs.Tryz.K
theorem run1:pureR Tryz.prog (runD Tryz.prog (ctxE kn1) (evE kn1) 100 21 (rargs 4 100) .leaf 0)=some (.inl res1):=by kernel_rfl
end Go.Proofs.Tryz.K
end
