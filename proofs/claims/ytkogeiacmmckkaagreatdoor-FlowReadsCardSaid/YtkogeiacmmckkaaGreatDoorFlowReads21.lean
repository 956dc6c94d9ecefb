/- Part 21 of the proof; the last part says what is proved. -/
import Derived.Test.YtkogeiacmmckkaaGreatDoorFlowReads16
set_option linter.all false
section
open Go Go.Abs Go.Argus
namespace Go.Proofs.Tryz.K
theorem flows_ev:prE kn2 15 [] (.s (.bool true)):=by unfold prE;kernel_rfl
end Go.Proofs.Tryz.K
end
