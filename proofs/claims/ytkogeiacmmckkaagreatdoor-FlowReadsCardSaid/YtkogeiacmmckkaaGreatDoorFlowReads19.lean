/- Part 19 of the proof; the last part says what is proved. -/
import Derived.Test.YtkogeiacmmckkaaGreatDoorFlowReads16
set_option linter.all false
section
open Go Go.Abs
namespace Go.Proofs.Tryz.K
theorem ck_sum:prE [] 16 [sumD] (.s (.int .i64 0)):=by unfold prE;kernel_rfl
end Go.Proofs.Tryz.K
end
