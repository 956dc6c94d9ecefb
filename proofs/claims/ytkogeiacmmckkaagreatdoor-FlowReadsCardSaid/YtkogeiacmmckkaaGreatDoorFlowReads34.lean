/- Part 34 of the proof; the last part says what is proved. -/
import Derived.Test.YtkogeiacmmckkaaGreatDoorFlowReads33
set_option linter.all false
namespace Go.Proofs.YtkogeiacmmckkaaGreatDoor
open Go
theorem lawMain: Tryz.pinned.checked.prog.mainIs=some ((true,"50c3ce7dc696c71ef8a4ed887c2289f09903b060a54006b3442a8d4cd7a9db5b").1,((true,"50c3ce7dc696c71ef8a4ed887c2289f09903b060a54006b3442a8d4cd7a9db5b"):Bool×String).2.toList):=by kernel_rfl
theorem lawNamed: Tryz.prog.funcNamed Rows.flowReadsRow.func=some 6:=by kernel_rfl
theorem lawLooks:true= Tryz.pinned.checked.prog.looks []:=by kernel_rfl
theorem lawStand:[45,48].all (fun t=> !Tryz.prog.wantsStandIn t)=true:=by kernel_rfl
end Go.Proofs.YtkogeiacmmckkaaGreatDoor
