/- Part 26. -/
import Derived.Test.YtkogeiacmmckkaaGreatDoorFlowMemory25
set_option linter.all false
namespace Go.Proofs.YtkogeiacmmckkaaGreatDoor
open Go
theorem ac2: Tryz.pinned.checked.prog.mainIs=some ((true,"50c3ce7dc696c71ef8a4ed887c2289f09903b060a54006b3442a8d4cd7a9db5b").1,((true,"50c3ce7dc696c71ef8a4ed887c2289f09903b060a54006b3442a8d4cd7a9db5b"):Bool×String).2.toList):=by kernel_rfl
theorem abI: Tryz.prog.funcNamed Rows.flowMemoryRow.func=some 10:=by kernel_rfl
theorem abJ:true= Tryz.pinned.checked.prog.looks []:=by kernel_rfl
theorem abK:[26,35].all (fun t=> !Tryz.prog.wantsStandIn t)=true:=by kernel_rfl
end Go.Proofs.YtkogeiacmmckkaaGreatDoor
