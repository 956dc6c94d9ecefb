/- Part 31. -/
import Derived.Test.YtkogeiacmmckkaaGreatDoorFlowNames30
set_option linter.all false
set_option maxHeartbeats 0
set_option maxRecDepth 10000
namespace Go.Proofs.YtkogeiacmmckkaaGreatDoor
open List
open Go
def aiG: Tryz.pinned.checked.prog.mainIs=some ((true,"50c3ce7dc696c71ef8a4ed887c2289f09903b060a54006b3442a8d4cd7a9db5b").1,((true,"50c3ce7dc696c71ef8a4ed887c2289f09903b060a54006b3442a8d4cd7a9db5b"):Bool×String).2.toList):=by kernel_rfl
def ahf: Tryz.prog.funcNamed Rows.flowNamesRow.func=some 11:=by kernel_rfl
def ahg:true= Tryz.pinned.checked.prog.looks []:=by kernel_rfl
def ahh:[26,35,35].all (λt=> !Tryz.prog.wantsStandIn t)=true:=by kernel_rfl
end Go.Proofs.YtkogeiacmmckkaaGreatDoor
