/- Part 29. -/
import Derived.Test.YtnagfmlifobdiaaGreatDoorShareApart28
set_option linter.all false
set_option maxHeartbeats 0
set_option maxRecDepth 10000
namespace Go.Proofs.YtnagfmlifobdiaaGreatDoor
open List
open Go
def aoa: Tryz.pinned.checked.prog.mainIs=some ((true,"75d14588cc31fe30f9342cda7ccad666ac09e033460ee3949779b1d0ee95fad0").1,((true,"75d14588cc31fe30f9342cda7ccad666ac09e033460ee3949779b1d0ee95fad0"):Bool×String).2.toList):=by kernel_rfl
def ams: Tryz.prog.funcNamed Rows.shareApartRow.func=some 10:=by kernel_rfl
def amt:true= Tryz.pinned.checked.prog.looks []:=by kernel_rfl
def amu:[22,3,3,43].all (λt=> !Tryz.prog.wantsStandIn t)=true:=by kernel_rfl
end Go.Proofs.YtnagfmlifobdiaaGreatDoor
