/- Part 27. -/
import Derived.Test.YtnagfmlifobdiaaGreatDoorShareShapes26
set_option linter.all false
namespace Go.Proofs.YtnagfmlifobdiaaGreatDoor
open Go
theorem agL: Tryz.pinned.checked.prog.mainIs=some ((true,"75d14588cc31fe30f9342cda7ccad666ac09e033460ee3949779b1d0ee95fad0").1,((true,"75d14588cc31fe30f9342cda7ccad666ac09e033460ee3949779b1d0ee95fad0"):Bool×String).2.toList):=by kernel_rfl
theorem aff: Tryz.prog.funcNamed Rows.shareShapesRow.func=some 9:=by kernel_rfl
theorem afg:true= Tryz.pinned.checked.prog.looks []:=by kernel_rfl
theorem afh:[48].all (fun t=> !Tryz.prog.wantsStandIn t)=true:=by kernel_rfl
end Go.Proofs.YtnagfmlifobdiaaGreatDoor
