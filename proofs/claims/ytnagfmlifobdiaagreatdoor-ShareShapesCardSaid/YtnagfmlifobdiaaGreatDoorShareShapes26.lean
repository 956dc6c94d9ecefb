/- Part 26. -/
import Derived.KernelRfl
import Derived.SevenTiedAt
import Derived.Test.YtnagfmlifobdiaaGreatDoorCards
import Derived.Test.YtnagfmlifobdiaaGreatDoorRows
set_option linter.all false
namespace Go.Proofs.YtnagfmlifobdiaaGreatDoor
open Go
theorem agM:false=Rows.shareShapesRow.goesBy Tryz.pinned.checked.prog:=by kernel_rfl
end Go.Proofs.YtnagfmlifobdiaaGreatDoor
