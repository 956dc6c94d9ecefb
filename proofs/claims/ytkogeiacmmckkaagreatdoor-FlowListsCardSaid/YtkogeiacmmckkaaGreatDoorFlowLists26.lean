/- Part 26. -/
import Derived.KernelRfl
import Derived.SevenTiedAt
import Derived.Test.YtkogeiacmmckkaaGreatDoorCards
import Derived.Test.YtkogeiacmmckkaaGreatDoorRows
set_option linter.all false
namespace Go.Proofs.YtkogeiacmmckkaaGreatDoor
open Go
theorem abR:false=Rows.flowListsRow.goesBy Tryz.pinned.checked.prog:=by kernel_rfl
end Go.Proofs.YtkogeiacmmckkaaGreatDoor
