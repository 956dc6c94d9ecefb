/- Part 25. -/
import Derived.KernelRfl
import Derived.SevenTiedAt
import Derived.Test.YtkogeiacmmckkaaGreatDoorCards
import Derived.Test.YtkogeiacmmckkaaGreatDoorRows
set_option linter.all false
namespace Go.Proofs.YtkogeiacmmckkaaGreatDoor
open Go
theorem ac3:false=Rows.flowMemoryRow.goesBy Tryz.pinned.checked.prog:=by kernel_rfl
end Go.Proofs.YtkogeiacmmckkaaGreatDoor
