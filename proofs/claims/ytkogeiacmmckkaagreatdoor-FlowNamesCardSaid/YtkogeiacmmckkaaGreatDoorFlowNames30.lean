/- Part 30. -/
import Derived.KernelRfl
import Derived.SevenTiedAt
import Derived.Test.YtkogeiacmmckkaaGreatDoorCards
import Derived.Test.YtkogeiacmmckkaaGreatDoorRows
set_option linter.all false
set_option maxHeartbeats 0
set_option maxRecDepth 10000
namespace Go.Proofs.YtkogeiacmmckkaaGreatDoor
open List
open Go
def aiH:false=Rows.flowNamesRow.goesBy Tryz.pinned.checked.prog:=by kernel_rfl
end Go.Proofs.YtkogeiacmmckkaaGreatDoor
