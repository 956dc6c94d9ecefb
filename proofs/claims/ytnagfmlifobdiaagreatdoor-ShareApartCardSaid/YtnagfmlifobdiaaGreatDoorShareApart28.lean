/- Part 28. -/
import Derived.KernelRfl
import Derived.SevenTiedAt
import Derived.Test.YtnagfmlifobdiaaGreatDoorCards
import Derived.Test.YtnagfmlifobdiaaGreatDoorRows
set_option linter.all false
set_option maxHeartbeats 0
set_option maxRecDepth 10000
namespace Go.Proofs.YtnagfmlifobdiaaGreatDoor
open List
open Go
def aob:false=Rows.shareApartRow.goesBy Tryz.pinned.checked.prog:=by kernel_rfl
end Go.Proofs.YtnagfmlifobdiaaGreatDoor
