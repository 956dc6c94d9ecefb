/- Part 33 of the proof; the last part says what is proved. -/
import Derived.KernelRfl
import Derived.SevenTiedAt
import Derived.Test.YtkogeiacmmckkaaGreatDoorCards
import Derived.Test.YtkogeiacmmckkaaGreatDoorRows
set_option linter.all false
namespace Go.Proofs.YtkogeiacmmckkaaGreatDoor
open Go
theorem lawGoes:false=Rows.flowReadsRow.goesBy Tryz.pinned.checked.prog:=by kernel_rfl
end Go.Proofs.YtkogeiacmmckkaaGreatDoor
