/- Part 1 of the proof: contracts of functions of the program. Conditions: none. -/
import Derived.Test.YtbhkgogeoafjjaaGreatDoorCards
import Derived.Test.YtbhkgogeoafjjaaGreatDoorTie
import Derived.WalkKit
import Derived.ProofKit
import Derived.Deep.DeepHandedRow
set_option linter.all false
set_option maxRecDepth 100000
set_option maxHeartbeats 1000000
namespace Go.Proofs.YtbhkgogeoafjjaaGreatDoor
open Go
theorem fa6 : Tryz.pinned.checked.prog.mainIs = some (true, String.toList "72500ccbdb650097a5e94cef0033c8d8ca5c5c6b8ac668af99a3168403793fa5") := by kernel_rfl
theorem fa7 : false = Tryz.pinned.checked.prog.looks [] := by kernel_rfl
end Go.Proofs.YtbhkgogeoafjjaaGreatDoor
