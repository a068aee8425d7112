/- Part 1 of the proof: contracts of functions of the program. Conditions: none. -/
import Derived.Test.YtcnapjpnemcolaaGreatDoorCards
import Derived.Test.YtcnapjpnemcolaaGreatDoorTie
import Derived.WalkKit
import Derived.ProofKit
import Derived.Deep.DeepHandedRow
set_option linter.all false
set_option maxRecDepth 100000
set_option maxHeartbeats 1000000
namespace Go.Proofs.YtcnapjpnemcolaaGreatDoor
open Go
theorem fa6 : Tryz.pinned.checked.prog.mainIs = some (true, String.toList "385be58299e7515beefdf30b805cf2a0db6aa9846c8bf9c7825975b73c911d51") := by kernel_rfl
theorem fa7 : true = Tryz.pinned.checked.prog.looks [] := by kernel_rfl
end Go.Proofs.YtcnapjpnemcolaaGreatDoor
