/- Part 1 of the proof: contracts of functions of the program. Conditions: none. -/
import Derived.Test.YtddaepdfmhkaeaaGreatDoorCards
import Derived.Test.YtddaepdfmhkaeaaGreatDoorTie
import Derived.WalkKit
import Derived.ProofKit
import Derived.Deep.DeepHandedRow
set_option linter.all false
set_option maxRecDepth 100000
set_option maxHeartbeats 1000000
namespace Go.Proofs.YtddaepdfmhkaeaaGreatDoor
open Go
theorem fa6 : Tryz.pinned.checked.prog.mainIs = some (true, String.toList "392305ab5481acb1e21bf12a3529232227240a663160a21fe45473a326a3c5a3") := by kernel_rfl
theorem fa7 : false = Tryz.pinned.checked.prog.looks [] := by kernel_rfl
end Go.Proofs.YtddaepdfmhkaeaaGreatDoor
