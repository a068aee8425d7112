/- Part 1 of the proof: contracts of functions of the program. Conditions: none. -/
import Derived.Test.YtcagigfnblfnkaaGreatDoorCards
import Derived.Test.YtcagigfnblfnkaaGreatDoorTie
import Derived.WalkKit
import Derived.ProofKit
import Derived.Deep.DeepHandedRow
set_option linter.all false
set_option maxRecDepth 100000
set_option maxHeartbeats 8000000
namespace Go.Proofs.YtcagigfnblfnkaaGreatDoor
open Go Tryz
theorem fa6:pinned.checked.prog.mainIs=some (true,String.toList "e99077bbd6eec43518b8cc90cec52cf758e488c1c59893d2dd30b078a56116f2"):=by kernel_rfl
theorem fa7:true=pinned.checked.prog.looks []:=by kernel_rfl
end Go.Proofs.YtcagigfnblfnkaaGreatDoor
