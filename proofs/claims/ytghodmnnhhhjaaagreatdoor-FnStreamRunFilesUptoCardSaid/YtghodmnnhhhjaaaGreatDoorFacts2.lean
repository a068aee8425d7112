/- Part 1 of the proof: contracts of functions of the program. Conditions: none. -/
import Derived.Test.YtghodmnnhhhjaaaGreatDoorCards
import Derived.Test.YtghodmnnhhhjaaaGreatDoorTie
import Derived.WalkKit
import Derived.ProofKit
import Derived.Deep.DeepHandedRow
set_option linter.all false
set_option maxRecDepth 100000
set_option maxHeartbeats 8000000
namespace Go.Proofs.YtghodmnnhhhjaaaGreatDoor
open Go
theorem fa6:Tryz.pinned.checked.prog.mainIs=some (true,String.toList "7fdb4fd7b413f6a2b4c4b53232a322f88fb31a36bac308ed008c2430c1edf363"):=by kernel_rfl
theorem fa7:true=Tryz.pinned.checked.prog.looks []:=by kernel_rfl
end Go.Proofs.YtghodmnnhhhjaaaGreatDoor
