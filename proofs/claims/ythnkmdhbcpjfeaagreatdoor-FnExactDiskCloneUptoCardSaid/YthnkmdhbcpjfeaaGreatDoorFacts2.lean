/- Part 1 of the proof: contracts of functions of the program. Conditions: none. -/
import Derived.Test.YthnkmdhbcpjfeaaGreatDoorCards
import Derived.Test.YthnkmdhbcpjfeaaGreatDoorTie
import Derived.WalkKit
import Derived.ProofKit
import Derived.Deep.DeepHandedRow
set_option linter.all false
set_option maxRecDepth 100000
set_option maxHeartbeats 8000000
namespace Go.Proofs.YthnkmdhbcpjfeaaGreatDoor
open Go
theorem fa6:Tryz.pinned.checked.prog.mainIs=some (true,String.toList "a2785facabc163145fac87402934a125b3f8153471f7c6462b9f18aa641bedb2"):=by kernel_rfl
theorem fa7:false=Tryz.pinned.checked.prog.looks []:=by kernel_rfl
end Go.Proofs.YthnkmdhbcpjfeaaGreatDoor
