/- Part 1 of the proof: contracts of functions of the program. Conditions: none. -/
import Derived.Test.YteahfcbalmlklaaGreatDoorCards
import Derived.Test.YteahfcbalmlklaaGreatDoorTie
import Derived.WalkKit
import Derived.ProofKit
import Derived.Deep.DeepHandedRow
set_option linter.all false
set_option maxRecDepth 100000
set_option maxHeartbeats 8000000
namespace Go.Proofs.YteahfcbalmlklaaGreatDoor
open Go
theorem fa6:Tryz.pinned.checked.prog.mainIs=some (true,String.toList "718f944642588179053f01dbf35b8d9eb9817389ccc4e7420a99088a3b00f673"):=by kernel_rfl
theorem fa7:false=Tryz.pinned.checked.prog.looks []:=by kernel_rfl
end Go.Proofs.YteahfcbalmlklaaGreatDoor
