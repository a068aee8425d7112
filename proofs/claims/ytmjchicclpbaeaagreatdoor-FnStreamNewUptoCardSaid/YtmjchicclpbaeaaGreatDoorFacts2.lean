/- Part 1 of the proof: contracts of functions of the program. Conditions: none. -/
import Derived.Test.YtmjchicclpbaeaaGreatDoorCards
import Derived.Test.YtmjchicclpbaeaaGreatDoorTie
import Derived.WalkKit
import Derived.ProofKit
import Derived.Deep.DeepHandedRow
set_option linter.all false
set_option maxRecDepth 100000
set_option maxHeartbeats 8000000
namespace Go.Proofs.YtmjchicclpbaeaaGreatDoor
open Go
theorem fa6:Tryz.pinned.checked.prog.mainIs=some (true,String.toList "a17095437d7eac94caaeebd7a1b6131764a5a4f4955e4dab3f66af07766cf77c"):=by kernel_rfl
theorem fa7:true=Tryz.pinned.checked.prog.looks []:=by kernel_rfl
end Go.Proofs.YtmjchicclpbaeaaGreatDoor
