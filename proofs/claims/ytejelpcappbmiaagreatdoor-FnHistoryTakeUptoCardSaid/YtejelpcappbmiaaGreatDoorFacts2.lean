/- Part 1 of the proof: contracts of functions of the program. Conditions: none. -/
import Derived.Test.YtejelpcappbmiaaGreatDoorCards
import Derived.Test.YtejelpcappbmiaaGreatDoorTie
import Derived.WalkKit
import Derived.ProofKit
import Derived.Deep.DeepHandedRow
set_option linter.all false
set_option maxRecDepth 100000
set_option maxHeartbeats 8000000
namespace Go.Proofs.YtejelpcappbmiaaGreatDoor
open Go
theorem fa6:Tryz.pinned.checked.prog.mainIs=some (true,String.toList "0300215e12a10dfc539f774c50a6a7c0d0a3fba590ad65be723670b06c3de637"):=by kernel_rfl
theorem fa7:true=Tryz.pinned.checked.prog.looks []:=by kernel_rfl
end Go.Proofs.YtejelpcappbmiaaGreatDoor
