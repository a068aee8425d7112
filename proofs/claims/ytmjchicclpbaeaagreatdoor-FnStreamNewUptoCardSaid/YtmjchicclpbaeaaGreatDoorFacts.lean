/- Part 0 of the proof: contracts of functions of the program. Conditions: none. -/
import Derived.Test.YtmjchicclpbaeaaGreatDoorCards
import Derived.Test.YtmjchicclpbaeaaGreatDoorTie
import Derived.WalkKit
import Derived.ProofKit
import Derived.Deep.DeepHandedRow
set_option linter.all false
set_option maxRecDepth 100000
set_option maxHeartbeats 8000000
namespace Go.Proofs.YtmjchicclpbaeaaGreatDoor
open Go
theorem band {a b:Bool}(h1:a=true)(h2:b=true):(a&&b)=true:=by rw[h1,h2];rfl
theorem fa1:laidOutB Tryz.pinned.checked.prog=true:=by kernel_rfl
theorem fa2:mapsRowed Tryz.pinned.checked.prog=true:=by kernel_rfl
theorem fa3:Tryz.pinned.checked.prog.stopsHeard=true:=by kernel_rfl
theorem fa4:Tryz.pinned.checked.prog.mayEnter=true:=by kernel_rfl
theorem fa5:Tryz.pinned.checked.prog.liftsFinal=false:=by kernel_rfl
end Go.Proofs.YtmjchicclpbaeaaGreatDoor
