/- Part 0 of the proof: contracts of functions of the program. Conditions: none. -/
import Derived.Test.YtcagigfnblfnkaaGreatDoorCards
import Derived.Test.YtcagigfnblfnkaaGreatDoorTie
import Derived.WalkKit
import Derived.ProofKit
import Derived.Deep.DeepHandedRow
set_option linter.all false
set_option maxRecDepth 100000
set_option maxHeartbeats 8000000
namespace Go.Proofs.YtcagigfnblfnkaaGreatDoor
open Go Tryz
theorem aw0 {a b:Bool}(h1:a=true)(h2:b=true):(a&&b)=true:=by rw[h1,h2];rfl
theorem fa1:laidOutB pinned.checked.prog=true:=by kernel_rfl
theorem fa2:mapsRowed pinned.checked.prog=true:=by kernel_rfl
theorem fa3:pinned.checked.prog.stopsHeard=true:=by kernel_rfl
theorem fa4:pinned.checked.prog.mayEnter=true:=by kernel_rfl
theorem fa5:pinned.checked.prog.liftsFinal=false:=by kernel_rfl
end Go.Proofs.YtcagigfnblfnkaaGreatDoor
