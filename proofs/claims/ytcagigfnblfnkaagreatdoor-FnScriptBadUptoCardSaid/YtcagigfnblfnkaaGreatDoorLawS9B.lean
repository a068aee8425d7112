/- Part 13 of the proof: contracts of functions of the program. Conditions: none. -/
import Derived.Stop.LaidErr
import Derived.LaidHandle
import Derived.Test.YtcagigfnblfnkaaGreatDoorCards
import Derived.Test.YtcagigfnblfnkaaGreatDoorTie
import Derived.WalkKit
import Derived.ProofKit
import Derived.OpenShut
import Derived.ChangeMaps5
import Derived.Deep.DeepHandedRow
import Derived.Lib.LaidTab
import Derived.Test.YtcagigfnblfnkaaGreatDoorFacts
import Derived.Test.YtcagigfnblfnkaaGreatDoorLawS9A
import Derived.Test.YtcagigfnblfnkaaGreatDoorG06
import Derived.Test.YtcagigfnblfnkaaGreatDoorG05
set_option linter.all false
set_option maxRecDepth 100000
set_option maxHeartbeats 8000000
namespace Go.Proofs.YtcagigfnblfnkaaGreatDoor.fnScriptBad
open Go Fw Go.ChangeShapes Go.ChangeMaps Go.WideShapes Go.ChangeAt Go.RowKit Go.Proofs.Tst
theorem saidUpto:Rows.FnScriptBadUptoSaid :=
 OpenClaim.holds_of_cond 8 Tryz.f8 rfl rfl rfl rfl rfl rfl rfl ⟨rfl,rfl,rfl,rfl,rfl⟩ rfl rfl rfl rfl rfl (by kernel_rfl) Tryz.func8 (by
   unfold joinedFacts
   repeat' (with_reducible refine aw0 ?_ ?_)
   all_goals first|(with_reducible exact fa1)|(with_reducible exact fa2)|(with_reducible exact fa3)|(with_reducible exact fa4)|(rw[fa5];first|done|kernel_rfl)|(as_aux_lemma=>kernel_rfl))
  (of_decide_eq_true<|by kernel_rfl) (by unfold Func.isWrapper;first|(rw[if_pos<|by decide +kernel];kernel_rfl)|(rw[if_neg<|by decide +kernel];exact⟨rfl,rfl⟩))
  (fun os started H enc _ F=>by rw[OpenClaim.pre_eq_preRow];exact liftedUpto os started H enc F)
end Go.Proofs.YtcagigfnblfnkaaGreatDoor.fnScriptBad
