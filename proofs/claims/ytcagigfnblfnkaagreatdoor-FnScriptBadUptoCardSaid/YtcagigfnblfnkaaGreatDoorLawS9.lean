/- The law FnScriptBad returns true for all arguments, and leaves them as they were: the second form (what it reads is of bulk at most 1048576), tied to the program's text. Conditions: none but the bound. -/
import Derived.Stop.LaidErr
import Derived.LaidHandle
import Derived.Test.YtcagigfnblfnkaaGreatDoorCards
import Derived.Test.YtcagigfnblfnkaaGreatDoorTie
import Derived.WalkKit
import Derived.ProofKit
import Derived.OpenShut
import Derived.ChangeMaps5
import Derived.Deep.DeepHandedRow
import Derived.Lib.LaidTab
import Derived.Test.YtcagigfnblfnkaaGreatDoorFacts2
import Derived.Test.YtcagigfnblfnkaaGreatDoorLawS9B
import Derived.Test.YtcagigfnblfnkaaGreatDoorG06
import Derived.Test.YtcagigfnblfnkaaGreatDoorG05
set_option linter.all false
set_option maxRecDepth 100000
set_option maxHeartbeats 8000000
namespace Go.Proofs.YtcagigfnblfnkaaGreatDoor.fnScriptBad
open Go Fw Go.ChangeShapes Go.ChangeMaps Go.WideShapes Go.ChangeAt Go.RowKit Go.Proofs.Tst
theorem plain (f:FuncId)(fn:Func)(hf:Tryz.pinned.checked.prog.funcNamed Rows.fnScriptBadUptoRow.func=some f)(hfn:Tryz.pinned.checked.prog.funcs[f]? = some fn) :
  true=Tryz.pinned.checked.prog.looks []∧∀(j:Nat) t,fn.params[j]? = some t→Tryz.pinned.checked.prog.wantsStandIn t=false:=by
 obtain rfl:f=8:=Option.some.inj ((show Tryz.prog.funcNamed Rows.fnScriptBadUptoRow.func=some 8 by kernel_rfl).symm.trans hf) |>.symm;obtain rfl:fn=Tryz.f8:=(Option.some.inj<|Tryz.func8.symm.trans hfn).symm;refine⟨fa7,fun j t ht=>?_⟩;rw[Tryz.params8]at ht;have hm:=Array.mem_of_getElem? ht;have key:∀t,t ∈ [22]→Tryz.prog.wantsStandIn t=false:=by decide +kernel
 exact key t (by simpa using hm)
end Go.Proofs.YtcagigfnblfnkaaGreatDoor.fnScriptBad
namespace Go.Proofs.YtcagigfnblfnkaaGreatDoor
open Go
theorem fnScriptBad_holds:Rows.FnScriptBadUptoCardSaid :=
 Claim7.holds_tied_plain_at .later [] _ _ _ _ fnScriptBad.saidUpto (fun _ h=>by cases h) (by kernel_rfl) (fun _ h=>by cases h) fnScriptBadUpto_row_tie rfl ⟨rfl,rfl⟩ fa6 rfl fnScriptBad.plain (by kernel_rfl)
end Go.Proofs.YtcagigfnblfnkaaGreatDoor
