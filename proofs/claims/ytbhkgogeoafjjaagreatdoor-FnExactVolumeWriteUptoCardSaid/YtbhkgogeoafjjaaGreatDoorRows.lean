/-
  NARROWER THAN 'FOR EVERY INPUT', by the rows' own cells (each row's printed sentence says how): FnExactSnapDrop: laid · FnExactVolumeWrite: laid · FnSnapTake: laid · FnExactSnapBack: laid · FnSnapBackTwice: laid · FnSnapBack: laid · FnSnapBackTake: laid · FnSnapTakeDrop: laid · FnSnapDrop: laid · FnDiskWrite: laid · FnDiskWriteSnaps: laid · FnExactDiskWrite: laid.
  DERIVED. THE GIVEN ROWS OF THIS SEAT. 12 by the template 'for every input the law returns true; each argument reads behind the call as it read before'; 0 by the template 'total and deterministic' (their statements: YtbhkgogeoafjjaaGreatDoorTotals.lean).
  GIVEN WITH THE SEED: the statements are not yours to turn. If you find one false, say at which input.
  Laid BY PROGRAM, IN A SANDBOX (cutbox-rows.mjs): the forced cells as the released guide's own fill.sh prints them over the translation 54a61c1634e93e0a… (all of the seat's roots in one cut). By AI agents, Wed Nov 11 2026. No macro, syntax, notation, axiom, sorry.
-/
import Derived.Test.YtbhkgogeoafjjaaGreatDoorChecked
import GoSem.PinnedTables
import GoSem.Claim
import GoSem.ClaimJoined
import GoSem.ClaimMapViews
import Derived.JoinedTies
import Derived.KernelRfl
namespace Go.Proofs.YtbhkgogeoafjjaaGreatDoor
/- THE CELL 'sum', in the pinned program and in every row, IS THE sha256 OF THE DUMP (.gsa) THAT YtbhkgogeoafjjaaGreatDoorProg.lean LOADS. Nothing in Lean hashes anything: it is a label: what it is worth is what the hold of that sum in a sandbox is worth. -/
noncomputable def Tryz.pinned : Pinned := { name := "ytbhkgogeoafjjaagreatdoor", sum := "54a61c1634e93e0a5e2b29bdfeef4d3322889c7b80c5e2fe28e02b3f5408d1f1", checked := Tryz.checked }
namespace Rows
def none {H : Type} : Left H := { results := [], args := [] }

/- WHAT THE LISTED PACKAGE-LEVEL VARIABLES READ AS WHEN THE CALL BEGINS. Each datum BY PROGRAM (the guide's laid-datum.mjs) off the statement by which the dump's own 'gosem.cut.vars' lays the variable. In a bare row this is a premise. The card (YtbhkgogeoafjjaaGreatDoorCards.lean) ties it to the program's text. -/
def laid_unicode_utf8_acceptRanges {H : Type} : DataW H := .agg [.agg [.lit (.int .u8 128), .lit (.int .u8 191)], .agg [.lit (.int .u8 160), .lit (.int .u8 191)], .agg [.lit (.int .u8 128), .lit (.int .u8 159)], .agg [.lit (.int .u8 144), .lit (.int .u8 191)], .agg [.lit (.int .u8 128), .lit (.int .u8 143)], .agg [.lit (.int .u8 0), .lit (.int .u8 0)], .agg [.lit (.int .u8 0), .lit (.int .u8 0)], .agg [.lit (.int .u8 0), .lit (.int .u8 0)], .agg [.lit (.int .u8 0), .lit (.int .u8 0)], .agg [.lit (.int .u8 0), .lit (.int .u8 0)], .agg [.lit (.int .u8 0), .lit (.int .u8 0)], .agg [.lit (.int .u8 0), .lit (.int .u8 0)], .agg [.lit (.int .u8 0), .lit (.int .u8 0)], .agg [.lit (.int .u8 0), .lit (.int .u8 0)], .agg [.lit (.int .u8 0), .lit (.int .u8 0)], .agg [.lit (.int .u8 0), .lit (.int .u8 0)]]
/-- One of Go's own tables, pinned by name: the form's constant. -/
def laid_unicode_utf8_first : DataW Unit := Go.Pinned.utf8First

/-- 'laws.FnExactSnapDrop': WHATEVER THE INPUT: true; the input reads as it did. -/
def fnExactSnapDropSpec : ChangeSpec := { name := "fnExactSnapDrop", fn := fun _ => fun
  | [d1, d2] => { results := [.lit (.bool true)], args := [d1, d2] }
  | _ => none }
def fnExactSnapDropRow : OpenClaim := { program := "ytbhkgogeoafjjaagreatdoor", sum := "54a61c1634e93e0a5e2b29bdfeef4d3322889c7b80c5e2fe28e02b3f5408d1f1", func := "loop.example/snapshotfiles/laws.FnExactSnapDrop", spec := "fnExactSnapDrop", inPlace := ["(*internal/sync.Mutex).Lock", "internal/race.Disable", "sync/atomic.CompareAndSwapInt32", "internal/race.Enable", "internal/race.Acquire", "(*internal/sync.Mutex).lockSlow", "internal/sync.runtime_canSpin", "internal/sync.runtime_doSpin", "internal/sync.throw", "internal/sync.runtime_nanotime", "internal/sync.runtime_SemacquireMutex", "sync/atomic.AddInt32", "(*internal/sync.Mutex).Unlock", "internal/race.ReleaseMerge", "(*internal/sync.Mutex).unlockSlow", "internal/sync.fatal", "internal/sync.runtime_Semrelease", "internal/bytealg.CountString", "internal/bytealg.IndexByteString", "internal/bytealg.IndexString", "slices.overlaps[*loop.example/snapshotfiles/impl.node]"], unfollowed := true, recurses := true, named := ["unicode/utf8.first", "unicode/utf8.acceptRanges", "internal/bytealg.MaxLen"], apart := false, laid := [("unicode/utf8.acceptRanges", laid_unicode_utf8_acceptRanges), ("unicode/utf8.first", laid_unicode_utf8_first)] }
def FnExactSnapDropSaid : Prop := fnExactSnapDropRow.holds Tryz.pinned (OpenSpec.ofChange fnExactSnapDropSpec)

/-- ITS FALSE NEIGHBOUR: 'it returns false'. Refute it at one input. -/
def fnExactSnapDropWrong : ChangeSpec := { name := "fnExactSnapDrop", fn := fun _ => fun
  | [d1, d2] => { results := [.lit (.bool false)], args := [d1, d2] }
  | _ => none }
def FnExactSnapDropWrongFalsely : Prop := fnExactSnapDropRow.holds Tryz.pinned (OpenSpec.ofChange fnExactSnapDropWrong)

/-- 'laws.FnExactVolumeWrite': WHATEVER THE INPUT: true; the input reads as it did. -/
def fnExactVolumeWriteSpec : ChangeSpec := { name := "fnExactVolumeWrite", fn := fun _ => fun
  | [d1, d2, d3] => { results := [.lit (.bool true)], args := [d1, d2, d3] }
  | _ => none }
def fnExactVolumeWriteRow : OpenClaim := { program := "ytbhkgogeoafjjaagreatdoor", sum := "54a61c1634e93e0a5e2b29bdfeef4d3322889c7b80c5e2fe28e02b3f5408d1f1", func := "loop.example/snapshotfiles/laws.FnExactVolumeWrite", spec := "fnExactVolumeWrite", inPlace := ["internal/bytealg.CountString", "internal/bytealg.IndexByteString", "internal/bytealg.IndexString", "slices.overlaps[*loop.example/snapshotfiles/impl.node]"], unfollowed := true, recurses := true, named := ["unicode/utf8.first", "unicode/utf8.acceptRanges", "internal/bytealg.MaxLen"], apart := false, laid := [("unicode/utf8.acceptRanges", laid_unicode_utf8_acceptRanges), ("unicode/utf8.first", laid_unicode_utf8_first)] }
def FnExactVolumeWriteSaid : Prop := fnExactVolumeWriteRow.holds Tryz.pinned (OpenSpec.ofChange fnExactVolumeWriteSpec)

/-- ITS FALSE NEIGHBOUR: 'it returns false'. Refute it at one input. -/
def fnExactVolumeWriteWrong : ChangeSpec := { name := "fnExactVolumeWrite", fn := fun _ => fun
  | [d1, d2, d3] => { results := [.lit (.bool false)], args := [d1, d2, d3] }
  | _ => none }
def FnExactVolumeWriteWrongFalsely : Prop := fnExactVolumeWriteRow.holds Tryz.pinned (OpenSpec.ofChange fnExactVolumeWriteWrong)

/-- 'laws.FnSnapTake': WHATEVER THE INPUT: true; the input reads as it did. -/
def fnSnapTakeSpec : ChangeSpec := { name := "fnSnapTake", fn := fun _ => fun
  | [d] => { results := [.lit (.bool true)], args := [d] }
  | _ => none }
def fnSnapTakeRow : OpenClaim := { program := "ytbhkgogeoafjjaagreatdoor", sum := "54a61c1634e93e0a5e2b29bdfeef4d3322889c7b80c5e2fe28e02b3f5408d1f1", func := "loop.example/snapshotfiles/laws.FnSnapTake", spec := "fnSnapTake", inPlace := ["(*internal/sync.Mutex).Lock", "internal/race.Disable", "sync/atomic.CompareAndSwapInt32", "internal/race.Enable", "internal/race.Acquire", "(*internal/sync.Mutex).lockSlow", "internal/sync.runtime_canSpin", "internal/sync.runtime_doSpin", "internal/sync.throw", "internal/sync.runtime_nanotime", "internal/sync.runtime_SemacquireMutex", "sync/atomic.AddInt32", "(*internal/sync.Mutex).Unlock", "internal/race.ReleaseMerge", "(*internal/sync.Mutex).unlockSlow", "internal/sync.fatal", "internal/sync.runtime_Semrelease", "internal/bytealg.CountString", "internal/bytealg.IndexByteString", "internal/bytealg.IndexString", "slices.overlaps[*loop.example/snapshotfiles/impl.node]"], unfollowed := true, recurses := true, named := ["unicode/utf8.first", "unicode/utf8.acceptRanges", "internal/bytealg.MaxLen"], apart := false, laid := [("unicode/utf8.acceptRanges", laid_unicode_utf8_acceptRanges), ("unicode/utf8.first", laid_unicode_utf8_first)] }
def FnSnapTakeSaid : Prop := fnSnapTakeRow.holds Tryz.pinned (OpenSpec.ofChange fnSnapTakeSpec)

/-- ITS FALSE NEIGHBOUR: 'it returns false'. Refute it at one input. -/
def fnSnapTakeWrong : ChangeSpec := { name := "fnSnapTake", fn := fun _ => fun
  | [d] => { results := [.lit (.bool false)], args := [d] }
  | _ => none }
def FnSnapTakeWrongFalsely : Prop := fnSnapTakeRow.holds Tryz.pinned (OpenSpec.ofChange fnSnapTakeWrong)

/-- 'laws.FnExactSnapBack': WHATEVER THE INPUT: true; the input reads as it did. -/
def fnExactSnapBackSpec : ChangeSpec := { name := "fnExactSnapBack", fn := fun _ => fun
  | [d1, d2] => { results := [.lit (.bool true)], args := [d1, d2] }
  | _ => none }
def fnExactSnapBackRow : OpenClaim := { program := "ytbhkgogeoafjjaagreatdoor", sum := "54a61c1634e93e0a5e2b29bdfeef4d3322889c7b80c5e2fe28e02b3f5408d1f1", func := "loop.example/snapshotfiles/laws.FnExactSnapBack", spec := "fnExactSnapBack", inPlace := ["(*internal/sync.Mutex).Lock", "internal/race.Disable", "sync/atomic.CompareAndSwapInt32", "internal/race.Enable", "internal/race.Acquire", "(*internal/sync.Mutex).lockSlow", "internal/sync.runtime_canSpin", "internal/sync.runtime_doSpin", "internal/sync.throw", "internal/sync.runtime_nanotime", "internal/sync.runtime_SemacquireMutex", "sync/atomic.AddInt32", "(*internal/sync.Mutex).Unlock", "internal/race.ReleaseMerge", "(*internal/sync.Mutex).unlockSlow", "internal/sync.fatal", "internal/sync.runtime_Semrelease", "internal/bytealg.CountString", "internal/bytealg.IndexByteString", "internal/bytealg.IndexString", "slices.overlaps[*loop.example/snapshotfiles/impl.node]"], unfollowed := true, recurses := true, named := ["unicode/utf8.first", "unicode/utf8.acceptRanges", "internal/bytealg.MaxLen"], apart := false, laid := [("unicode/utf8.acceptRanges", laid_unicode_utf8_acceptRanges), ("unicode/utf8.first", laid_unicode_utf8_first)] }
def FnExactSnapBackSaid : Prop := fnExactSnapBackRow.holds Tryz.pinned (OpenSpec.ofChange fnExactSnapBackSpec)

/-- ITS FALSE NEIGHBOUR: 'it returns false'. Refute it at one input. -/
def fnExactSnapBackWrong : ChangeSpec := { name := "fnExactSnapBack", fn := fun _ => fun
  | [d1, d2] => { results := [.lit (.bool false)], args := [d1, d2] }
  | _ => none }
def FnExactSnapBackWrongFalsely : Prop := fnExactSnapBackRow.holds Tryz.pinned (OpenSpec.ofChange fnExactSnapBackWrong)

/-- 'laws.FnSnapBackTwice': WHATEVER THE INPUT: true; the input reads as it did. -/
def fnSnapBackTwiceSpec : ChangeSpec := { name := "fnSnapBackTwice", fn := fun _ => fun
  | [d] => { results := [.lit (.bool true)], args := [d] }
  | _ => none }
def fnSnapBackTwiceRow : OpenClaim := { program := "ytbhkgogeoafjjaagreatdoor", sum := "54a61c1634e93e0a5e2b29bdfeef4d3322889c7b80c5e2fe28e02b3f5408d1f1", func := "loop.example/snapshotfiles/laws.FnSnapBackTwice", spec := "fnSnapBackTwice", inPlace := ["(*internal/sync.Mutex).Lock", "internal/race.Disable", "sync/atomic.CompareAndSwapInt32", "internal/race.Enable", "internal/race.Acquire", "(*internal/sync.Mutex).lockSlow", "internal/sync.runtime_canSpin", "internal/sync.runtime_doSpin", "internal/sync.throw", "internal/sync.runtime_nanotime", "internal/sync.runtime_SemacquireMutex", "sync/atomic.AddInt32", "(*internal/sync.Mutex).Unlock", "internal/race.ReleaseMerge", "(*internal/sync.Mutex).unlockSlow", "internal/sync.fatal", "internal/sync.runtime_Semrelease", "internal/bytealg.CountString", "internal/bytealg.IndexByteString", "internal/bytealg.IndexString", "slices.overlaps[*loop.example/snapshotfiles/impl.node]"], unfollowed := true, recurses := true, named := ["unicode/utf8.first", "unicode/utf8.acceptRanges", "internal/bytealg.MaxLen"], apart := false, laid := [("unicode/utf8.acceptRanges", laid_unicode_utf8_acceptRanges), ("unicode/utf8.first", laid_unicode_utf8_first)] }
def FnSnapBackTwiceSaid : Prop := fnSnapBackTwiceRow.holds Tryz.pinned (OpenSpec.ofChange fnSnapBackTwiceSpec)

/-- ITS FALSE NEIGHBOUR: 'it returns false'. Refute it at one input. -/
def fnSnapBackTwiceWrong : ChangeSpec := { name := "fnSnapBackTwice", fn := fun _ => fun
  | [d] => { results := [.lit (.bool false)], args := [d] }
  | _ => none }
def FnSnapBackTwiceWrongFalsely : Prop := fnSnapBackTwiceRow.holds Tryz.pinned (OpenSpec.ofChange fnSnapBackTwiceWrong)

/-- 'laws.FnSnapBack': WHATEVER THE INPUT: true; the input reads as it did. -/
def fnSnapBackSpec : ChangeSpec := { name := "fnSnapBack", fn := fun _ => fun
  | [d] => { results := [.lit (.bool true)], args := [d] }
  | _ => none }
def fnSnapBackRow : OpenClaim := { program := "ytbhkgogeoafjjaagreatdoor", sum := "54a61c1634e93e0a5e2b29bdfeef4d3322889c7b80c5e2fe28e02b3f5408d1f1", func := "loop.example/snapshotfiles/laws.FnSnapBack", spec := "fnSnapBack", inPlace := ["(*internal/sync.Mutex).Lock", "internal/race.Disable", "sync/atomic.CompareAndSwapInt32", "internal/race.Enable", "internal/race.Acquire", "(*internal/sync.Mutex).lockSlow", "internal/sync.runtime_canSpin", "internal/sync.runtime_doSpin", "internal/sync.throw", "internal/sync.runtime_nanotime", "internal/sync.runtime_SemacquireMutex", "sync/atomic.AddInt32", "(*internal/sync.Mutex).Unlock", "internal/race.ReleaseMerge", "(*internal/sync.Mutex).unlockSlow", "internal/sync.fatal", "internal/sync.runtime_Semrelease", "internal/bytealg.CountString", "internal/bytealg.IndexByteString", "internal/bytealg.IndexString", "slices.overlaps[*loop.example/snapshotfiles/impl.node]"], unfollowed := true, recurses := true, named := ["unicode/utf8.first", "unicode/utf8.acceptRanges", "internal/bytealg.MaxLen"], apart := false, laid := [("unicode/utf8.acceptRanges", laid_unicode_utf8_acceptRanges), ("unicode/utf8.first", laid_unicode_utf8_first)] }
def FnSnapBackSaid : Prop := fnSnapBackRow.holds Tryz.pinned (OpenSpec.ofChange fnSnapBackSpec)

/-- ITS FALSE NEIGHBOUR: 'it returns false'. Refute it at one input. -/
def fnSnapBackWrong : ChangeSpec := { name := "fnSnapBack", fn := fun _ => fun
  | [d] => { results := [.lit (.bool false)], args := [d] }
  | _ => none }
def FnSnapBackWrongFalsely : Prop := fnSnapBackRow.holds Tryz.pinned (OpenSpec.ofChange fnSnapBackWrong)

/-- 'laws.FnSnapBackTake': WHATEVER THE INPUT: true; the input reads as it did. -/
def fnSnapBackTakeSpec : ChangeSpec := { name := "fnSnapBackTake", fn := fun _ => fun
  | [d] => { results := [.lit (.bool true)], args := [d] }
  | _ => none }
def fnSnapBackTakeRow : OpenClaim := { program := "ytbhkgogeoafjjaagreatdoor", sum := "54a61c1634e93e0a5e2b29bdfeef4d3322889c7b80c5e2fe28e02b3f5408d1f1", func := "loop.example/snapshotfiles/laws.FnSnapBackTake", spec := "fnSnapBackTake", inPlace := ["(*internal/sync.Mutex).Lock", "internal/race.Disable", "sync/atomic.CompareAndSwapInt32", "internal/race.Enable", "internal/race.Acquire", "(*internal/sync.Mutex).lockSlow", "internal/sync.runtime_canSpin", "internal/sync.runtime_doSpin", "internal/sync.throw", "internal/sync.runtime_nanotime", "internal/sync.runtime_SemacquireMutex", "sync/atomic.AddInt32", "(*internal/sync.Mutex).Unlock", "internal/race.ReleaseMerge", "(*internal/sync.Mutex).unlockSlow", "internal/sync.fatal", "internal/sync.runtime_Semrelease", "internal/bytealg.CountString", "internal/bytealg.IndexByteString", "internal/bytealg.IndexString", "slices.overlaps[*loop.example/snapshotfiles/impl.node]"], unfollowed := true, recurses := true, named := ["unicode/utf8.first", "unicode/utf8.acceptRanges", "internal/bytealg.MaxLen"], apart := false, laid := [("unicode/utf8.acceptRanges", laid_unicode_utf8_acceptRanges), ("unicode/utf8.first", laid_unicode_utf8_first)] }
def FnSnapBackTakeSaid : Prop := fnSnapBackTakeRow.holds Tryz.pinned (OpenSpec.ofChange fnSnapBackTakeSpec)

/-- ITS FALSE NEIGHBOUR: 'it returns false'. Refute it at one input. -/
def fnSnapBackTakeWrong : ChangeSpec := { name := "fnSnapBackTake", fn := fun _ => fun
  | [d] => { results := [.lit (.bool false)], args := [d] }
  | _ => none }
def FnSnapBackTakeWrongFalsely : Prop := fnSnapBackTakeRow.holds Tryz.pinned (OpenSpec.ofChange fnSnapBackTakeWrong)

/-- 'laws.FnSnapTakeDrop': WHATEVER THE INPUT: true; the input reads as it did. -/
def fnSnapTakeDropSpec : ChangeSpec := { name := "fnSnapTakeDrop", fn := fun _ => fun
  | [d] => { results := [.lit (.bool true)], args := [d] }
  | _ => none }
def fnSnapTakeDropRow : OpenClaim := { program := "ytbhkgogeoafjjaagreatdoor", sum := "54a61c1634e93e0a5e2b29bdfeef4d3322889c7b80c5e2fe28e02b3f5408d1f1", func := "loop.example/snapshotfiles/laws.FnSnapTakeDrop", spec := "fnSnapTakeDrop", inPlace := ["(*internal/sync.Mutex).Lock", "internal/race.Disable", "sync/atomic.CompareAndSwapInt32", "internal/race.Enable", "internal/race.Acquire", "(*internal/sync.Mutex).lockSlow", "internal/sync.runtime_canSpin", "internal/sync.runtime_doSpin", "internal/sync.throw", "internal/sync.runtime_nanotime", "internal/sync.runtime_SemacquireMutex", "sync/atomic.AddInt32", "(*internal/sync.Mutex).Unlock", "internal/race.ReleaseMerge", "(*internal/sync.Mutex).unlockSlow", "internal/sync.fatal", "internal/sync.runtime_Semrelease", "internal/bytealg.CountString", "internal/bytealg.IndexByteString", "internal/bytealg.IndexString", "slices.overlaps[*loop.example/snapshotfiles/impl.node]"], unfollowed := true, recurses := true, named := ["unicode/utf8.first", "unicode/utf8.acceptRanges", "internal/bytealg.MaxLen"], apart := false, laid := [("unicode/utf8.acceptRanges", laid_unicode_utf8_acceptRanges), ("unicode/utf8.first", laid_unicode_utf8_first)] }
def FnSnapTakeDropSaid : Prop := fnSnapTakeDropRow.holds Tryz.pinned (OpenSpec.ofChange fnSnapTakeDropSpec)

/-- ITS FALSE NEIGHBOUR: 'it returns false'. Refute it at one input. -/
def fnSnapTakeDropWrong : ChangeSpec := { name := "fnSnapTakeDrop", fn := fun _ => fun
  | [d] => { results := [.lit (.bool false)], args := [d] }
  | _ => none }
def FnSnapTakeDropWrongFalsely : Prop := fnSnapTakeDropRow.holds Tryz.pinned (OpenSpec.ofChange fnSnapTakeDropWrong)

/-- 'laws.FnSnapDrop': WHATEVER THE INPUT: true; the input reads as it did. -/
def fnSnapDropSpec : ChangeSpec := { name := "fnSnapDrop", fn := fun _ => fun
  | [d] => { results := [.lit (.bool true)], args := [d] }
  | _ => none }
def fnSnapDropRow : OpenClaim := { program := "ytbhkgogeoafjjaagreatdoor", sum := "54a61c1634e93e0a5e2b29bdfeef4d3322889c7b80c5e2fe28e02b3f5408d1f1", func := "loop.example/snapshotfiles/laws.FnSnapDrop", spec := "fnSnapDrop", inPlace := ["(*internal/sync.Mutex).Lock", "internal/race.Disable", "sync/atomic.CompareAndSwapInt32", "internal/race.Enable", "internal/race.Acquire", "(*internal/sync.Mutex).lockSlow", "internal/sync.runtime_canSpin", "internal/sync.runtime_doSpin", "internal/sync.throw", "internal/sync.runtime_nanotime", "internal/sync.runtime_SemacquireMutex", "sync/atomic.AddInt32", "(*internal/sync.Mutex).Unlock", "internal/race.ReleaseMerge", "(*internal/sync.Mutex).unlockSlow", "internal/sync.fatal", "internal/sync.runtime_Semrelease", "internal/bytealg.CountString", "internal/bytealg.IndexByteString", "internal/bytealg.IndexString", "slices.overlaps[*loop.example/snapshotfiles/impl.node]"], unfollowed := true, recurses := true, named := ["unicode/utf8.first", "unicode/utf8.acceptRanges", "internal/bytealg.MaxLen"], apart := false, laid := [("unicode/utf8.acceptRanges", laid_unicode_utf8_acceptRanges), ("unicode/utf8.first", laid_unicode_utf8_first)] }
def FnSnapDropSaid : Prop := fnSnapDropRow.holds Tryz.pinned (OpenSpec.ofChange fnSnapDropSpec)

/-- ITS FALSE NEIGHBOUR: 'it returns false'. Refute it at one input. -/
def fnSnapDropWrong : ChangeSpec := { name := "fnSnapDrop", fn := fun _ => fun
  | [d] => { results := [.lit (.bool false)], args := [d] }
  | _ => none }
def FnSnapDropWrongFalsely : Prop := fnSnapDropRow.holds Tryz.pinned (OpenSpec.ofChange fnSnapDropWrong)

/-- 'laws.FnDiskWrite': WHATEVER THE INPUT: true; the input reads as it did. -/
def fnDiskWriteSpec : ChangeSpec := { name := "fnDiskWrite", fn := fun _ => fun
  | [d] => { results := [.lit (.bool true)], args := [d] }
  | _ => none }
def fnDiskWriteRow : OpenClaim := { program := "ytbhkgogeoafjjaagreatdoor", sum := "54a61c1634e93e0a5e2b29bdfeef4d3322889c7b80c5e2fe28e02b3f5408d1f1", func := "loop.example/snapshotfiles/laws.FnDiskWrite", spec := "fnDiskWrite", inPlace := ["(*internal/sync.Mutex).Lock", "internal/race.Disable", "sync/atomic.CompareAndSwapInt32", "internal/race.Enable", "internal/race.Acquire", "(*internal/sync.Mutex).lockSlow", "internal/sync.runtime_canSpin", "internal/sync.runtime_doSpin", "internal/sync.throw", "internal/sync.runtime_nanotime", "internal/sync.runtime_SemacquireMutex", "sync/atomic.AddInt32", "(*internal/sync.Mutex).Unlock", "internal/race.ReleaseMerge", "(*internal/sync.Mutex).unlockSlow", "internal/sync.fatal", "internal/sync.runtime_Semrelease", "internal/bytealg.CountString", "internal/bytealg.IndexByteString", "internal/bytealg.IndexString", "slices.overlaps[*loop.example/snapshotfiles/impl.node]"], unfollowed := true, recurses := true, named := ["unicode/utf8.first", "unicode/utf8.acceptRanges", "internal/bytealg.MaxLen"], apart := false, laid := [("unicode/utf8.acceptRanges", laid_unicode_utf8_acceptRanges), ("unicode/utf8.first", laid_unicode_utf8_first)] }
def FnDiskWriteSaid : Prop := fnDiskWriteRow.holds Tryz.pinned (OpenSpec.ofChange fnDiskWriteSpec)

/-- ITS FALSE NEIGHBOUR: 'it returns false'. Refute it at one input. -/
def fnDiskWriteWrong : ChangeSpec := { name := "fnDiskWrite", fn := fun _ => fun
  | [d] => { results := [.lit (.bool false)], args := [d] }
  | _ => none }
def FnDiskWriteWrongFalsely : Prop := fnDiskWriteRow.holds Tryz.pinned (OpenSpec.ofChange fnDiskWriteWrong)

/-- 'laws.FnDiskWriteSnaps': WHATEVER THE INPUT: true; the input reads as it did. -/
def fnDiskWriteSnapsSpec : ChangeSpec := { name := "fnDiskWriteSnaps", fn := fun _ => fun
  | [d] => { results := [.lit (.bool true)], args := [d] }
  | _ => none }
def fnDiskWriteSnapsRow : OpenClaim := { program := "ytbhkgogeoafjjaagreatdoor", sum := "54a61c1634e93e0a5e2b29bdfeef4d3322889c7b80c5e2fe28e02b3f5408d1f1", func := "loop.example/snapshotfiles/laws.FnDiskWriteSnaps", spec := "fnDiskWriteSnaps", inPlace := ["(*internal/sync.Mutex).Lock", "internal/race.Disable", "sync/atomic.CompareAndSwapInt32", "internal/race.Enable", "internal/race.Acquire", "(*internal/sync.Mutex).lockSlow", "internal/sync.runtime_canSpin", "internal/sync.runtime_doSpin", "internal/sync.throw", "internal/sync.runtime_nanotime", "internal/sync.runtime_SemacquireMutex", "sync/atomic.AddInt32", "(*internal/sync.Mutex).Unlock", "internal/race.ReleaseMerge", "(*internal/sync.Mutex).unlockSlow", "internal/sync.fatal", "internal/sync.runtime_Semrelease", "internal/bytealg.CountString", "internal/bytealg.IndexByteString", "internal/bytealg.IndexString", "slices.overlaps[*loop.example/snapshotfiles/impl.node]"], unfollowed := true, recurses := true, named := ["unicode/utf8.first", "unicode/utf8.acceptRanges", "internal/bytealg.MaxLen"], apart := false, laid := [("unicode/utf8.acceptRanges", laid_unicode_utf8_acceptRanges), ("unicode/utf8.first", laid_unicode_utf8_first)] }
def FnDiskWriteSnapsSaid : Prop := fnDiskWriteSnapsRow.holds Tryz.pinned (OpenSpec.ofChange fnDiskWriteSnapsSpec)

/-- ITS FALSE NEIGHBOUR: 'it returns false'. Refute it at one input. -/
def fnDiskWriteSnapsWrong : ChangeSpec := { name := "fnDiskWriteSnaps", fn := fun _ => fun
  | [d] => { results := [.lit (.bool false)], args := [d] }
  | _ => none }
def FnDiskWriteSnapsWrongFalsely : Prop := fnDiskWriteSnapsRow.holds Tryz.pinned (OpenSpec.ofChange fnDiskWriteSnapsWrong)

/-- 'laws.FnExactDiskWrite': WHATEVER THE INPUT: true; the input reads as it did. -/
def fnExactDiskWriteSpec : ChangeSpec := { name := "fnExactDiskWrite", fn := fun _ => fun
  | [d1, d2, d3] => { results := [.lit (.bool true)], args := [d1, d2, d3] }
  | _ => none }
def fnExactDiskWriteRow : OpenClaim := { program := "ytbhkgogeoafjjaagreatdoor", sum := "54a61c1634e93e0a5e2b29bdfeef4d3322889c7b80c5e2fe28e02b3f5408d1f1", func := "loop.example/snapshotfiles/laws.FnExactDiskWrite", spec := "fnExactDiskWrite", inPlace := ["(*internal/sync.Mutex).Lock", "internal/race.Disable", "sync/atomic.CompareAndSwapInt32", "internal/race.Enable", "internal/race.Acquire", "(*internal/sync.Mutex).lockSlow", "internal/sync.runtime_canSpin", "internal/sync.runtime_doSpin", "internal/sync.throw", "internal/sync.runtime_nanotime", "internal/sync.runtime_SemacquireMutex", "sync/atomic.AddInt32", "(*internal/sync.Mutex).Unlock", "internal/race.ReleaseMerge", "(*internal/sync.Mutex).unlockSlow", "internal/sync.fatal", "internal/sync.runtime_Semrelease", "internal/bytealg.CountString", "internal/bytealg.IndexByteString", "internal/bytealg.IndexString", "slices.overlaps[*loop.example/snapshotfiles/impl.node]"], unfollowed := true, recurses := true, named := ["unicode/utf8.first", "unicode/utf8.acceptRanges", "internal/bytealg.MaxLen"], apart := false, laid := [("unicode/utf8.acceptRanges", laid_unicode_utf8_acceptRanges), ("unicode/utf8.first", laid_unicode_utf8_first)] }
def FnExactDiskWriteSaid : Prop := fnExactDiskWriteRow.holds Tryz.pinned (OpenSpec.ofChange fnExactDiskWriteSpec)

/-- ITS FALSE NEIGHBOUR: 'it returns false'. Refute it at one input. -/
def fnExactDiskWriteWrong : ChangeSpec := { name := "fnExactDiskWrite", fn := fun _ => fun
  | [d1, d2, d3] => { results := [.lit (.bool false)], args := [d1, d2, d3] }
  | _ => none }
def FnExactDiskWriteWrongFalsely : Prop := fnExactDiskWriteRow.holds Tryz.pinned (OpenSpec.ofChange fnExactDiskWriteWrong)

/- THE SECOND FORM. 'bulk': how many values and letters a reading holds, each counted each time it is reached (what is shared counts as often as it is met; a slice's spare places count too). A statement '..UptoSaid' is the law's where the arguments, and the package variables that the reading takes, are together of bulk at most 1048576: NARROWER than '..Said'. Prove '..Said' where nothing that the law and all that it calls make is longer than what came in: it says more and counts as full. Else prove '..UptoSaid'. A law counts once. -/
mutual
def uptoBulk {H : Type} : DataW H → Nat
  | .lit (.string bytes) => bytes.length + 1
  | .lit _ => 1
  | .nil => 1
  | .ptr d => uptoBulk d + 1
  | .slice elems spare => uptoBulkAll elems + uptoBulkAll spare + 1
  | .agg parts => uptoBulkAll parts + 1
  | .iface _ d => uptoBulk d + 1
  | .map entries => uptoBulkEntries entries + 1
  | .held _ => 1
def uptoBulkAll {H : Type} : List (DataW H) → Nat
  | [] => 0
  | d :: r => uptoBulk d + uptoBulkAll r
def uptoBulkEntries {H : Type} : List (Lit × DataW H) → Nat
  | [] => 0
  | x :: r => uptoBulkEntry x + uptoBulkEntries r
def uptoBulkEntry {H : Type} : Lit × DataW H → Nat
  | (.string bytes, d) => bytes.length + uptoBulk d + 1
  | (_, d) => uptoBulk d + 1
 end
def uptoSmall : (H : Type) → List (DataW H) → Bool := fun _ ds => decide (uptoBulkAll ds ≤ 1048576)
def OpenSpec.upto (s : _root_.Go.ChangeSpec) : _root_.Go.OpenSpec := { _root_.Go.OpenSpec.ofChange s with cond := some uptoSmall }

/-- 'laws.FnExactSnapDrop', WHERE WHAT IT READS IS OF BULK AT MOST 1048576: true; the input reads as it did. -/
def fnExactSnapDropUptoRow : OpenClaim := { program := "ytbhkgogeoafjjaagreatdoor", sum := "54a61c1634e93e0a5e2b29bdfeef4d3322889c7b80c5e2fe28e02b3f5408d1f1", func := "loop.example/snapshotfiles/laws.FnExactSnapDrop", spec := "fnExactSnapDrop", inPlace := ["(*internal/sync.Mutex).Lock", "internal/race.Disable", "sync/atomic.CompareAndSwapInt32", "internal/race.Enable", "internal/race.Acquire", "(*internal/sync.Mutex).lockSlow", "internal/sync.runtime_canSpin", "internal/sync.runtime_doSpin", "internal/sync.throw", "internal/sync.runtime_nanotime", "internal/sync.runtime_SemacquireMutex", "sync/atomic.AddInt32", "(*internal/sync.Mutex).Unlock", "internal/race.ReleaseMerge", "(*internal/sync.Mutex).unlockSlow", "internal/sync.fatal", "internal/sync.runtime_Semrelease", "internal/bytealg.CountString", "internal/bytealg.IndexByteString", "internal/bytealg.IndexString", "slices.overlaps[*loop.example/snapshotfiles/impl.node]"], unfollowed := true, recurses := true, named := ["unicode/utf8.first", "unicode/utf8.acceptRanges", "internal/bytealg.MaxLen"], apart := false, laid := [("unicode/utf8.acceptRanges", laid_unicode_utf8_acceptRanges), ("unicode/utf8.first", laid_unicode_utf8_first)], narrowed := true }
def FnExactSnapDropUptoSaid : Prop := fnExactSnapDropUptoRow.holds Tryz.pinned (OpenSpec.upto fnExactSnapDropSpec)

/-- 'laws.FnExactVolumeWrite', WHERE WHAT IT READS IS OF BULK AT MOST 1048576: true; the input reads as it did. -/
def fnExactVolumeWriteUptoRow : OpenClaim := { program := "ytbhkgogeoafjjaagreatdoor", sum := "54a61c1634e93e0a5e2b29bdfeef4d3322889c7b80c5e2fe28e02b3f5408d1f1", func := "loop.example/snapshotfiles/laws.FnExactVolumeWrite", spec := "fnExactVolumeWrite", inPlace := ["internal/bytealg.CountString", "internal/bytealg.IndexByteString", "internal/bytealg.IndexString", "slices.overlaps[*loop.example/snapshotfiles/impl.node]"], unfollowed := true, recurses := true, named := ["unicode/utf8.first", "unicode/utf8.acceptRanges", "internal/bytealg.MaxLen"], apart := false, laid := [("unicode/utf8.acceptRanges", laid_unicode_utf8_acceptRanges), ("unicode/utf8.first", laid_unicode_utf8_first)], narrowed := true }
def FnExactVolumeWriteUptoSaid : Prop := fnExactVolumeWriteUptoRow.holds Tryz.pinned (OpenSpec.upto fnExactVolumeWriteSpec)

/-- 'laws.FnSnapTake', WHERE WHAT IT READS IS OF BULK AT MOST 1048576: true; the input reads as it did. -/
def fnSnapTakeUptoRow : OpenClaim := { program := "ytbhkgogeoafjjaagreatdoor", sum := "54a61c1634e93e0a5e2b29bdfeef4d3322889c7b80c5e2fe28e02b3f5408d1f1", func := "loop.example/snapshotfiles/laws.FnSnapTake", spec := "fnSnapTake", inPlace := ["(*internal/sync.Mutex).Lock", "internal/race.Disable", "sync/atomic.CompareAndSwapInt32", "internal/race.Enable", "internal/race.Acquire", "(*internal/sync.Mutex).lockSlow", "internal/sync.runtime_canSpin", "internal/sync.runtime_doSpin", "internal/sync.throw", "internal/sync.runtime_nanotime", "internal/sync.runtime_SemacquireMutex", "sync/atomic.AddInt32", "(*internal/sync.Mutex).Unlock", "internal/race.ReleaseMerge", "(*internal/sync.Mutex).unlockSlow", "internal/sync.fatal", "internal/sync.runtime_Semrelease", "internal/bytealg.CountString", "internal/bytealg.IndexByteString", "internal/bytealg.IndexString", "slices.overlaps[*loop.example/snapshotfiles/impl.node]"], unfollowed := true, recurses := true, named := ["unicode/utf8.first", "unicode/utf8.acceptRanges", "internal/bytealg.MaxLen"], apart := false, laid := [("unicode/utf8.acceptRanges", laid_unicode_utf8_acceptRanges), ("unicode/utf8.first", laid_unicode_utf8_first)], narrowed := true }
def FnSnapTakeUptoSaid : Prop := fnSnapTakeUptoRow.holds Tryz.pinned (OpenSpec.upto fnSnapTakeSpec)

/-- 'laws.FnExactSnapBack', WHERE WHAT IT READS IS OF BULK AT MOST 1048576: true; the input reads as it did. -/
def fnExactSnapBackUptoRow : OpenClaim := { program := "ytbhkgogeoafjjaagreatdoor", sum := "54a61c1634e93e0a5e2b29bdfeef4d3322889c7b80c5e2fe28e02b3f5408d1f1", func := "loop.example/snapshotfiles/laws.FnExactSnapBack", spec := "fnExactSnapBack", inPlace := ["(*internal/sync.Mutex).Lock", "internal/race.Disable", "sync/atomic.CompareAndSwapInt32", "internal/race.Enable", "internal/race.Acquire", "(*internal/sync.Mutex).lockSlow", "internal/sync.runtime_canSpin", "internal/sync.runtime_doSpin", "internal/sync.throw", "internal/sync.runtime_nanotime", "internal/sync.runtime_SemacquireMutex", "sync/atomic.AddInt32", "(*internal/sync.Mutex).Unlock", "internal/race.ReleaseMerge", "(*internal/sync.Mutex).unlockSlow", "internal/sync.fatal", "internal/sync.runtime_Semrelease", "internal/bytealg.CountString", "internal/bytealg.IndexByteString", "internal/bytealg.IndexString", "slices.overlaps[*loop.example/snapshotfiles/impl.node]"], unfollowed := true, recurses := true, named := ["unicode/utf8.first", "unicode/utf8.acceptRanges", "internal/bytealg.MaxLen"], apart := false, laid := [("unicode/utf8.acceptRanges", laid_unicode_utf8_acceptRanges), ("unicode/utf8.first", laid_unicode_utf8_first)], narrowed := true }
def FnExactSnapBackUptoSaid : Prop := fnExactSnapBackUptoRow.holds Tryz.pinned (OpenSpec.upto fnExactSnapBackSpec)

/-- 'laws.FnSnapBackTwice', WHERE WHAT IT READS IS OF BULK AT MOST 1048576: true; the input reads as it did. -/
def fnSnapBackTwiceUptoRow : OpenClaim := { program := "ytbhkgogeoafjjaagreatdoor", sum := "54a61c1634e93e0a5e2b29bdfeef4d3322889c7b80c5e2fe28e02b3f5408d1f1", func := "loop.example/snapshotfiles/laws.FnSnapBackTwice", spec := "fnSnapBackTwice", inPlace := ["(*internal/sync.Mutex).Lock", "internal/race.Disable", "sync/atomic.CompareAndSwapInt32", "internal/race.Enable", "internal/race.Acquire", "(*internal/sync.Mutex).lockSlow", "internal/sync.runtime_canSpin", "internal/sync.runtime_doSpin", "internal/sync.throw", "internal/sync.runtime_nanotime", "internal/sync.runtime_SemacquireMutex", "sync/atomic.AddInt32", "(*internal/sync.Mutex).Unlock", "internal/race.ReleaseMerge", "(*internal/sync.Mutex).unlockSlow", "internal/sync.fatal", "internal/sync.runtime_Semrelease", "internal/bytealg.CountString", "internal/bytealg.IndexByteString", "internal/bytealg.IndexString", "slices.overlaps[*loop.example/snapshotfiles/impl.node]"], unfollowed := true, recurses := true, named := ["unicode/utf8.first", "unicode/utf8.acceptRanges", "internal/bytealg.MaxLen"], apart := false, laid := [("unicode/utf8.acceptRanges", laid_unicode_utf8_acceptRanges), ("unicode/utf8.first", laid_unicode_utf8_first)], narrowed := true }
def FnSnapBackTwiceUptoSaid : Prop := fnSnapBackTwiceUptoRow.holds Tryz.pinned (OpenSpec.upto fnSnapBackTwiceSpec)

/-- 'laws.FnSnapBack', WHERE WHAT IT READS IS OF BULK AT MOST 1048576: true; the input reads as it did. -/
def fnSnapBackUptoRow : OpenClaim := { program := "ytbhkgogeoafjjaagreatdoor", sum := "54a61c1634e93e0a5e2b29bdfeef4d3322889c7b80c5e2fe28e02b3f5408d1f1", func := "loop.example/snapshotfiles/laws.FnSnapBack", spec := "fnSnapBack", inPlace := ["(*internal/sync.Mutex).Lock", "internal/race.Disable", "sync/atomic.CompareAndSwapInt32", "internal/race.Enable", "internal/race.Acquire", "(*internal/sync.Mutex).lockSlow", "internal/sync.runtime_canSpin", "internal/sync.runtime_doSpin", "internal/sync.throw", "internal/sync.runtime_nanotime", "internal/sync.runtime_SemacquireMutex", "sync/atomic.AddInt32", "(*internal/sync.Mutex).Unlock", "internal/race.ReleaseMerge", "(*internal/sync.Mutex).unlockSlow", "internal/sync.fatal", "internal/sync.runtime_Semrelease", "internal/bytealg.CountString", "internal/bytealg.IndexByteString", "internal/bytealg.IndexString", "slices.overlaps[*loop.example/snapshotfiles/impl.node]"], unfollowed := true, recurses := true, named := ["unicode/utf8.first", "unicode/utf8.acceptRanges", "internal/bytealg.MaxLen"], apart := false, laid := [("unicode/utf8.acceptRanges", laid_unicode_utf8_acceptRanges), ("unicode/utf8.first", laid_unicode_utf8_first)], narrowed := true }
def FnSnapBackUptoSaid : Prop := fnSnapBackUptoRow.holds Tryz.pinned (OpenSpec.upto fnSnapBackSpec)

/-- 'laws.FnSnapBackTake', WHERE WHAT IT READS IS OF BULK AT MOST 1048576: true; the input reads as it did. -/
def fnSnapBackTakeUptoRow : OpenClaim := { program := "ytbhkgogeoafjjaagreatdoor", sum := "54a61c1634e93e0a5e2b29bdfeef4d3322889c7b80c5e2fe28e02b3f5408d1f1", func := "loop.example/snapshotfiles/laws.FnSnapBackTake", spec := "fnSnapBackTake", inPlace := ["(*internal/sync.Mutex).Lock", "internal/race.Disable", "sync/atomic.CompareAndSwapInt32", "internal/race.Enable", "internal/race.Acquire", "(*internal/sync.Mutex).lockSlow", "internal/sync.runtime_canSpin", "internal/sync.runtime_doSpin", "internal/sync.throw", "internal/sync.runtime_nanotime", "internal/sync.runtime_SemacquireMutex", "sync/atomic.AddInt32", "(*internal/sync.Mutex).Unlock", "internal/race.ReleaseMerge", "(*internal/sync.Mutex).unlockSlow", "internal/sync.fatal", "internal/sync.runtime_Semrelease", "internal/bytealg.CountString", "internal/bytealg.IndexByteString", "internal/bytealg.IndexString", "slices.overlaps[*loop.example/snapshotfiles/impl.node]"], unfollowed := true, recurses := true, named := ["unicode/utf8.first", "unicode/utf8.acceptRanges", "internal/bytealg.MaxLen"], apart := false, laid := [("unicode/utf8.acceptRanges", laid_unicode_utf8_acceptRanges), ("unicode/utf8.first", laid_unicode_utf8_first)], narrowed := true }
def FnSnapBackTakeUptoSaid : Prop := fnSnapBackTakeUptoRow.holds Tryz.pinned (OpenSpec.upto fnSnapBackTakeSpec)

/-- 'laws.FnSnapTakeDrop', WHERE WHAT IT READS IS OF BULK AT MOST 1048576: true; the input reads as it did. -/
def fnSnapTakeDropUptoRow : OpenClaim := { program := "ytbhkgogeoafjjaagreatdoor", sum := "54a61c1634e93e0a5e2b29bdfeef4d3322889c7b80c5e2fe28e02b3f5408d1f1", func := "loop.example/snapshotfiles/laws.FnSnapTakeDrop", spec := "fnSnapTakeDrop", inPlace := ["(*internal/sync.Mutex).Lock", "internal/race.Disable", "sync/atomic.CompareAndSwapInt32", "internal/race.Enable", "internal/race.Acquire", "(*internal/sync.Mutex).lockSlow", "internal/sync.runtime_canSpin", "internal/sync.runtime_doSpin", "internal/sync.throw", "internal/sync.runtime_nanotime", "internal/sync.runtime_SemacquireMutex", "sync/atomic.AddInt32", "(*internal/sync.Mutex).Unlock", "internal/race.ReleaseMerge", "(*internal/sync.Mutex).unlockSlow", "internal/sync.fatal", "internal/sync.runtime_Semrelease", "internal/bytealg.CountString", "internal/bytealg.IndexByteString", "internal/bytealg.IndexString", "slices.overlaps[*loop.example/snapshotfiles/impl.node]"], unfollowed := true, recurses := true, named := ["unicode/utf8.first", "unicode/utf8.acceptRanges", "internal/bytealg.MaxLen"], apart := false, laid := [("unicode/utf8.acceptRanges", laid_unicode_utf8_acceptRanges), ("unicode/utf8.first", laid_unicode_utf8_first)], narrowed := true }
def FnSnapTakeDropUptoSaid : Prop := fnSnapTakeDropUptoRow.holds Tryz.pinned (OpenSpec.upto fnSnapTakeDropSpec)

/-- 'laws.FnSnapDrop', WHERE WHAT IT READS IS OF BULK AT MOST 1048576: true; the input reads as it did. -/
def fnSnapDropUptoRow : OpenClaim := { program := "ytbhkgogeoafjjaagreatdoor", sum := "54a61c1634e93e0a5e2b29bdfeef4d3322889c7b80c5e2fe28e02b3f5408d1f1", func := "loop.example/snapshotfiles/laws.FnSnapDrop", spec := "fnSnapDrop", inPlace := ["(*internal/sync.Mutex).Lock", "internal/race.Disable", "sync/atomic.CompareAndSwapInt32", "internal/race.Enable", "internal/race.Acquire", "(*internal/sync.Mutex).lockSlow", "internal/sync.runtime_canSpin", "internal/sync.runtime_doSpin", "internal/sync.throw", "internal/sync.runtime_nanotime", "internal/sync.runtime_SemacquireMutex", "sync/atomic.AddInt32", "(*internal/sync.Mutex).Unlock", "internal/race.ReleaseMerge", "(*internal/sync.Mutex).unlockSlow", "internal/sync.fatal", "internal/sync.runtime_Semrelease", "internal/bytealg.CountString", "internal/bytealg.IndexByteString", "internal/bytealg.IndexString", "slices.overlaps[*loop.example/snapshotfiles/impl.node]"], unfollowed := true, recurses := true, named := ["unicode/utf8.first", "unicode/utf8.acceptRanges", "internal/bytealg.MaxLen"], apart := false, laid := [("unicode/utf8.acceptRanges", laid_unicode_utf8_acceptRanges), ("unicode/utf8.first", laid_unicode_utf8_first)], narrowed := true }
def FnSnapDropUptoSaid : Prop := fnSnapDropUptoRow.holds Tryz.pinned (OpenSpec.upto fnSnapDropSpec)

/-- 'laws.FnDiskWrite', WHERE WHAT IT READS IS OF BULK AT MOST 1048576: true; the input reads as it did. -/
def fnDiskWriteUptoRow : OpenClaim := { program := "ytbhkgogeoafjjaagreatdoor", sum := "54a61c1634e93e0a5e2b29bdfeef4d3322889c7b80c5e2fe28e02b3f5408d1f1", func := "loop.example/snapshotfiles/laws.FnDiskWrite", spec := "fnDiskWrite", inPlace := ["(*internal/sync.Mutex).Lock", "internal/race.Disable", "sync/atomic.CompareAndSwapInt32", "internal/race.Enable", "internal/race.Acquire", "(*internal/sync.Mutex).lockSlow", "internal/sync.runtime_canSpin", "internal/sync.runtime_doSpin", "internal/sync.throw", "internal/sync.runtime_nanotime", "internal/sync.runtime_SemacquireMutex", "sync/atomic.AddInt32", "(*internal/sync.Mutex).Unlock", "internal/race.ReleaseMerge", "(*internal/sync.Mutex).unlockSlow", "internal/sync.fatal", "internal/sync.runtime_Semrelease", "internal/bytealg.CountString", "internal/bytealg.IndexByteString", "internal/bytealg.IndexString", "slices.overlaps[*loop.example/snapshotfiles/impl.node]"], unfollowed := true, recurses := true, named := ["unicode/utf8.first", "unicode/utf8.acceptRanges", "internal/bytealg.MaxLen"], apart := false, laid := [("unicode/utf8.acceptRanges", laid_unicode_utf8_acceptRanges), ("unicode/utf8.first", laid_unicode_utf8_first)], narrowed := true }
def FnDiskWriteUptoSaid : Prop := fnDiskWriteUptoRow.holds Tryz.pinned (OpenSpec.upto fnDiskWriteSpec)

/-- 'laws.FnDiskWriteSnaps', WHERE WHAT IT READS IS OF BULK AT MOST 1048576: true; the input reads as it did. -/
def fnDiskWriteSnapsUptoRow : OpenClaim := { program := "ytbhkgogeoafjjaagreatdoor", sum := "54a61c1634e93e0a5e2b29bdfeef4d3322889c7b80c5e2fe28e02b3f5408d1f1", func := "loop.example/snapshotfiles/laws.FnDiskWriteSnaps", spec := "fnDiskWriteSnaps", inPlace := ["(*internal/sync.Mutex).Lock", "internal/race.Disable", "sync/atomic.CompareAndSwapInt32", "internal/race.Enable", "internal/race.Acquire", "(*internal/sync.Mutex).lockSlow", "internal/sync.runtime_canSpin", "internal/sync.runtime_doSpin", "internal/sync.throw", "internal/sync.runtime_nanotime", "internal/sync.runtime_SemacquireMutex", "sync/atomic.AddInt32", "(*internal/sync.Mutex).Unlock", "internal/race.ReleaseMerge", "(*internal/sync.Mutex).unlockSlow", "internal/sync.fatal", "internal/sync.runtime_Semrelease", "internal/bytealg.CountString", "internal/bytealg.IndexByteString", "internal/bytealg.IndexString", "slices.overlaps[*loop.example/snapshotfiles/impl.node]"], unfollowed := true, recurses := true, named := ["unicode/utf8.first", "unicode/utf8.acceptRanges", "internal/bytealg.MaxLen"], apart := false, laid := [("unicode/utf8.acceptRanges", laid_unicode_utf8_acceptRanges), ("unicode/utf8.first", laid_unicode_utf8_first)], narrowed := true }
def FnDiskWriteSnapsUptoSaid : Prop := fnDiskWriteSnapsUptoRow.holds Tryz.pinned (OpenSpec.upto fnDiskWriteSnapsSpec)

/-- 'laws.FnExactDiskWrite', WHERE WHAT IT READS IS OF BULK AT MOST 1048576: true; the input reads as it did. -/
def fnExactDiskWriteUptoRow : OpenClaim := { program := "ytbhkgogeoafjjaagreatdoor", sum := "54a61c1634e93e0a5e2b29bdfeef4d3322889c7b80c5e2fe28e02b3f5408d1f1", func := "loop.example/snapshotfiles/laws.FnExactDiskWrite", spec := "fnExactDiskWrite", inPlace := ["(*internal/sync.Mutex).Lock", "internal/race.Disable", "sync/atomic.CompareAndSwapInt32", "internal/race.Enable", "internal/race.Acquire", "(*internal/sync.Mutex).lockSlow", "internal/sync.runtime_canSpin", "internal/sync.runtime_doSpin", "internal/sync.throw", "internal/sync.runtime_nanotime", "internal/sync.runtime_SemacquireMutex", "sync/atomic.AddInt32", "(*internal/sync.Mutex).Unlock", "internal/race.ReleaseMerge", "(*internal/sync.Mutex).unlockSlow", "internal/sync.fatal", "internal/sync.runtime_Semrelease", "internal/bytealg.CountString", "internal/bytealg.IndexByteString", "internal/bytealg.IndexString", "slices.overlaps[*loop.example/snapshotfiles/impl.node]"], unfollowed := true, recurses := true, named := ["unicode/utf8.first", "unicode/utf8.acceptRanges", "internal/bytealg.MaxLen"], apart := false, laid := [("unicode/utf8.acceptRanges", laid_unicode_utf8_acceptRanges), ("unicode/utf8.first", laid_unicode_utf8_first)], narrowed := true }
def FnExactDiskWriteUptoSaid : Prop := fnExactDiskWriteUptoRow.holds Tryz.pinned (OpenSpec.upto fnExactDiskWriteSpec)

end Rows
end Go.Proofs.YtbhkgogeoafjjaaGreatDoor
