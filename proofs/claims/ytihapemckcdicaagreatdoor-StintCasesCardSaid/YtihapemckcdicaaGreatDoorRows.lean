/-
  NARROWER THAN 'FOR EVERY INPUT', by the rows' own cells (each row's printed sentence says how): StintCases: calm, laid · StintRotas: calm, laid · StintReached: calm, laid · StintShallow: calm, laid · StintAccident: calm, laid · StintClashes: calm, laid · StintAsked: calm, laid · StintFirst: calm, laid · StintAlone: calm, laid · StintCrew: calm, laid · StintDropped: calm, laid · StintRested: calm, laid · StintAnyOrder: calm, laid · StintNews: calm, laid · StintLearnt: calm, laid · StintDives: calm, laid · StintReal: calm, laid.
  DERIVED. THE GIVEN ROWS OF THIS SEAT. 17 by the template 'for every input the law returns true; each argument reads behind the call as it read before'; 0 by the template 'total and deterministic' (their statements: YtihapemckcdicaaGreatDoorTotals.lean).
  GIVEN WITH THE SEED: the statements are not yours to turn. If you find one false, say at which input.
  Laid BY PROGRAM, IN A SANDBOX (cutbox-rows.mjs): the forced cells as the released guide's own fill.sh prints them over the translation ed233102c86605d1… (all of the seat's roots in one cut). By AI agents, Wed Nov 11 2026. No macro, syntax, notation, axiom, sorry.
-/
import Derived.Test.YtihapemckcdicaaGreatDoorChecked
import GoSem.Claim
import GoSem.ClaimJoined
import GoSem.ClaimMapViews
import Derived.JoinedTies
import Derived.KernelRfl
namespace Go.Proofs.YtihapemckcdicaaGreatDoor
/- THE CELL 'sum', in the pinned program and in every row, IS THE sha256 OF THE DUMP (.gsa) THAT YtihapemckcdicaaGreatDoorProg.lean LOADS. Nothing in Lean hashes anything: it is a label: what it is worth is what the hold of that sum in a sandbox is worth. -/
noncomputable def Tryz.pinned : Pinned := { name := "ytihapemckcdicaagreatdoor", sum := "ed233102c86605d15797b8da8ecafdb65f0c4380c27f253a4891d66067cd0ee2", checked := Tryz.checked }
namespace Rows
def none {H : Type} : Left H := { results := [], args := [] }

/- WHAT THE LISTED PACKAGE-LEVEL VARIABLES READ AS WHEN THE CALL BEGINS. Each datum BY PROGRAM (the guide's laid-datum.mjs) off the statement by which the dump's own 'gosem.cut.vars' lays the variable. In a bare row this is a premise. The card (YtihapemckcdicaaGreatDoorCards.lean) ties it to the program's text. -/
def laid_lagan_stint_checks {H : Type} : DataW H := .iface "func table" (.agg [.iface "func" (.lit (.string [40, 108, 97, 103, 97, 110, 47, 115, 116, 105, 110, 116, 46, 98, 111, 111, 107, 41, 46, 114, 101, 115, 116])), .iface "func" (.lit (.string [40, 108, 97, 103, 97, 110, 47, 115, 116, 105, 110, 116, 46, 98, 111, 111, 107, 41, 46, 116, 97, 98, 108, 101])), .iface "func" (.lit (.string [40, 108, 97, 103, 97, 110, 47, 115, 116, 105, 110, 116, 46, 98, 111, 111, 107, 41, 46, 112, 108, 97, 99, 101, 115])), .iface "func" (.lit (.string [40, 108, 97, 103, 97, 110, 47, 115, 116, 105, 110, 116, 46, 98, 111, 111, 107, 41, 46, 109, 101, 110])), .iface "func" (.lit (.string [40, 108, 97, 103, 97, 110, 47, 115, 116, 105, 110, 116, 46, 98, 111, 111, 107, 41, 46, 100, 105, 118, 101, 115])), .iface "func" (.lit (.string [40, 108, 97, 103, 97, 110, 47, 115, 116, 105, 110, 116, 46, 98, 111, 111, 107, 41, 46, 115, 111, 117, 110, 100, 105, 110, 103, 115]))])

/-- 'laganlaw05.StintCases': WHATEVER THE INPUT: true; the input reads as it did. -/
def stintCasesSpec : ChangeSpec := { name := "stintCases", fn := fun _ => fun
  | [d1, d2, d3, d4, d5] => { results := [.lit (.bool true)], args := [d1, d2, d3, d4, d5] }
  | _ => none }
def stintCasesRow : OpenClaim := { program := "ytihapemckcdicaagreatdoor", sum := "ed233102c86605d15797b8da8ecafdb65f0c4380c27f253a4891d66067cd0ee2", func := "lagan/laganlaw05.StintCases", spec := "stintCases", inPlace := ["(*sync.WaitGroup).Add", "internal/race.ReleaseMerge", "internal/race.Disable", "internal/race.Enable", "internal/synctest.IsInBubble", "internal/synctest.Associate[sync.WaitGroup]", "sync.fatal", "sync/atomic.OrUint64", "sync/atomic.AddUint64", "internal/race.Read", "sync/atomic.LoadUint64", "sync/atomic.StoreUint64", "internal/synctest.Disassociate[sync.WaitGroup]", "sync.runtime_Semrelease", "(*sync.WaitGroup).Done", "(*internal/sync.Mutex).Lock", "sync/atomic.CompareAndSwapInt32", "internal/race.Acquire", "(*internal/sync.Mutex).lockSlow", "internal/sync.runtime_canSpin", "internal/sync.runtime_doSpin", "internal/sync.throw", "internal/sync.runtime_nanotime", "internal/sync.runtime_SemacquireMutex", "sync/atomic.AddInt32", "(*internal/sync.Mutex).Unlock", "(*internal/sync.Mutex).unlockSlow", "internal/sync.fatal", "internal/sync.runtime_Semrelease", "(*sync.WaitGroup).Wait", "internal/synctest.IsAssociated[sync.WaitGroup]", "sync/atomic.CompareAndSwapUint64", "internal/race.Write", "sync.runtime_SemacquireWaitGroup"], unfollowed := true, recurses := true, named := ["lagan/stint.checks"], leaving := true, apart := false, calm := true, outside := [.timePasses], laid := [("lagan/stint.checks", laid_lagan_stint_checks)] }
def StintCasesSaid : Prop := stintCasesRow.holds Tryz.pinned (OpenSpec.ofChange stintCasesSpec)

/-- ITS FALSE NEIGHBOUR: 'it returns false'. Refute it at one input. -/
def stintCasesWrong : ChangeSpec := { name := "stintCases", fn := fun _ => fun
  | [d1, d2, d3, d4, d5] => { results := [.lit (.bool false)], args := [d1, d2, d3, d4, d5] }
  | _ => none }
def StintCasesWrongFalsely : Prop := stintCasesRow.holds Tryz.pinned (OpenSpec.ofChange stintCasesWrong)

/-- 'laganlaw05.StintRotas': WHATEVER THE INPUT: true; the input reads as it did. -/
def stintRotasSpec : ChangeSpec := { name := "stintRotas", fn := fun _ => fun
  | [d] => { results := [.lit (.bool true)], args := [d] }
  | _ => none }
def stintRotasRow : OpenClaim := { program := "ytihapemckcdicaagreatdoor", sum := "ed233102c86605d15797b8da8ecafdb65f0c4380c27f253a4891d66067cd0ee2", func := "lagan/laganlaw05.StintRotas", spec := "stintRotas", inPlace := ["(*sync.WaitGroup).Add", "internal/race.ReleaseMerge", "internal/race.Disable", "internal/race.Enable", "internal/synctest.IsInBubble", "internal/synctest.Associate[sync.WaitGroup]", "sync.fatal", "sync/atomic.OrUint64", "sync/atomic.AddUint64", "internal/race.Read", "sync/atomic.LoadUint64", "sync/atomic.StoreUint64", "internal/synctest.Disassociate[sync.WaitGroup]", "sync.runtime_Semrelease", "(*sync.WaitGroup).Done", "(*internal/sync.Mutex).Lock", "sync/atomic.CompareAndSwapInt32", "internal/race.Acquire", "(*internal/sync.Mutex).lockSlow", "internal/sync.runtime_canSpin", "internal/sync.runtime_doSpin", "internal/sync.throw", "internal/sync.runtime_nanotime", "internal/sync.runtime_SemacquireMutex", "sync/atomic.AddInt32", "(*internal/sync.Mutex).Unlock", "(*internal/sync.Mutex).unlockSlow", "internal/sync.fatal", "internal/sync.runtime_Semrelease", "(*sync.WaitGroup).Wait", "internal/synctest.IsAssociated[sync.WaitGroup]", "sync/atomic.CompareAndSwapUint64", "internal/race.Write", "sync.runtime_SemacquireWaitGroup"], unfollowed := true, recurses := true, named := ["lagan/stint.checks"], leaving := true, apart := false, calm := true, outside := [.timePasses], laid := [("lagan/stint.checks", laid_lagan_stint_checks)] }
def StintRotasSaid : Prop := stintRotasRow.holds Tryz.pinned (OpenSpec.ofChange stintRotasSpec)

/-- ITS FALSE NEIGHBOUR: 'it returns false'. Refute it at one input. -/
def stintRotasWrong : ChangeSpec := { name := "stintRotas", fn := fun _ => fun
  | [d] => { results := [.lit (.bool false)], args := [d] }
  | _ => none }
def StintRotasWrongFalsely : Prop := stintRotasRow.holds Tryz.pinned (OpenSpec.ofChange stintRotasWrong)

/-- 'laganlaw05.StintReached': WHATEVER THE INPUT: true; the input reads as it did. -/
def stintReachedSpec : ChangeSpec := { name := "stintReached", fn := fun _ => fun
  | [d1, d2] => { results := [.lit (.bool true)], args := [d1, d2] }
  | _ => none }
def stintReachedRow : OpenClaim := { program := "ytihapemckcdicaagreatdoor", sum := "ed233102c86605d15797b8da8ecafdb65f0c4380c27f253a4891d66067cd0ee2", func := "lagan/laganlaw05.StintReached", spec := "stintReached", inPlace := ["(*sync.WaitGroup).Add", "internal/race.ReleaseMerge", "internal/race.Disable", "internal/race.Enable", "internal/synctest.IsInBubble", "internal/synctest.Associate[sync.WaitGroup]", "sync.fatal", "sync/atomic.OrUint64", "sync/atomic.AddUint64", "internal/race.Read", "sync/atomic.LoadUint64", "sync/atomic.StoreUint64", "internal/synctest.Disassociate[sync.WaitGroup]", "sync.runtime_Semrelease", "(*sync.WaitGroup).Done", "(*internal/sync.Mutex).Lock", "sync/atomic.CompareAndSwapInt32", "internal/race.Acquire", "(*internal/sync.Mutex).lockSlow", "internal/sync.runtime_canSpin", "internal/sync.runtime_doSpin", "internal/sync.throw", "internal/sync.runtime_nanotime", "internal/sync.runtime_SemacquireMutex", "sync/atomic.AddInt32", "(*internal/sync.Mutex).Unlock", "(*internal/sync.Mutex).unlockSlow", "internal/sync.fatal", "internal/sync.runtime_Semrelease", "(*sync.WaitGroup).Wait", "internal/synctest.IsAssociated[sync.WaitGroup]", "sync/atomic.CompareAndSwapUint64", "internal/race.Write", "sync.runtime_SemacquireWaitGroup"], unfollowed := true, recurses := true, named := ["lagan/stint.checks"], leaving := true, apart := false, calm := true, outside := [.timePasses], laid := [("lagan/stint.checks", laid_lagan_stint_checks)] }
def StintReachedSaid : Prop := stintReachedRow.holds Tryz.pinned (OpenSpec.ofChange stintReachedSpec)

/-- ITS FALSE NEIGHBOUR: 'it returns false'. Refute it at one input. -/
def stintReachedWrong : ChangeSpec := { name := "stintReached", fn := fun _ => fun
  | [d1, d2] => { results := [.lit (.bool false)], args := [d1, d2] }
  | _ => none }
def StintReachedWrongFalsely : Prop := stintReachedRow.holds Tryz.pinned (OpenSpec.ofChange stintReachedWrong)

/-- 'laganlaw05.StintShallow': WHATEVER THE INPUT: true; the input reads as it did. -/
def stintShallowSpec : ChangeSpec := { name := "stintShallow", fn := fun _ => fun
  | [d1, d2, d3, d4] => { results := [.lit (.bool true)], args := [d1, d2, d3, d4] }
  | _ => none }
def stintShallowRow : OpenClaim := { program := "ytihapemckcdicaagreatdoor", sum := "ed233102c86605d15797b8da8ecafdb65f0c4380c27f253a4891d66067cd0ee2", func := "lagan/laganlaw05.StintShallow", spec := "stintShallow", inPlace := ["(*sync.WaitGroup).Add", "internal/race.ReleaseMerge", "internal/race.Disable", "internal/race.Enable", "internal/synctest.IsInBubble", "internal/synctest.Associate[sync.WaitGroup]", "sync.fatal", "sync/atomic.OrUint64", "sync/atomic.AddUint64", "internal/race.Read", "sync/atomic.LoadUint64", "sync/atomic.StoreUint64", "internal/synctest.Disassociate[sync.WaitGroup]", "sync.runtime_Semrelease", "(*sync.WaitGroup).Done", "(*internal/sync.Mutex).Lock", "sync/atomic.CompareAndSwapInt32", "internal/race.Acquire", "(*internal/sync.Mutex).lockSlow", "internal/sync.runtime_canSpin", "internal/sync.runtime_doSpin", "internal/sync.throw", "internal/sync.runtime_nanotime", "internal/sync.runtime_SemacquireMutex", "sync/atomic.AddInt32", "(*internal/sync.Mutex).Unlock", "(*internal/sync.Mutex).unlockSlow", "internal/sync.fatal", "internal/sync.runtime_Semrelease", "(*sync.WaitGroup).Wait", "internal/synctest.IsAssociated[sync.WaitGroup]", "sync/atomic.CompareAndSwapUint64", "internal/race.Write", "sync.runtime_SemacquireWaitGroup"], unfollowed := true, recurses := true, named := ["lagan/stint.checks"], leaving := true, apart := false, calm := true, outside := [.timePasses], laid := [("lagan/stint.checks", laid_lagan_stint_checks)] }
def StintShallowSaid : Prop := stintShallowRow.holds Tryz.pinned (OpenSpec.ofChange stintShallowSpec)

/-- ITS FALSE NEIGHBOUR: 'it returns false'. Refute it at one input. -/
def stintShallowWrong : ChangeSpec := { name := "stintShallow", fn := fun _ => fun
  | [d1, d2, d3, d4] => { results := [.lit (.bool false)], args := [d1, d2, d3, d4] }
  | _ => none }
def StintShallowWrongFalsely : Prop := stintShallowRow.holds Tryz.pinned (OpenSpec.ofChange stintShallowWrong)

/-- 'laganlaw05.StintAccident': WHATEVER THE INPUT: true; the input reads as it did. -/
def stintAccidentSpec : ChangeSpec := { name := "stintAccident", fn := fun _ => fun
  | [d1, d2, d3, d4] => { results := [.lit (.bool true)], args := [d1, d2, d3, d4] }
  | _ => none }
def stintAccidentRow : OpenClaim := { program := "ytihapemckcdicaagreatdoor", sum := "ed233102c86605d15797b8da8ecafdb65f0c4380c27f253a4891d66067cd0ee2", func := "lagan/laganlaw05.StintAccident", spec := "stintAccident", inPlace := ["(*sync.WaitGroup).Add", "internal/race.ReleaseMerge", "internal/race.Disable", "internal/race.Enable", "internal/synctest.IsInBubble", "internal/synctest.Associate[sync.WaitGroup]", "sync.fatal", "sync/atomic.OrUint64", "sync/atomic.AddUint64", "internal/race.Read", "sync/atomic.LoadUint64", "sync/atomic.StoreUint64", "internal/synctest.Disassociate[sync.WaitGroup]", "sync.runtime_Semrelease", "(*sync.WaitGroup).Done", "(*internal/sync.Mutex).Lock", "sync/atomic.CompareAndSwapInt32", "internal/race.Acquire", "(*internal/sync.Mutex).lockSlow", "internal/sync.runtime_canSpin", "internal/sync.runtime_doSpin", "internal/sync.throw", "internal/sync.runtime_nanotime", "internal/sync.runtime_SemacquireMutex", "sync/atomic.AddInt32", "(*internal/sync.Mutex).Unlock", "(*internal/sync.Mutex).unlockSlow", "internal/sync.fatal", "internal/sync.runtime_Semrelease", "(*sync.WaitGroup).Wait", "internal/synctest.IsAssociated[sync.WaitGroup]", "sync/atomic.CompareAndSwapUint64", "internal/race.Write", "sync.runtime_SemacquireWaitGroup"], unfollowed := true, recurses := true, named := ["lagan/stint.checks"], leaving := true, apart := false, calm := true, outside := [.timePasses], laid := [("lagan/stint.checks", laid_lagan_stint_checks)] }
def StintAccidentSaid : Prop := stintAccidentRow.holds Tryz.pinned (OpenSpec.ofChange stintAccidentSpec)

/-- ITS FALSE NEIGHBOUR: 'it returns false'. Refute it at one input. -/
def stintAccidentWrong : ChangeSpec := { name := "stintAccident", fn := fun _ => fun
  | [d1, d2, d3, d4] => { results := [.lit (.bool false)], args := [d1, d2, d3, d4] }
  | _ => none }
def StintAccidentWrongFalsely : Prop := stintAccidentRow.holds Tryz.pinned (OpenSpec.ofChange stintAccidentWrong)

/-- 'laganlaw05.StintClashes': WHATEVER THE INPUT: true; the input reads as it did. -/
def stintClashesSpec : ChangeSpec := { name := "stintClashes", fn := fun _ => fun
  | [d1, d2] => { results := [.lit (.bool true)], args := [d1, d2] }
  | _ => none }
def stintClashesRow : OpenClaim := { program := "ytihapemckcdicaagreatdoor", sum := "ed233102c86605d15797b8da8ecafdb65f0c4380c27f253a4891d66067cd0ee2", func := "lagan/laganlaw05.StintClashes", spec := "stintClashes", inPlace := ["(*sync.WaitGroup).Add", "internal/race.ReleaseMerge", "internal/race.Disable", "internal/race.Enable", "internal/synctest.IsInBubble", "internal/synctest.Associate[sync.WaitGroup]", "sync.fatal", "sync/atomic.OrUint64", "sync/atomic.AddUint64", "internal/race.Read", "sync/atomic.LoadUint64", "sync/atomic.StoreUint64", "internal/synctest.Disassociate[sync.WaitGroup]", "sync.runtime_Semrelease", "(*sync.WaitGroup).Done", "(*internal/sync.Mutex).Lock", "sync/atomic.CompareAndSwapInt32", "internal/race.Acquire", "(*internal/sync.Mutex).lockSlow", "internal/sync.runtime_canSpin", "internal/sync.runtime_doSpin", "internal/sync.throw", "internal/sync.runtime_nanotime", "internal/sync.runtime_SemacquireMutex", "sync/atomic.AddInt32", "(*internal/sync.Mutex).Unlock", "(*internal/sync.Mutex).unlockSlow", "internal/sync.fatal", "internal/sync.runtime_Semrelease", "(*sync.WaitGroup).Wait", "internal/synctest.IsAssociated[sync.WaitGroup]", "sync/atomic.CompareAndSwapUint64", "internal/race.Write", "sync.runtime_SemacquireWaitGroup"], unfollowed := true, recurses := true, named := ["lagan/stint.checks"], leaving := true, apart := false, calm := true, outside := [.timePasses], laid := [("lagan/stint.checks", laid_lagan_stint_checks)] }
def StintClashesSaid : Prop := stintClashesRow.holds Tryz.pinned (OpenSpec.ofChange stintClashesSpec)

/-- ITS FALSE NEIGHBOUR: 'it returns false'. Refute it at one input. -/
def stintClashesWrong : ChangeSpec := { name := "stintClashes", fn := fun _ => fun
  | [d1, d2] => { results := [.lit (.bool false)], args := [d1, d2] }
  | _ => none }
def StintClashesWrongFalsely : Prop := stintClashesRow.holds Tryz.pinned (OpenSpec.ofChange stintClashesWrong)

/-- 'laganlaw05.StintAsked': WHATEVER THE INPUT: true; the input reads as it did. -/
def stintAskedSpec : ChangeSpec := { name := "stintAsked", fn := fun _ => fun
  | [d1, d2, d3] => { results := [.lit (.bool true)], args := [d1, d2, d3] }
  | _ => none }
def stintAskedRow : OpenClaim := { program := "ytihapemckcdicaagreatdoor", sum := "ed233102c86605d15797b8da8ecafdb65f0c4380c27f253a4891d66067cd0ee2", func := "lagan/laganlaw05.StintAsked", spec := "stintAsked", inPlace := ["(*sync.WaitGroup).Add", "internal/race.ReleaseMerge", "internal/race.Disable", "internal/race.Enable", "internal/synctest.IsInBubble", "internal/synctest.Associate[sync.WaitGroup]", "sync.fatal", "sync/atomic.OrUint64", "sync/atomic.AddUint64", "internal/race.Read", "sync/atomic.LoadUint64", "sync/atomic.StoreUint64", "internal/synctest.Disassociate[sync.WaitGroup]", "sync.runtime_Semrelease", "(*sync.WaitGroup).Done", "(*internal/sync.Mutex).Lock", "sync/atomic.CompareAndSwapInt32", "internal/race.Acquire", "(*internal/sync.Mutex).lockSlow", "internal/sync.runtime_canSpin", "internal/sync.runtime_doSpin", "internal/sync.throw", "internal/sync.runtime_nanotime", "internal/sync.runtime_SemacquireMutex", "sync/atomic.AddInt32", "(*internal/sync.Mutex).Unlock", "(*internal/sync.Mutex).unlockSlow", "internal/sync.fatal", "internal/sync.runtime_Semrelease", "(*sync.WaitGroup).Wait", "internal/synctest.IsAssociated[sync.WaitGroup]", "sync/atomic.CompareAndSwapUint64", "internal/race.Write", "sync.runtime_SemacquireWaitGroup"], unfollowed := true, recurses := true, named := ["lagan/stint.checks"], leaving := true, apart := false, calm := true, outside := [.timePasses], laid := [("lagan/stint.checks", laid_lagan_stint_checks)] }
def StintAskedSaid : Prop := stintAskedRow.holds Tryz.pinned (OpenSpec.ofChange stintAskedSpec)

/-- ITS FALSE NEIGHBOUR: 'it returns false'. Refute it at one input. -/
def stintAskedWrong : ChangeSpec := { name := "stintAsked", fn := fun _ => fun
  | [d1, d2, d3] => { results := [.lit (.bool false)], args := [d1, d2, d3] }
  | _ => none }
def StintAskedWrongFalsely : Prop := stintAskedRow.holds Tryz.pinned (OpenSpec.ofChange stintAskedWrong)

/-- 'laganlaw05.StintFirst': WHATEVER THE INPUT: true; the input reads as it did. -/
def stintFirstSpec : ChangeSpec := { name := "stintFirst", fn := fun _ => fun
  | [d1, d2] => { results := [.lit (.bool true)], args := [d1, d2] }
  | _ => none }
def stintFirstRow : OpenClaim := { program := "ytihapemckcdicaagreatdoor", sum := "ed233102c86605d15797b8da8ecafdb65f0c4380c27f253a4891d66067cd0ee2", func := "lagan/laganlaw05.StintFirst", spec := "stintFirst", inPlace := ["(*sync.WaitGroup).Add", "internal/race.ReleaseMerge", "internal/race.Disable", "internal/race.Enable", "internal/synctest.IsInBubble", "internal/synctest.Associate[sync.WaitGroup]", "sync.fatal", "sync/atomic.OrUint64", "sync/atomic.AddUint64", "internal/race.Read", "sync/atomic.LoadUint64", "sync/atomic.StoreUint64", "internal/synctest.Disassociate[sync.WaitGroup]", "sync.runtime_Semrelease", "(*sync.WaitGroup).Done", "(*internal/sync.Mutex).Lock", "sync/atomic.CompareAndSwapInt32", "internal/race.Acquire", "(*internal/sync.Mutex).lockSlow", "internal/sync.runtime_canSpin", "internal/sync.runtime_doSpin", "internal/sync.throw", "internal/sync.runtime_nanotime", "internal/sync.runtime_SemacquireMutex", "sync/atomic.AddInt32", "(*internal/sync.Mutex).Unlock", "(*internal/sync.Mutex).unlockSlow", "internal/sync.fatal", "internal/sync.runtime_Semrelease", "(*sync.WaitGroup).Wait", "internal/synctest.IsAssociated[sync.WaitGroup]", "sync/atomic.CompareAndSwapUint64", "internal/race.Write", "sync.runtime_SemacquireWaitGroup"], unfollowed := true, recurses := true, named := ["lagan/stint.checks"], leaving := true, apart := false, calm := true, outside := [.timePasses], laid := [("lagan/stint.checks", laid_lagan_stint_checks)] }
def StintFirstSaid : Prop := stintFirstRow.holds Tryz.pinned (OpenSpec.ofChange stintFirstSpec)

/-- ITS FALSE NEIGHBOUR: 'it returns false'. Refute it at one input. -/
def stintFirstWrong : ChangeSpec := { name := "stintFirst", fn := fun _ => fun
  | [d1, d2] => { results := [.lit (.bool false)], args := [d1, d2] }
  | _ => none }
def StintFirstWrongFalsely : Prop := stintFirstRow.holds Tryz.pinned (OpenSpec.ofChange stintFirstWrong)

/-- 'laganlaw05.StintAlone': WHATEVER THE INPUT: true; the input reads as it did. -/
def stintAloneSpec : ChangeSpec := { name := "stintAlone", fn := fun _ => fun
  | [d1, d2] => { results := [.lit (.bool true)], args := [d1, d2] }
  | _ => none }
def stintAloneRow : OpenClaim := { program := "ytihapemckcdicaagreatdoor", sum := "ed233102c86605d15797b8da8ecafdb65f0c4380c27f253a4891d66067cd0ee2", func := "lagan/laganlaw05.StintAlone", spec := "stintAlone", inPlace := ["(*sync.WaitGroup).Add", "internal/race.ReleaseMerge", "internal/race.Disable", "internal/race.Enable", "internal/synctest.IsInBubble", "internal/synctest.Associate[sync.WaitGroup]", "sync.fatal", "sync/atomic.OrUint64", "sync/atomic.AddUint64", "internal/race.Read", "sync/atomic.LoadUint64", "sync/atomic.StoreUint64", "internal/synctest.Disassociate[sync.WaitGroup]", "sync.runtime_Semrelease", "(*sync.WaitGroup).Done", "(*internal/sync.Mutex).Lock", "sync/atomic.CompareAndSwapInt32", "internal/race.Acquire", "(*internal/sync.Mutex).lockSlow", "internal/sync.runtime_canSpin", "internal/sync.runtime_doSpin", "internal/sync.throw", "internal/sync.runtime_nanotime", "internal/sync.runtime_SemacquireMutex", "sync/atomic.AddInt32", "(*internal/sync.Mutex).Unlock", "(*internal/sync.Mutex).unlockSlow", "internal/sync.fatal", "internal/sync.runtime_Semrelease", "(*sync.WaitGroup).Wait", "internal/synctest.IsAssociated[sync.WaitGroup]", "sync/atomic.CompareAndSwapUint64", "internal/race.Write", "sync.runtime_SemacquireWaitGroup"], unfollowed := true, recurses := true, named := ["lagan/stint.checks"], leaving := true, apart := false, calm := true, outside := [.timePasses], laid := [("lagan/stint.checks", laid_lagan_stint_checks)] }
def StintAloneSaid : Prop := stintAloneRow.holds Tryz.pinned (OpenSpec.ofChange stintAloneSpec)

/-- ITS FALSE NEIGHBOUR: 'it returns false'. Refute it at one input. -/
def stintAloneWrong : ChangeSpec := { name := "stintAlone", fn := fun _ => fun
  | [d1, d2] => { results := [.lit (.bool false)], args := [d1, d2] }
  | _ => none }
def StintAloneWrongFalsely : Prop := stintAloneRow.holds Tryz.pinned (OpenSpec.ofChange stintAloneWrong)

/-- 'laganlaw05.StintCrew': WHATEVER THE INPUT: true; the input reads as it did. -/
def stintCrewSpec : ChangeSpec := { name := "stintCrew", fn := fun _ => fun
  | [d1, d2] => { results := [.lit (.bool true)], args := [d1, d2] }
  | _ => none }
def stintCrewRow : OpenClaim := { program := "ytihapemckcdicaagreatdoor", sum := "ed233102c86605d15797b8da8ecafdb65f0c4380c27f253a4891d66067cd0ee2", func := "lagan/laganlaw05.StintCrew", spec := "stintCrew", inPlace := ["(*sync.WaitGroup).Add", "internal/race.ReleaseMerge", "internal/race.Disable", "internal/race.Enable", "internal/synctest.IsInBubble", "internal/synctest.Associate[sync.WaitGroup]", "sync.fatal", "sync/atomic.OrUint64", "sync/atomic.AddUint64", "internal/race.Read", "sync/atomic.LoadUint64", "sync/atomic.StoreUint64", "internal/synctest.Disassociate[sync.WaitGroup]", "sync.runtime_Semrelease", "(*sync.WaitGroup).Done", "(*internal/sync.Mutex).Lock", "sync/atomic.CompareAndSwapInt32", "internal/race.Acquire", "(*internal/sync.Mutex).lockSlow", "internal/sync.runtime_canSpin", "internal/sync.runtime_doSpin", "internal/sync.throw", "internal/sync.runtime_nanotime", "internal/sync.runtime_SemacquireMutex", "sync/atomic.AddInt32", "(*internal/sync.Mutex).Unlock", "(*internal/sync.Mutex).unlockSlow", "internal/sync.fatal", "internal/sync.runtime_Semrelease", "(*sync.WaitGroup).Wait", "internal/synctest.IsAssociated[sync.WaitGroup]", "sync/atomic.CompareAndSwapUint64", "internal/race.Write", "sync.runtime_SemacquireWaitGroup"], unfollowed := true, recurses := true, named := ["lagan/stint.checks"], leaving := true, apart := false, calm := true, outside := [.timePasses], laid := [("lagan/stint.checks", laid_lagan_stint_checks)] }
def StintCrewSaid : Prop := stintCrewRow.holds Tryz.pinned (OpenSpec.ofChange stintCrewSpec)

/-- ITS FALSE NEIGHBOUR: 'it returns false'. Refute it at one input. -/
def stintCrewWrong : ChangeSpec := { name := "stintCrew", fn := fun _ => fun
  | [d1, d2] => { results := [.lit (.bool false)], args := [d1, d2] }
  | _ => none }
def StintCrewWrongFalsely : Prop := stintCrewRow.holds Tryz.pinned (OpenSpec.ofChange stintCrewWrong)

/-- 'laganlaw05.StintDropped': WHATEVER THE INPUT: true; the input reads as it did. -/
def stintDroppedSpec : ChangeSpec := { name := "stintDropped", fn := fun _ => fun
  | [d1, d2] => { results := [.lit (.bool true)], args := [d1, d2] }
  | _ => none }
def stintDroppedRow : OpenClaim := { program := "ytihapemckcdicaagreatdoor", sum := "ed233102c86605d15797b8da8ecafdb65f0c4380c27f253a4891d66067cd0ee2", func := "lagan/laganlaw05.StintDropped", spec := "stintDropped", inPlace := ["(*sync.WaitGroup).Add", "internal/race.ReleaseMerge", "internal/race.Disable", "internal/race.Enable", "internal/synctest.IsInBubble", "internal/synctest.Associate[sync.WaitGroup]", "sync.fatal", "sync/atomic.OrUint64", "sync/atomic.AddUint64", "internal/race.Read", "sync/atomic.LoadUint64", "sync/atomic.StoreUint64", "internal/synctest.Disassociate[sync.WaitGroup]", "sync.runtime_Semrelease", "(*sync.WaitGroup).Done", "(*internal/sync.Mutex).Lock", "sync/atomic.CompareAndSwapInt32", "internal/race.Acquire", "(*internal/sync.Mutex).lockSlow", "internal/sync.runtime_canSpin", "internal/sync.runtime_doSpin", "internal/sync.throw", "internal/sync.runtime_nanotime", "internal/sync.runtime_SemacquireMutex", "sync/atomic.AddInt32", "(*internal/sync.Mutex).Unlock", "(*internal/sync.Mutex).unlockSlow", "internal/sync.fatal", "internal/sync.runtime_Semrelease", "(*sync.WaitGroup).Wait", "internal/synctest.IsAssociated[sync.WaitGroup]", "sync/atomic.CompareAndSwapUint64", "internal/race.Write", "sync.runtime_SemacquireWaitGroup"], unfollowed := true, recurses := true, named := ["lagan/stint.checks"], leaving := true, apart := false, calm := true, outside := [.timePasses], laid := [("lagan/stint.checks", laid_lagan_stint_checks)] }
def StintDroppedSaid : Prop := stintDroppedRow.holds Tryz.pinned (OpenSpec.ofChange stintDroppedSpec)

/-- ITS FALSE NEIGHBOUR: 'it returns false'. Refute it at one input. -/
def stintDroppedWrong : ChangeSpec := { name := "stintDropped", fn := fun _ => fun
  | [d1, d2] => { results := [.lit (.bool false)], args := [d1, d2] }
  | _ => none }
def StintDroppedWrongFalsely : Prop := stintDroppedRow.holds Tryz.pinned (OpenSpec.ofChange stintDroppedWrong)

/-- 'laganlaw05.StintRested': WHATEVER THE INPUT: true; the input reads as it did. -/
def stintRestedSpec : ChangeSpec := { name := "stintRested", fn := fun _ => fun
  | [d1, d2, d3] => { results := [.lit (.bool true)], args := [d1, d2, d3] }
  | _ => none }
def stintRestedRow : OpenClaim := { program := "ytihapemckcdicaagreatdoor", sum := "ed233102c86605d15797b8da8ecafdb65f0c4380c27f253a4891d66067cd0ee2", func := "lagan/laganlaw05.StintRested", spec := "stintRested", inPlace := ["(*sync.WaitGroup).Add", "internal/race.ReleaseMerge", "internal/race.Disable", "internal/race.Enable", "internal/synctest.IsInBubble", "internal/synctest.Associate[sync.WaitGroup]", "sync.fatal", "sync/atomic.OrUint64", "sync/atomic.AddUint64", "internal/race.Read", "sync/atomic.LoadUint64", "sync/atomic.StoreUint64", "internal/synctest.Disassociate[sync.WaitGroup]", "sync.runtime_Semrelease", "(*sync.WaitGroup).Done", "(*internal/sync.Mutex).Lock", "sync/atomic.CompareAndSwapInt32", "internal/race.Acquire", "(*internal/sync.Mutex).lockSlow", "internal/sync.runtime_canSpin", "internal/sync.runtime_doSpin", "internal/sync.throw", "internal/sync.runtime_nanotime", "internal/sync.runtime_SemacquireMutex", "sync/atomic.AddInt32", "(*internal/sync.Mutex).Unlock", "(*internal/sync.Mutex).unlockSlow", "internal/sync.fatal", "internal/sync.runtime_Semrelease", "(*sync.WaitGroup).Wait", "internal/synctest.IsAssociated[sync.WaitGroup]", "sync/atomic.CompareAndSwapUint64", "internal/race.Write", "sync.runtime_SemacquireWaitGroup"], unfollowed := true, recurses := true, named := ["lagan/stint.checks"], leaving := true, apart := false, calm := true, outside := [.timePasses], laid := [("lagan/stint.checks", laid_lagan_stint_checks)] }
def StintRestedSaid : Prop := stintRestedRow.holds Tryz.pinned (OpenSpec.ofChange stintRestedSpec)

/-- ITS FALSE NEIGHBOUR: 'it returns false'. Refute it at one input. -/
def stintRestedWrong : ChangeSpec := { name := "stintRested", fn := fun _ => fun
  | [d1, d2, d3] => { results := [.lit (.bool false)], args := [d1, d2, d3] }
  | _ => none }
def StintRestedWrongFalsely : Prop := stintRestedRow.holds Tryz.pinned (OpenSpec.ofChange stintRestedWrong)

/-- 'laganlaw05.StintAnyOrder': WHATEVER THE INPUT: true; the input reads as it did. -/
def stintAnyOrderSpec : ChangeSpec := { name := "stintAnyOrder", fn := fun _ => fun
  | [d1, d2, d3] => { results := [.lit (.bool true)], args := [d1, d2, d3] }
  | _ => none }
def stintAnyOrderRow : OpenClaim := { program := "ytihapemckcdicaagreatdoor", sum := "ed233102c86605d15797b8da8ecafdb65f0c4380c27f253a4891d66067cd0ee2", func := "lagan/laganlaw05.StintAnyOrder", spec := "stintAnyOrder", inPlace := ["(*sync.WaitGroup).Add", "internal/race.ReleaseMerge", "internal/race.Disable", "internal/race.Enable", "internal/synctest.IsInBubble", "internal/synctest.Associate[sync.WaitGroup]", "sync.fatal", "sync/atomic.OrUint64", "sync/atomic.AddUint64", "internal/race.Read", "sync/atomic.LoadUint64", "sync/atomic.StoreUint64", "internal/synctest.Disassociate[sync.WaitGroup]", "sync.runtime_Semrelease", "(*sync.WaitGroup).Done", "(*internal/sync.Mutex).Lock", "sync/atomic.CompareAndSwapInt32", "internal/race.Acquire", "(*internal/sync.Mutex).lockSlow", "internal/sync.runtime_canSpin", "internal/sync.runtime_doSpin", "internal/sync.throw", "internal/sync.runtime_nanotime", "internal/sync.runtime_SemacquireMutex", "sync/atomic.AddInt32", "(*internal/sync.Mutex).Unlock", "(*internal/sync.Mutex).unlockSlow", "internal/sync.fatal", "internal/sync.runtime_Semrelease", "(*sync.WaitGroup).Wait", "internal/synctest.IsAssociated[sync.WaitGroup]", "sync/atomic.CompareAndSwapUint64", "internal/race.Write", "sync.runtime_SemacquireWaitGroup"], unfollowed := true, recurses := true, named := ["lagan/stint.checks"], leaving := true, apart := false, calm := true, outside := [.timePasses], laid := [("lagan/stint.checks", laid_lagan_stint_checks)] }
def StintAnyOrderSaid : Prop := stintAnyOrderRow.holds Tryz.pinned (OpenSpec.ofChange stintAnyOrderSpec)

/-- ITS FALSE NEIGHBOUR: 'it returns false'. Refute it at one input. -/
def stintAnyOrderWrong : ChangeSpec := { name := "stintAnyOrder", fn := fun _ => fun
  | [d1, d2, d3] => { results := [.lit (.bool false)], args := [d1, d2, d3] }
  | _ => none }
def StintAnyOrderWrongFalsely : Prop := stintAnyOrderRow.holds Tryz.pinned (OpenSpec.ofChange stintAnyOrderWrong)

/-- 'laganlaw05.StintNews': WHATEVER THE INPUT: true; the input reads as it did. -/
def stintNewsSpec : ChangeSpec := { name := "stintNews", fn := fun _ => fun
  | [d1, d2, d3, d4] => { results := [.lit (.bool true)], args := [d1, d2, d3, d4] }
  | _ => none }
def stintNewsRow : OpenClaim := { program := "ytihapemckcdicaagreatdoor", sum := "ed233102c86605d15797b8da8ecafdb65f0c4380c27f253a4891d66067cd0ee2", func := "lagan/laganlaw05.StintNews", spec := "stintNews", inPlace := ["(*sync.WaitGroup).Add", "internal/race.ReleaseMerge", "internal/race.Disable", "internal/race.Enable", "internal/synctest.IsInBubble", "internal/synctest.Associate[sync.WaitGroup]", "sync.fatal", "sync/atomic.OrUint64", "sync/atomic.AddUint64", "internal/race.Read", "sync/atomic.LoadUint64", "sync/atomic.StoreUint64", "internal/synctest.Disassociate[sync.WaitGroup]", "sync.runtime_Semrelease", "(*sync.WaitGroup).Done", "(*internal/sync.Mutex).Lock", "sync/atomic.CompareAndSwapInt32", "internal/race.Acquire", "(*internal/sync.Mutex).lockSlow", "internal/sync.runtime_canSpin", "internal/sync.runtime_doSpin", "internal/sync.throw", "internal/sync.runtime_nanotime", "internal/sync.runtime_SemacquireMutex", "sync/atomic.AddInt32", "(*internal/sync.Mutex).Unlock", "(*internal/sync.Mutex).unlockSlow", "internal/sync.fatal", "internal/sync.runtime_Semrelease", "(*sync.WaitGroup).Wait", "internal/synctest.IsAssociated[sync.WaitGroup]", "sync/atomic.CompareAndSwapUint64", "internal/race.Write", "sync.runtime_SemacquireWaitGroup"], unfollowed := true, recurses := true, named := ["lagan/stint.checks"], leaving := true, apart := false, calm := true, outside := [.timePasses], laid := [("lagan/stint.checks", laid_lagan_stint_checks)] }
def StintNewsSaid : Prop := stintNewsRow.holds Tryz.pinned (OpenSpec.ofChange stintNewsSpec)

/-- ITS FALSE NEIGHBOUR: 'it returns false'. Refute it at one input. -/
def stintNewsWrong : ChangeSpec := { name := "stintNews", fn := fun _ => fun
  | [d1, d2, d3, d4] => { results := [.lit (.bool false)], args := [d1, d2, d3, d4] }
  | _ => none }
def StintNewsWrongFalsely : Prop := stintNewsRow.holds Tryz.pinned (OpenSpec.ofChange stintNewsWrong)

/-- 'laganlaw05.StintLearnt': WHATEVER THE INPUT: true; the input reads as it did. -/
def stintLearntSpec : ChangeSpec := { name := "stintLearnt", fn := fun _ => fun
  | [d1, d2, d3, d4, d5] => { results := [.lit (.bool true)], args := [d1, d2, d3, d4, d5] }
  | _ => none }
def stintLearntRow : OpenClaim := { program := "ytihapemckcdicaagreatdoor", sum := "ed233102c86605d15797b8da8ecafdb65f0c4380c27f253a4891d66067cd0ee2", func := "lagan/laganlaw05.StintLearnt", spec := "stintLearnt", inPlace := ["(*sync.WaitGroup).Add", "internal/race.ReleaseMerge", "internal/race.Disable", "internal/race.Enable", "internal/synctest.IsInBubble", "internal/synctest.Associate[sync.WaitGroup]", "sync.fatal", "sync/atomic.OrUint64", "sync/atomic.AddUint64", "internal/race.Read", "sync/atomic.LoadUint64", "sync/atomic.StoreUint64", "internal/synctest.Disassociate[sync.WaitGroup]", "sync.runtime_Semrelease", "(*sync.WaitGroup).Done", "(*internal/sync.Mutex).Lock", "sync/atomic.CompareAndSwapInt32", "internal/race.Acquire", "(*internal/sync.Mutex).lockSlow", "internal/sync.runtime_canSpin", "internal/sync.runtime_doSpin", "internal/sync.throw", "internal/sync.runtime_nanotime", "internal/sync.runtime_SemacquireMutex", "sync/atomic.AddInt32", "(*internal/sync.Mutex).Unlock", "(*internal/sync.Mutex).unlockSlow", "internal/sync.fatal", "internal/sync.runtime_Semrelease", "(*sync.WaitGroup).Wait", "internal/synctest.IsAssociated[sync.WaitGroup]", "sync/atomic.CompareAndSwapUint64", "internal/race.Write", "sync.runtime_SemacquireWaitGroup"], unfollowed := true, recurses := true, named := ["lagan/stint.checks"], leaving := true, apart := false, calm := true, outside := [.timePasses], laid := [("lagan/stint.checks", laid_lagan_stint_checks)] }
def StintLearntSaid : Prop := stintLearntRow.holds Tryz.pinned (OpenSpec.ofChange stintLearntSpec)

/-- ITS FALSE NEIGHBOUR: 'it returns false'. Refute it at one input. -/
def stintLearntWrong : ChangeSpec := { name := "stintLearnt", fn := fun _ => fun
  | [d1, d2, d3, d4, d5] => { results := [.lit (.bool false)], args := [d1, d2, d3, d4, d5] }
  | _ => none }
def StintLearntWrongFalsely : Prop := stintLearntRow.holds Tryz.pinned (OpenSpec.ofChange stintLearntWrong)

/-- 'laganlaw05.StintDives': WHATEVER THE INPUT: true; the input reads as it did. -/
def stintDivesSpec : ChangeSpec := { name := "stintDives", fn := fun _ => fun
  | [d1, d2, d3, d4, d5] => { results := [.lit (.bool true)], args := [d1, d2, d3, d4, d5] }
  | _ => none }
def stintDivesRow : OpenClaim := { program := "ytihapemckcdicaagreatdoor", sum := "ed233102c86605d15797b8da8ecafdb65f0c4380c27f253a4891d66067cd0ee2", func := "lagan/laganlaw05.StintDives", spec := "stintDives", inPlace := ["(*sync.WaitGroup).Add", "internal/race.ReleaseMerge", "internal/race.Disable", "internal/race.Enable", "internal/synctest.IsInBubble", "internal/synctest.Associate[sync.WaitGroup]", "sync.fatal", "sync/atomic.OrUint64", "sync/atomic.AddUint64", "internal/race.Read", "sync/atomic.LoadUint64", "sync/atomic.StoreUint64", "internal/synctest.Disassociate[sync.WaitGroup]", "sync.runtime_Semrelease", "(*sync.WaitGroup).Done", "(*internal/sync.Mutex).Lock", "sync/atomic.CompareAndSwapInt32", "internal/race.Acquire", "(*internal/sync.Mutex).lockSlow", "internal/sync.runtime_canSpin", "internal/sync.runtime_doSpin", "internal/sync.throw", "internal/sync.runtime_nanotime", "internal/sync.runtime_SemacquireMutex", "sync/atomic.AddInt32", "(*internal/sync.Mutex).Unlock", "(*internal/sync.Mutex).unlockSlow", "internal/sync.fatal", "internal/sync.runtime_Semrelease", "(*sync.WaitGroup).Wait", "internal/synctest.IsAssociated[sync.WaitGroup]", "sync/atomic.CompareAndSwapUint64", "internal/race.Write", "sync.runtime_SemacquireWaitGroup"], unfollowed := true, recurses := true, named := ["lagan/stint.checks"], leaving := true, apart := false, calm := true, outside := [.timePasses], laid := [("lagan/stint.checks", laid_lagan_stint_checks)] }
def StintDivesSaid : Prop := stintDivesRow.holds Tryz.pinned (OpenSpec.ofChange stintDivesSpec)

/-- ITS FALSE NEIGHBOUR: 'it returns false'. Refute it at one input. -/
def stintDivesWrong : ChangeSpec := { name := "stintDives", fn := fun _ => fun
  | [d1, d2, d3, d4, d5] => { results := [.lit (.bool false)], args := [d1, d2, d3, d4, d5] }
  | _ => none }
def StintDivesWrongFalsely : Prop := stintDivesRow.holds Tryz.pinned (OpenSpec.ofChange stintDivesWrong)

/-- 'laganlaw05.StintReal': WHATEVER THE INPUT: true; the input reads as it did. -/
def stintRealSpec : ChangeSpec := { name := "stintReal", fn := fun _ => fun
  | [d1, d2, d3, d4, d5] => { results := [.lit (.bool true)], args := [d1, d2, d3, d4, d5] }
  | _ => none }
def stintRealRow : OpenClaim := { program := "ytihapemckcdicaagreatdoor", sum := "ed233102c86605d15797b8da8ecafdb65f0c4380c27f253a4891d66067cd0ee2", func := "lagan/laganlaw05.StintReal", spec := "stintReal", inPlace := ["(*sync.WaitGroup).Add", "internal/race.ReleaseMerge", "internal/race.Disable", "internal/race.Enable", "internal/synctest.IsInBubble", "internal/synctest.Associate[sync.WaitGroup]", "sync.fatal", "sync/atomic.OrUint64", "sync/atomic.AddUint64", "internal/race.Read", "sync/atomic.LoadUint64", "sync/atomic.StoreUint64", "internal/synctest.Disassociate[sync.WaitGroup]", "sync.runtime_Semrelease", "(*sync.WaitGroup).Done", "(*internal/sync.Mutex).Lock", "sync/atomic.CompareAndSwapInt32", "internal/race.Acquire", "(*internal/sync.Mutex).lockSlow", "internal/sync.runtime_canSpin", "internal/sync.runtime_doSpin", "internal/sync.throw", "internal/sync.runtime_nanotime", "internal/sync.runtime_SemacquireMutex", "sync/atomic.AddInt32", "(*internal/sync.Mutex).Unlock", "(*internal/sync.Mutex).unlockSlow", "internal/sync.fatal", "internal/sync.runtime_Semrelease", "(*sync.WaitGroup).Wait", "internal/synctest.IsAssociated[sync.WaitGroup]", "sync/atomic.CompareAndSwapUint64", "internal/race.Write", "sync.runtime_SemacquireWaitGroup"], unfollowed := true, recurses := true, named := ["lagan/stint.checks"], leaving := true, apart := false, calm := true, outside := [.timePasses], laid := [("lagan/stint.checks", laid_lagan_stint_checks)] }
def StintRealSaid : Prop := stintRealRow.holds Tryz.pinned (OpenSpec.ofChange stintRealSpec)

/-- ITS FALSE NEIGHBOUR: 'it returns false'. Refute it at one input. -/
def stintRealWrong : ChangeSpec := { name := "stintReal", fn := fun _ => fun
  | [d1, d2, d3, d4, d5] => { results := [.lit (.bool false)], args := [d1, d2, d3, d4, d5] }
  | _ => none }
def StintRealWrongFalsely : Prop := stintRealRow.holds Tryz.pinned (OpenSpec.ofChange stintRealWrong)

end Rows
end Go.Proofs.YtihapemckcdicaaGreatDoor
