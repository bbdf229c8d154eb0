/-
  NARROWER THAN 'FOR EVERY INPUT', by the rows' own cells (each row's printed sentence says how): StintSwung: calm, laid.
  DERIVED. THE GIVEN ROWS OF THIS SEAT. 1 by the template 'for every input the law returns true; each argument reads behind the call as it read before'; 0 by the template 'total and deterministic' (their statements: YtikficpdfaajlaaGreatDoorTotals.lean).
  GIVEN WITH THE SEED: the statements are not yours to turn. If you find one false, say at which input.
  Laid BY PROGRAM, IN A SANDBOX (cutbox-rows.mjs): the forced cells as the released guide's own fill.sh prints them over the translation e5e9a9fce82c9fc4… (all of the seat's roots in one cut). By AI agents, Wed Nov 11 2026. No macro, syntax, notation, axiom, sorry.
-/
import Derived.Test.YtikficpdfaajlaaGreatDoorChecked
import GoSem.Claim
import GoSem.ClaimJoined
import GoSem.ClaimMapViews
import Derived.JoinedTies
import Derived.KernelRfl
namespace Go.Proofs.YtikficpdfaajlaaGreatDoor
/- THE CELL 'sum', in the pinned program and in every row, IS THE sha256 OF THE DUMP (.gsa) THAT YtikficpdfaajlaaGreatDoorProg.lean LOADS. Nothing in Lean hashes anything: it is a label: what it is worth is what the hold of that sum in a sandbox is worth. -/
noncomputable def Tryz.pinned : Pinned := { name := "ytikficpdfaajlaagreatdoor", sum := "e5e9a9fce82c9fc45be9817ff904c17395eafff58ff812e940eda6e25f4c07fa", checked := Tryz.checked }
namespace Rows
def none {H : Type} : Left H := { results := [], args := [] }

/- WHAT THE LISTED PACKAGE-LEVEL VARIABLES READ AS WHEN THE CALL BEGINS. Each datum BY PROGRAM (the guide's laid-datum.mjs) off the statement by which the dump's own 'gosem.cut.vars' lays the variable. In a bare row this is a premise. The card (YtikficpdfaajlaaGreatDoorCards.lean) ties it to the program's text. -/
def laid_lagan_bearing_checks {H : Type} : DataW H := .iface "func table" (.agg [.iface "func" (.lit (.string [40, 108, 97, 103, 97, 110, 47, 98, 101, 97, 114, 105, 110, 103, 46, 98, 111, 111, 107, 41, 46, 99, 104, 97, 114, 116])), .iface "func" (.lit (.string [40, 108, 97, 103, 97, 110, 47, 98, 101, 97, 114, 105, 110, 103, 46, 98, 111, 111, 107, 41, 46, 99, 111, 109, 112, 97, 115, 115, 101, 115])), .iface "func" (.lit (.string [40, 108, 97, 103, 97, 110, 47, 98, 101, 97, 114, 105, 110, 103, 46, 98, 111, 111, 107, 41, 46, 119, 105, 116, 110, 101, 115, 115, 101, 115]))])
def laid_lagan_stint_checks {H : Type} : DataW H := .iface "func table" (.agg [.iface "func" (.lit (.string [40, 108, 97, 103, 97, 110, 47, 115, 116, 105, 110, 116, 46, 98, 111, 111, 107, 41, 46, 114, 101, 115, 116])), .iface "func" (.lit (.string [40, 108, 97, 103, 97, 110, 47, 115, 116, 105, 110, 116, 46, 98, 111, 111, 107, 41, 46, 116, 97, 98, 108, 101])), .iface "func" (.lit (.string [40, 108, 97, 103, 97, 110, 47, 115, 116, 105, 110, 116, 46, 98, 111, 111, 107, 41, 46, 112, 108, 97, 99, 101, 115])), .iface "func" (.lit (.string [40, 108, 97, 103, 97, 110, 47, 115, 116, 105, 110, 116, 46, 98, 111, 111, 107, 41, 46, 109, 101, 110])), .iface "func" (.lit (.string [40, 108, 97, 103, 97, 110, 47, 115, 116, 105, 110, 116, 46, 98, 111, 111, 107, 41, 46, 100, 105, 118, 101, 115])), .iface "func" (.lit (.string [40, 108, 97, 103, 97, 110, 47, 115, 116, 105, 110, 116, 46, 98, 111, 111, 107, 41, 46, 115, 111, 117, 110, 100, 105, 110, 103, 115]))])

/-- 'laganlaw05.StintSwung': WHATEVER THE INPUT: true; the input reads as it did. -/
def stintSwungSpec : ChangeSpec := { name := "stintSwung", fn := fun _ => fun
  | [d1, d2, d3, d4, d5, d6, d7, d8] => { results := [.lit (.bool true)], args := [d1, d2, d3, d4, d5, d6, d7, d8] }
  | _ => none }
def stintSwungRow : OpenClaim := { program := "ytikficpdfaajlaagreatdoor", sum := "e5e9a9fce82c9fc45be9817ff904c17395eafff58ff812e940eda6e25f4c07fa", func := "lagan/laganlaw05.StintSwung", spec := "stintSwung", inPlace := ["(*sync.WaitGroup).Add", "internal/race.ReleaseMerge", "internal/race.Disable", "internal/race.Enable", "internal/synctest.IsInBubble", "internal/synctest.Associate[sync.WaitGroup]", "sync.fatal", "sync/atomic.OrUint64", "sync/atomic.AddUint64", "internal/race.Read", "sync/atomic.LoadUint64", "sync/atomic.StoreUint64", "internal/synctest.Disassociate[sync.WaitGroup]", "sync.runtime_Semrelease", "(*sync.WaitGroup).Done", "(*internal/sync.Mutex).Lock", "sync/atomic.CompareAndSwapInt32", "internal/race.Acquire", "(*internal/sync.Mutex).lockSlow", "internal/sync.runtime_canSpin", "internal/sync.runtime_doSpin", "internal/sync.throw", "internal/sync.runtime_nanotime", "internal/sync.runtime_SemacquireMutex", "sync/atomic.AddInt32", "(*internal/sync.Mutex).Unlock", "(*internal/sync.Mutex).unlockSlow", "internal/sync.fatal", "internal/sync.runtime_Semrelease", "(*sync.WaitGroup).Wait", "internal/synctest.IsAssociated[sync.WaitGroup]", "sync/atomic.CompareAndSwapUint64", "internal/race.Write", "sync.runtime_SemacquireWaitGroup"], unfollowed := true, recurses := true, named := ["lagan/stint.checks", "lagan/bearing.checks"], leaving := true, apart := false, calm := true, outside := [.timePasses], laid := [("lagan/bearing.checks", laid_lagan_bearing_checks), ("lagan/stint.checks", laid_lagan_stint_checks)] }
def StintSwungSaid : Prop := stintSwungRow.holds Tryz.pinned (OpenSpec.ofChange stintSwungSpec)

/-- ITS FALSE NEIGHBOUR: 'it returns false'. Refute it at one input. -/
def stintSwungWrong : ChangeSpec := { name := "stintSwung", fn := fun _ => fun
  | [d1, d2, d3, d4, d5, d6, d7, d8] => { results := [.lit (.bool false)], args := [d1, d2, d3, d4, d5, d6, d7, d8] }
  | _ => none }
def StintSwungWrongFalsely : Prop := stintSwungRow.holds Tryz.pinned (OpenSpec.ofChange stintSwungWrong)

end Rows
end Go.Proofs.YtikficpdfaajlaaGreatDoor
