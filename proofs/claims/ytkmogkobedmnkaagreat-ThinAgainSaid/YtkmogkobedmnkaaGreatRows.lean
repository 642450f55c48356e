/-
  No cell of these rows narrows 'for every input' (looked for: loops, veiled, ifaces, maps, wideKeys, modest, calm, conditions, laid).
  DERIVED. THE GIVEN ROWS OF THIS SEAT. 4 by the template 'for every input the law returns true; each argument reads behind the call as it read before'; 0 by the template 'total and deterministic' (their statements: YtkmogkobedmnkaaGreatTotals.lean).
  GIVEN WITH THE SEED: the statements are not yours to turn. If you find one false, say at which input.
  Laid BY PROGRAM, IN A SANDBOX (cutbox-rows.mjs): the forced cells as the released guide's own fill.sh prints them over the translation 5847276a4c4aa93e… (all of the seat's roots in one cut). By AI agents, Wed Nov 11 2026. No macro, syntax, notation, axiom, sorry.
-/
import Derived.Test.YtkmogkobedmnkaaGreatChecked
import GoSem.Claim
import GoSem.ClaimJoined
import GoSem.ClaimMapViews
import Derived.JoinedTies
import Derived.KernelRfl
namespace Go.Proofs.YtkmogkobedmnkaaGreat
/- THE CELL 'sum', in the pinned program and in every row, IS THE sha256 OF THE DUMP (.gsa) THAT YtkmogkobedmnkaaGreatProg.lean LOADS. Nothing in Lean hashes anything: it is a label: what it is worth is what the hold of that sum in a sandbox is worth. -/
noncomputable def Tryz.pinned : Pinned := { name := "ytkmogkobedmnkaagreat", sum := "5847276a4c4aa93e95d88b4bdb4fbbedec8990079f48595fbb3753342f6ea6bc", checked := Tryz.checked }
namespace Rows
def none {H : Type} : Left H := { results := [], args := [] }

/-- 'doorkeeperlaw17.ThinDeep': WHATEVER THE INPUT: true; the input reads as it did. -/
def thinDeepSpec : ChangeSpec := { name := "thinDeep", fn := fun _ => fun
  | [d1, d2] => { results := [.lit (.bool true)], args := [d1, d2] }
  | _ => none }
def thinDeepRow : OpenClaim := { program := "ytkmogkobedmnkaagreat", sum := "5847276a4c4aa93e95d88b4bdb4fbbedec8990079f48595fbb3753342f6ea6bc", func := "doorkeeper/doorkeeperlaw17.ThinDeep", spec := "thinDeep", inPlace := ["sync/atomic.AddInt64", "(*internal/sync.Mutex).Lock", "internal/race.Disable", "sync/atomic.CompareAndSwapInt32", "internal/race.Enable", "internal/race.Acquire", "(*internal/sync.Mutex).lockSlow", "internal/sync.runtime_canSpin", "internal/sync.runtime_doSpin", "internal/sync.throw", "internal/sync.runtime_nanotime", "internal/sync.runtime_SemacquireMutex", "sync/atomic.AddInt32", "(*internal/sync.Mutex).Unlock", "internal/race.ReleaseMerge", "(*internal/sync.Mutex).unlockSlow", "internal/sync.fatal", "internal/sync.runtime_Semrelease"], unfollowed := true, recurses := true, apart := false }
def ThinDeepSaid : Prop := thinDeepRow.holds Tryz.pinned (OpenSpec.ofChange thinDeepSpec)

/-- ITS FALSE NEIGHBOUR: 'it returns false'. Refute it at one input. -/
def thinDeepWrong : ChangeSpec := { name := "thinDeep", fn := fun _ => fun
  | [d1, d2] => { results := [.lit (.bool false)], args := [d1, d2] }
  | _ => none }
def ThinDeepWrongFalsely : Prop := thinDeepRow.holds Tryz.pinned (OpenSpec.ofChange thinDeepWrong)

/-- 'doorkeeperlaw17.ThinAgain': WHATEVER THE INPUT: true; the input reads as it did. -/
def thinAgainSpec : ChangeSpec := { name := "thinAgain", fn := fun _ => fun
  | [d] => { results := [.lit (.bool true)], args := [d] }
  | _ => none }
def thinAgainRow : OpenClaim := { program := "ytkmogkobedmnkaagreat", sum := "5847276a4c4aa93e95d88b4bdb4fbbedec8990079f48595fbb3753342f6ea6bc", func := "doorkeeper/doorkeeperlaw17.ThinAgain", spec := "thinAgain", inPlace := ["sync/atomic.AddInt64", "(*internal/sync.Mutex).Lock", "internal/race.Disable", "sync/atomic.CompareAndSwapInt32", "internal/race.Enable", "internal/race.Acquire", "(*internal/sync.Mutex).lockSlow", "internal/sync.runtime_canSpin", "internal/sync.runtime_doSpin", "internal/sync.throw", "internal/sync.runtime_nanotime", "internal/sync.runtime_SemacquireMutex", "sync/atomic.AddInt32", "(*internal/sync.Mutex).Unlock", "internal/race.ReleaseMerge", "(*internal/sync.Mutex).unlockSlow", "internal/sync.fatal", "internal/sync.runtime_Semrelease"], unfollowed := true, recurses := true, apart := false }
def ThinAgainSaid : Prop := thinAgainRow.holds Tryz.pinned (OpenSpec.ofChange thinAgainSpec)

/-- ITS FALSE NEIGHBOUR: 'it returns false'. Refute it at one input. -/
def thinAgainWrong : ChangeSpec := { name := "thinAgain", fn := fun _ => fun
  | [d] => { results := [.lit (.bool false)], args := [d] }
  | _ => none }
def ThinAgainWrongFalsely : Prop := thinAgainRow.holds Tryz.pinned (OpenSpec.ofChange thinAgainWrong)

/-- 'doorkeeperlaw17.ThinKnown': WHATEVER THE INPUT: true; the input reads as it did. -/
def thinKnownSpec : ChangeSpec := { name := "thinKnown", fn := fun _ => fun
  | [] => { results := [.lit (.bool true)], args := [] }
  | _ => none }
def thinKnownRow : OpenClaim := { program := "ytkmogkobedmnkaagreat", sum := "5847276a4c4aa93e95d88b4bdb4fbbedec8990079f48595fbb3753342f6ea6bc", func := "doorkeeper/doorkeeperlaw17.ThinKnown", spec := "thinKnown", inPlace := ["sync/atomic.AddInt64", "(*internal/sync.Mutex).Lock", "internal/race.Disable", "sync/atomic.CompareAndSwapInt32", "internal/race.Enable", "internal/race.Acquire", "(*internal/sync.Mutex).lockSlow", "internal/sync.runtime_canSpin", "internal/sync.runtime_doSpin", "internal/sync.throw", "internal/sync.runtime_nanotime", "internal/sync.runtime_SemacquireMutex", "sync/atomic.AddInt32", "(*internal/sync.Mutex).Unlock", "internal/race.ReleaseMerge", "(*internal/sync.Mutex).unlockSlow", "internal/sync.fatal", "internal/sync.runtime_Semrelease"], unfollowed := true, recurses := true, apart := false }
def ThinKnownSaid : Prop := thinKnownRow.holds Tryz.pinned (OpenSpec.ofChange thinKnownSpec)

/-- ITS FALSE NEIGHBOUR: 'it returns false'. Refute it at one input. -/
def thinKnownWrong : ChangeSpec := { name := "thinKnown", fn := fun _ => fun
  | [] => { results := [.lit (.bool false)], args := [] }
  | _ => none }
def ThinKnownWrongFalsely : Prop := thinKnownRow.holds Tryz.pinned (OpenSpec.ofChange thinKnownWrong)

/-- 'doorkeeperlaw17.ThinLinear': WHATEVER THE INPUT: true; the input reads as it did. -/
def thinLinearSpec : ChangeSpec := { name := "thinLinear", fn := fun _ => fun
  | [d] => { results := [.lit (.bool true)], args := [d] }
  | _ => none }
def thinLinearRow : OpenClaim := { program := "ytkmogkobedmnkaagreat", sum := "5847276a4c4aa93e95d88b4bdb4fbbedec8990079f48595fbb3753342f6ea6bc", func := "doorkeeper/doorkeeperlaw17.ThinLinear", spec := "thinLinear", inPlace := ["sync/atomic.AddInt64", "(*internal/sync.Mutex).Lock", "internal/race.Disable", "sync/atomic.CompareAndSwapInt32", "internal/race.Enable", "internal/race.Acquire", "(*internal/sync.Mutex).lockSlow", "internal/sync.runtime_canSpin", "internal/sync.runtime_doSpin", "internal/sync.throw", "internal/sync.runtime_nanotime", "internal/sync.runtime_SemacquireMutex", "sync/atomic.AddInt32", "(*internal/sync.Mutex).Unlock", "internal/race.ReleaseMerge", "(*internal/sync.Mutex).unlockSlow", "internal/sync.fatal", "internal/sync.runtime_Semrelease"], unfollowed := true, recurses := true, apart := false }
def ThinLinearSaid : Prop := thinLinearRow.holds Tryz.pinned (OpenSpec.ofChange thinLinearSpec)

/-- ITS FALSE NEIGHBOUR: 'it returns false'. Refute it at one input. -/
def thinLinearWrong : ChangeSpec := { name := "thinLinear", fn := fun _ => fun
  | [d] => { results := [.lit (.bool false)], args := [d] }
  | _ => none }
def ThinLinearWrongFalsely : Prop := thinLinearRow.holds Tryz.pinned (OpenSpec.ofChange thinLinearWrong)

/- THE SECOND FORM. 'bulk': how many values and letters a reading holds, each counted each time it is reached (what is shared counts as often as it is met; a slice's spare places count too). A statement '..UptoSaid' is the law's where the arguments, and the package variables that the reading takes, are together of bulk at most 1048576: NARROWER than '..Said'. Prove '..Said' where nothing that the law and all that it calls make is longer than what came in: it says more and counts as full. Else prove '..UptoSaid'. A law counts once. -/
mutual
def uptoBulk {H : Type} : DataW H → Nat
  | .lit (.string bytes) => bytes.length + 1
  | .lit _ => 1
  | .nil => 1
  | .ptr d => uptoBulk d + 1
  | .slice elems spare => uptoBulkAll elems + uptoBulkAll spare + 1
  | .agg parts => uptoBulkAll parts + 1
  | .iface _ d => uptoBulk d + 1
  | .map entries => uptoBulkEntries entries + 1
  | .held _ => 1
def uptoBulkAll {H : Type} : List (DataW H) → Nat
  | [] => 0
  | d :: r => uptoBulk d + uptoBulkAll r
def uptoBulkEntries {H : Type} : List (Lit × DataW H) → Nat
  | [] => 0
  | x :: r => uptoBulkEntry x + uptoBulkEntries r
def uptoBulkEntry {H : Type} : Lit × DataW H → Nat
  | (.string bytes, d) => bytes.length + uptoBulk d + 1
  | (_, d) => uptoBulk d + 1
 end
def uptoSmall : (H : Type) → List (DataW H) → Bool := fun _ ds => decide (uptoBulkAll ds ≤ 1048576)
def OpenSpec.upto (s : _root_.Go.ChangeSpec) : _root_.Go.OpenSpec := { _root_.Go.OpenSpec.ofChange s with cond := some uptoSmall }

/-- 'doorkeeperlaw17.ThinDeep', WHERE WHAT IT READS IS OF BULK AT MOST 1048576: true; the input reads as it did. -/
def thinDeepUptoRow : OpenClaim := { program := "ytkmogkobedmnkaagreat", sum := "5847276a4c4aa93e95d88b4bdb4fbbedec8990079f48595fbb3753342f6ea6bc", func := "doorkeeper/doorkeeperlaw17.ThinDeep", spec := "thinDeep", inPlace := ["sync/atomic.AddInt64", "(*internal/sync.Mutex).Lock", "internal/race.Disable", "sync/atomic.CompareAndSwapInt32", "internal/race.Enable", "internal/race.Acquire", "(*internal/sync.Mutex).lockSlow", "internal/sync.runtime_canSpin", "internal/sync.runtime_doSpin", "internal/sync.throw", "internal/sync.runtime_nanotime", "internal/sync.runtime_SemacquireMutex", "sync/atomic.AddInt32", "(*internal/sync.Mutex).Unlock", "internal/race.ReleaseMerge", "(*internal/sync.Mutex).unlockSlow", "internal/sync.fatal", "internal/sync.runtime_Semrelease"], unfollowed := true, recurses := true, apart := false, narrowed := true }
def ThinDeepUptoSaid : Prop := thinDeepUptoRow.holds Tryz.pinned (OpenSpec.upto thinDeepSpec)

/-- 'doorkeeperlaw17.ThinAgain', WHERE WHAT IT READS IS OF BULK AT MOST 1048576: true; the input reads as it did. -/
def thinAgainUptoRow : OpenClaim := { program := "ytkmogkobedmnkaagreat", sum := "5847276a4c4aa93e95d88b4bdb4fbbedec8990079f48595fbb3753342f6ea6bc", func := "doorkeeper/doorkeeperlaw17.ThinAgain", spec := "thinAgain", inPlace := ["sync/atomic.AddInt64", "(*internal/sync.Mutex).Lock", "internal/race.Disable", "sync/atomic.CompareAndSwapInt32", "internal/race.Enable", "internal/race.Acquire", "(*internal/sync.Mutex).lockSlow", "internal/sync.runtime_canSpin", "internal/sync.runtime_doSpin", "internal/sync.throw", "internal/sync.runtime_nanotime", "internal/sync.runtime_SemacquireMutex", "sync/atomic.AddInt32", "(*internal/sync.Mutex).Unlock", "internal/race.ReleaseMerge", "(*internal/sync.Mutex).unlockSlow", "internal/sync.fatal", "internal/sync.runtime_Semrelease"], unfollowed := true, recurses := true, apart := false, narrowed := true }
def ThinAgainUptoSaid : Prop := thinAgainUptoRow.holds Tryz.pinned (OpenSpec.upto thinAgainSpec)

/-- 'doorkeeperlaw17.ThinKnown', WHERE WHAT IT READS IS OF BULK AT MOST 1048576: true; the input reads as it did. -/
def thinKnownUptoRow : OpenClaim := { program := "ytkmogkobedmnkaagreat", sum := "5847276a4c4aa93e95d88b4bdb4fbbedec8990079f48595fbb3753342f6ea6bc", func := "doorkeeper/doorkeeperlaw17.ThinKnown", spec := "thinKnown", inPlace := ["sync/atomic.AddInt64", "(*internal/sync.Mutex).Lock", "internal/race.Disable", "sync/atomic.CompareAndSwapInt32", "internal/race.Enable", "internal/race.Acquire", "(*internal/sync.Mutex).lockSlow", "internal/sync.runtime_canSpin", "internal/sync.runtime_doSpin", "internal/sync.throw", "internal/sync.runtime_nanotime", "internal/sync.runtime_SemacquireMutex", "sync/atomic.AddInt32", "(*internal/sync.Mutex).Unlock", "internal/race.ReleaseMerge", "(*internal/sync.Mutex).unlockSlow", "internal/sync.fatal", "internal/sync.runtime_Semrelease"], unfollowed := true, recurses := true, apart := false, narrowed := true }
def ThinKnownUptoSaid : Prop := thinKnownUptoRow.holds Tryz.pinned (OpenSpec.upto thinKnownSpec)

/-- 'doorkeeperlaw17.ThinLinear', WHERE WHAT IT READS IS OF BULK AT MOST 1048576: true; the input reads as it did. -/
def thinLinearUptoRow : OpenClaim := { program := "ytkmogkobedmnkaagreat", sum := "5847276a4c4aa93e95d88b4bdb4fbbedec8990079f48595fbb3753342f6ea6bc", func := "doorkeeper/doorkeeperlaw17.ThinLinear", spec := "thinLinear", inPlace := ["sync/atomic.AddInt64", "(*internal/sync.Mutex).Lock", "internal/race.Disable", "sync/atomic.CompareAndSwapInt32", "internal/race.Enable", "internal/race.Acquire", "(*internal/sync.Mutex).lockSlow", "internal/sync.runtime_canSpin", "internal/sync.runtime_doSpin", "internal/sync.throw", "internal/sync.runtime_nanotime", "internal/sync.runtime_SemacquireMutex", "sync/atomic.AddInt32", "(*internal/sync.Mutex).Unlock", "internal/race.ReleaseMerge", "(*internal/sync.Mutex).unlockSlow", "internal/sync.fatal", "internal/sync.runtime_Semrelease"], unfollowed := true, recurses := true, apart := false, narrowed := true }
def ThinLinearUptoSaid : Prop := thinLinearUptoRow.holds Tryz.pinned (OpenSpec.upto thinLinearSpec)

end Rows
end Go.Proofs.YtkmogkobedmnkaaGreat
