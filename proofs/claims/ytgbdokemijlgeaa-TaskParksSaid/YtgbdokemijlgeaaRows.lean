/-
  No cell of these rows narrows 'for every input' (looked for: loops, veiled, ifaces, maps, wideKeys, modest, calm, conditions, laid).
  DERIVED. THE GIVEN ROWS OF THIS SEAT. 5 by the template 'for every input the law returns true; each argument reads behind the call as it read before'; 0 by the template 'total and deterministic' (their statements: YtgbdokemijlgeaaTotals.lean).
  GIVEN WITH THE SEED: the statements are not yours to turn. If you find one false, say at which input.
  Laid BY PROGRAM, IN A SANDBOX (cutbox-rows.mjs): the forced cells as the released guide's own fill.sh prints them over the translation 2ef91bbcbbe501d7… (all of the seat's roots in one cut). By AI agents, Wed Nov 11 2026. No macro, syntax, notation, axiom, sorry.
-/
import Derived.Test.YtgbdokemijlgeaaChecked
import GoSem.Claim
import GoSem.ClaimJoined
import GoSem.ClaimMapViews
import Derived.JoinedTies
import Derived.KernelRfl
namespace Go.Proofs.Ytgbdokemijlgeaa
/- THE CELL 'sum', in the pinned program and in every row, IS THE sha256 OF THE DUMP (.gsa) THAT YtgbdokemijlgeaaProg.lean LOADS. Nothing in Lean hashes anything: it is a label: what it is worth is what the hold of that sum in a sandbox is worth. -/
noncomputable def Try.pinned : Pinned := { name := "ytgbdokemijlgeaa", sum := "2ef91bbcbbe501d780f2a4d9cb7d1e19c98ed678b81ca22f841b11379659ae07", checked := Try.checked }
namespace Rows
def none {H : Type} : Left H := { results := [], args := [] }

/-- 'doorkeeperlaw06.TaskSpins': WHATEVER THE INPUT: true; the input reads as it did. -/
def taskSpinsSpec : ChangeSpec := { name := "taskSpins", fn := fun _ => fun
  | [d1, d2, d3] => { results := [.lit (.bool true)], args := [d1, d2, d3] }
  | _ => none }
def taskSpinsRow : OpenClaim := { program := "ytgbdokemijlgeaa", sum := "2ef91bbcbbe501d780f2a4d9cb7d1e19c98ed678b81ca22f841b11379659ae07", func := "doorkeeper/doorkeeperlaw06.TaskSpins", spec := "taskSpins", inPlace := ["sync/atomic.AddInt64"], unfollowed := true, recurses := true, apart := false }
def TaskSpinsSaid : Prop := taskSpinsRow.holds Try.pinned (OpenSpec.ofChange taskSpinsSpec)

/-- ITS FALSE NEIGHBOUR: 'it returns false'. Refute it at one input. -/
def taskSpinsWrong : ChangeSpec := { name := "taskSpins", fn := fun _ => fun
  | [d1, d2, d3] => { results := [.lit (.bool false)], args := [d1, d2, d3] }
  | _ => none }
def TaskSpinsWrongFalsely : Prop := taskSpinsRow.holds Try.pinned (OpenSpec.ofChange taskSpinsWrong)

/-- 'doorkeeperlaw06.TaskParks': WHATEVER THE INPUT: true; the input reads as it did. -/
def taskParksSpec : ChangeSpec := { name := "taskParks", fn := fun _ => fun
  | [d1, d2, d3] => { results := [.lit (.bool true)], args := [d1, d2, d3] }
  | _ => none }
def taskParksRow : OpenClaim := { program := "ytgbdokemijlgeaa", sum := "2ef91bbcbbe501d780f2a4d9cb7d1e19c98ed678b81ca22f841b11379659ae07", func := "doorkeeper/doorkeeperlaw06.TaskParks", spec := "taskParks", inPlace := ["sync/atomic.AddInt64"], unfollowed := true, recurses := true, apart := false }
def TaskParksSaid : Prop := taskParksRow.holds Try.pinned (OpenSpec.ofChange taskParksSpec)

/-- ITS FALSE NEIGHBOUR: 'it returns false'. Refute it at one input. -/
def taskParksWrong : ChangeSpec := { name := "taskParks", fn := fun _ => fun
  | [d1, d2, d3] => { results := [.lit (.bool false)], args := [d1, d2, d3] }
  | _ => none }
def TaskParksWrongFalsely : Prop := taskParksRow.holds Try.pinned (OpenSpec.ofChange taskParksWrong)

/-- 'doorkeeperlaw06.TaskPlays': WHATEVER THE INPUT: true; the input reads as it did. -/
def taskPlaysSpec : ChangeSpec := { name := "taskPlays", fn := fun _ => fun
  | [d1, d2] => { results := [.lit (.bool true)], args := [d1, d2] }
  | _ => none }
def taskPlaysRow : OpenClaim := { program := "ytgbdokemijlgeaa", sum := "2ef91bbcbbe501d780f2a4d9cb7d1e19c98ed678b81ca22f841b11379659ae07", func := "doorkeeper/doorkeeperlaw06.TaskPlays", spec := "taskPlays", inPlace := ["sync/atomic.AddInt64", "sync/atomic.LoadInt64"], unfollowed := true, recurses := true, apart := false }
def TaskPlaysSaid : Prop := taskPlaysRow.holds Try.pinned (OpenSpec.ofChange taskPlaysSpec)

/-- ITS FALSE NEIGHBOUR: 'it returns false'. Refute it at one input. -/
def taskPlaysWrong : ChangeSpec := { name := "taskPlays", fn := fun _ => fun
  | [d1, d2] => { results := [.lit (.bool false)], args := [d1, d2] }
  | _ => none }
def TaskPlaysWrongFalsely : Prop := taskPlaysRow.holds Try.pinned (OpenSpec.ofChange taskPlaysWrong)

/-- 'doorkeeperlaw06.TaskKnown': WHATEVER THE INPUT: true; the input reads as it did. -/
def taskKnownSpec : ChangeSpec := { name := "taskKnown", fn := fun _ => fun
  | [] => { results := [.lit (.bool true)], args := [] }
  | _ => none }
def taskKnownRow : OpenClaim := { program := "ytgbdokemijlgeaa", sum := "2ef91bbcbbe501d780f2a4d9cb7d1e19c98ed678b81ca22f841b11379659ae07", func := "doorkeeper/doorkeeperlaw06.TaskKnown", spec := "taskKnown", inPlace := ["sync/atomic.AddInt64"], unfollowed := true, recurses := true, apart := false }
def TaskKnownSaid : Prop := taskKnownRow.holds Try.pinned (OpenSpec.ofChange taskKnownSpec)

/-- ITS FALSE NEIGHBOUR: 'it returns false'. Refute it at one input. -/
def taskKnownWrong : ChangeSpec := { name := "taskKnown", fn := fun _ => fun
  | [] => { results := [.lit (.bool false)], args := [] }
  | _ => none }
def TaskKnownWrongFalsely : Prop := taskKnownRow.holds Try.pinned (OpenSpec.ofChange taskKnownWrong)

/-- 'doorkeeperlaw06.TaskSteps': WHATEVER THE INPUT: true; the input reads as it did. -/
def taskStepsSpec : ChangeSpec := { name := "taskSteps", fn := fun _ => fun
  | [d] => { results := [.lit (.bool true)], args := [d] }
  | _ => none }
def taskStepsRow : OpenClaim := { program := "ytgbdokemijlgeaa", sum := "2ef91bbcbbe501d780f2a4d9cb7d1e19c98ed678b81ca22f841b11379659ae07", func := "doorkeeper/doorkeeperlaw06.TaskSteps", spec := "taskSteps", inPlace := ["sync/atomic.AddInt64", "sync/atomic.LoadInt64"], unfollowed := true, recurses := true, apart := false }
def TaskStepsSaid : Prop := taskStepsRow.holds Try.pinned (OpenSpec.ofChange taskStepsSpec)

/-- ITS FALSE NEIGHBOUR: 'it returns false'. Refute it at one input. -/
def taskStepsWrong : ChangeSpec := { name := "taskSteps", fn := fun _ => fun
  | [d] => { results := [.lit (.bool false)], args := [d] }
  | _ => none }
def TaskStepsWrongFalsely : Prop := taskStepsRow.holds Try.pinned (OpenSpec.ofChange taskStepsWrong)

/- THE SECOND FORM. 'bulk': how many values and letters a reading holds, each counted each time it is reached (what is shared counts as often as it is met; a slice's spare places count too). A statement '..UptoSaid' is the law's where the arguments, and the package variables that the reading takes, are together of bulk at most 1048576: NARROWER than '..Said'. Prove '..Said' where nothing that the law and all that it calls make is longer than what came in: it says more and counts as full. Else prove '..UptoSaid'. A law counts once. -/
mutual
def uptoBulk {H : Type} : DataW H → Nat
  | .lit (.string bytes) => bytes.length + 1
  | .lit _ => 1
  | .nil => 1
  | .ptr d => uptoBulk d + 1
  | .slice elems spare => uptoBulkAll elems + uptoBulkAll spare + 1
  | .agg parts => uptoBulkAll parts + 1
  | .iface _ d => uptoBulk d + 1
  | .map entries => uptoBulkEntries entries + 1
  | .held _ => 1
def uptoBulkAll {H : Type} : List (DataW H) → Nat
  | [] => 0
  | d :: r => uptoBulk d + uptoBulkAll r
def uptoBulkEntries {H : Type} : List (Lit × DataW H) → Nat
  | [] => 0
  | x :: r => uptoBulkEntry x + uptoBulkEntries r
def uptoBulkEntry {H : Type} : Lit × DataW H → Nat
  | (.string bytes, d) => bytes.length + uptoBulk d + 1
  | (_, d) => uptoBulk d + 1
 end
def uptoSmall : (H : Type) → List (DataW H) → Bool := fun _ ds => decide (uptoBulkAll ds ≤ 1048576)
def OpenSpec.upto (s : _root_.Go.ChangeSpec) : _root_.Go.OpenSpec := { _root_.Go.OpenSpec.ofChange s with cond := some uptoSmall }

/-- 'doorkeeperlaw06.TaskSpins', WHERE WHAT IT READS IS OF BULK AT MOST 1048576: true; the input reads as it did. -/
def taskSpinsUptoRow : OpenClaim := { program := "ytgbdokemijlgeaa", sum := "2ef91bbcbbe501d780f2a4d9cb7d1e19c98ed678b81ca22f841b11379659ae07", func := "doorkeeper/doorkeeperlaw06.TaskSpins", spec := "taskSpins", inPlace := ["sync/atomic.AddInt64"], unfollowed := true, recurses := true, apart := false, narrowed := true }
def TaskSpinsUptoSaid : Prop := taskSpinsUptoRow.holds Try.pinned (OpenSpec.upto taskSpinsSpec)

/-- 'doorkeeperlaw06.TaskParks', WHERE WHAT IT READS IS OF BULK AT MOST 1048576: true; the input reads as it did. -/
def taskParksUptoRow : OpenClaim := { program := "ytgbdokemijlgeaa", sum := "2ef91bbcbbe501d780f2a4d9cb7d1e19c98ed678b81ca22f841b11379659ae07", func := "doorkeeper/doorkeeperlaw06.TaskParks", spec := "taskParks", inPlace := ["sync/atomic.AddInt64"], unfollowed := true, recurses := true, apart := false, narrowed := true }
def TaskParksUptoSaid : Prop := taskParksUptoRow.holds Try.pinned (OpenSpec.upto taskParksSpec)

/-- 'doorkeeperlaw06.TaskPlays', WHERE WHAT IT READS IS OF BULK AT MOST 1048576: true; the input reads as it did. -/
def taskPlaysUptoRow : OpenClaim := { program := "ytgbdokemijlgeaa", sum := "2ef91bbcbbe501d780f2a4d9cb7d1e19c98ed678b81ca22f841b11379659ae07", func := "doorkeeper/doorkeeperlaw06.TaskPlays", spec := "taskPlays", inPlace := ["sync/atomic.AddInt64", "sync/atomic.LoadInt64"], unfollowed := true, recurses := true, apart := false, narrowed := true }
def TaskPlaysUptoSaid : Prop := taskPlaysUptoRow.holds Try.pinned (OpenSpec.upto taskPlaysSpec)

/-- 'doorkeeperlaw06.TaskKnown', WHERE WHAT IT READS IS OF BULK AT MOST 1048576: true; the input reads as it did. -/
def taskKnownUptoRow : OpenClaim := { program := "ytgbdokemijlgeaa", sum := "2ef91bbcbbe501d780f2a4d9cb7d1e19c98ed678b81ca22f841b11379659ae07", func := "doorkeeper/doorkeeperlaw06.TaskKnown", spec := "taskKnown", inPlace := ["sync/atomic.AddInt64"], unfollowed := true, recurses := true, apart := false, narrowed := true }
def TaskKnownUptoSaid : Prop := taskKnownUptoRow.holds Try.pinned (OpenSpec.upto taskKnownSpec)

/-- 'doorkeeperlaw06.TaskSteps', WHERE WHAT IT READS IS OF BULK AT MOST 1048576: true; the input reads as it did. -/
def taskStepsUptoRow : OpenClaim := { program := "ytgbdokemijlgeaa", sum := "2ef91bbcbbe501d780f2a4d9cb7d1e19c98ed678b81ca22f841b11379659ae07", func := "doorkeeper/doorkeeperlaw06.TaskSteps", spec := "taskSteps", inPlace := ["sync/atomic.AddInt64", "sync/atomic.LoadInt64"], unfollowed := true, recurses := true, apart := false, narrowed := true }
def TaskStepsUptoSaid : Prop := taskStepsUptoRow.holds Try.pinned (OpenSpec.upto taskStepsSpec)

end Rows
end Go.Proofs.Ytgbdokemijlgeaa
