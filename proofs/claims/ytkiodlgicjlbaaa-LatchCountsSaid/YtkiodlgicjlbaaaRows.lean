/-
  No cell of these rows narrows 'for every input' (looked for: loops, veiled, ifaces, maps, wideKeys, modest, calm, conditions, laid).
  DERIVED. THE GIVEN ROWS OF THIS SEAT. 5 by the template 'for every input the law returns true; each argument reads behind the call as it read before'; 0 by the template 'total and deterministic' (their statements: YtkiodlgicjlbaaaTotals.lean).
  GIVEN WITH THE SEED: the statements are not yours to turn. If you find one false, say at which input.
  Laid BY PROGRAM, IN A SANDBOX (cutbox-rows.mjs): the forced cells as the released guide's own fill.sh prints them over the translation eb971909fe5e4e9d… (all of the seat's roots in one cut). By AI agents, Wed Nov 11 2026. No macro, syntax, notation, axiom, sorry.
-/
import Derived.Test.YtkiodlgicjlbaaaChecked
import GoSem.Claim
import GoSem.ClaimJoined
import GoSem.ClaimMapViews
import Derived.JoinedTies
import Derived.KernelRfl
namespace Go.Proofs.Ytkiodlgicjlbaaa
/- THE CELL 'sum', in the pinned program and in every row, IS THE sha256 OF THE DUMP (.gsa) THAT YtkiodlgicjlbaaaProg.lean LOADS. Nothing in Lean hashes anything: it is a label: what it is worth is what the hold of that sum in a sandbox is worth. -/
noncomputable def Try.pinned : Pinned := { name := "ytkiodlgicjlbaaa", sum := "eb971909fe5e4e9d41921bb01be3f2ce18686a556a5f264b24be217f736c6d38", checked := Try.checked }
namespace Rows
def none {H : Type} : Left H := { results := [], args := [] }

/-- 'doorkeeperlaw09.LatchOne': WHATEVER THE INPUT: true; the input reads as it did. -/
def latchOneSpec : ChangeSpec := { name := "latchOne", fn := fun _ => fun
  | [d1, d2, d3] => { results := [.lit (.bool true)], args := [d1, d2, d3] }
  | _ => none }
def latchOneRow : OpenClaim := { program := "ytkiodlgicjlbaaa", sum := "eb971909fe5e4e9d41921bb01be3f2ce18686a556a5f264b24be217f736c6d38", func := "doorkeeper/doorkeeperlaw09.LatchOne", spec := "latchOne", inPlace := ["sync/atomic.AddInt64"], unfollowed := true, recurses := true, apart := false }
def LatchOneSaid : Prop := latchOneRow.holds Try.pinned (OpenSpec.ofChange latchOneSpec)

/-- ITS FALSE NEIGHBOUR: 'it returns false'. Refute it at one input. -/
def latchOneWrong : ChangeSpec := { name := "latchOne", fn := fun _ => fun
  | [d1, d2, d3] => { results := [.lit (.bool false)], args := [d1, d2, d3] }
  | _ => none }
def LatchOneWrongFalsely : Prop := latchOneRow.holds Try.pinned (OpenSpec.ofChange latchOneWrong)

/-- 'doorkeeperlaw09.LatchCounts': WHATEVER THE INPUT: true; the input reads as it did. -/
def latchCountsSpec : ChangeSpec := { name := "latchCounts", fn := fun _ => fun
  | [d1, d2, d3] => { results := [.lit (.bool true)], args := [d1, d2, d3] }
  | _ => none }
def latchCountsRow : OpenClaim := { program := "ytkiodlgicjlbaaa", sum := "eb971909fe5e4e9d41921bb01be3f2ce18686a556a5f264b24be217f736c6d38", func := "doorkeeper/doorkeeperlaw09.LatchCounts", spec := "latchCounts", inPlace := ["sync/atomic.AddInt64"], unfollowed := true, recurses := true, apart := false }
def LatchCountsSaid : Prop := latchCountsRow.holds Try.pinned (OpenSpec.ofChange latchCountsSpec)

/-- ITS FALSE NEIGHBOUR: 'it returns false'. Refute it at one input. -/
def latchCountsWrong : ChangeSpec := { name := "latchCounts", fn := fun _ => fun
  | [d1, d2, d3] => { results := [.lit (.bool false)], args := [d1, d2, d3] }
  | _ => none }
def LatchCountsWrongFalsely : Prop := latchCountsRow.holds Try.pinned (OpenSpec.ofChange latchCountsWrong)

/-- 'doorkeeperlaw09.LatchSteps': WHATEVER THE INPUT: true; the input reads as it did. -/
def latchStepsSpec : ChangeSpec := { name := "latchSteps", fn := fun _ => fun
  | [d1, d2, d3] => { results := [.lit (.bool true)], args := [d1, d2, d3] }
  | _ => none }
def latchStepsRow : OpenClaim := { program := "ytkiodlgicjlbaaa", sum := "eb971909fe5e4e9d41921bb01be3f2ce18686a556a5f264b24be217f736c6d38", func := "doorkeeper/doorkeeperlaw09.LatchSteps", spec := "latchSteps", inPlace := ["sync/atomic.AddInt64", "sync/atomic.LoadInt64"], unfollowed := true, recurses := true, apart := false }
def LatchStepsSaid : Prop := latchStepsRow.holds Try.pinned (OpenSpec.ofChange latchStepsSpec)

/-- ITS FALSE NEIGHBOUR: 'it returns false'. Refute it at one input. -/
def latchStepsWrong : ChangeSpec := { name := "latchSteps", fn := fun _ => fun
  | [d1, d2, d3] => { results := [.lit (.bool false)], args := [d1, d2, d3] }
  | _ => none }
def LatchStepsWrongFalsely : Prop := latchStepsRow.holds Try.pinned (OpenSpec.ofChange latchStepsWrong)

/-- 'doorkeeperlaw09.LatchBumps': WHATEVER THE INPUT: true; the input reads as it did. -/
def latchBumpsSpec : ChangeSpec := { name := "latchBumps", fn := fun _ => fun
  | [d1, d2] => { results := [.lit (.bool true)], args := [d1, d2] }
  | _ => none }
def latchBumpsRow : OpenClaim := { program := "ytkiodlgicjlbaaa", sum := "eb971909fe5e4e9d41921bb01be3f2ce18686a556a5f264b24be217f736c6d38", func := "doorkeeper/doorkeeperlaw09.LatchBumps", spec := "latchBumps", inPlace := ["sync/atomic.AddInt64", "sync/atomic.LoadInt64"], unfollowed := true, recurses := true, apart := false }
def LatchBumpsSaid : Prop := latchBumpsRow.holds Try.pinned (OpenSpec.ofChange latchBumpsSpec)

/-- ITS FALSE NEIGHBOUR: 'it returns false'. Refute it at one input. -/
def latchBumpsWrong : ChangeSpec := { name := "latchBumps", fn := fun _ => fun
  | [d1, d2] => { results := [.lit (.bool false)], args := [d1, d2] }
  | _ => none }
def LatchBumpsWrongFalsely : Prop := latchBumpsRow.holds Try.pinned (OpenSpec.ofChange latchBumpsWrong)

/-- 'doorkeeperlaw09.LatchKnown': WHATEVER THE INPUT: true; the input reads as it did. -/
def latchKnownSpec : ChangeSpec := { name := "latchKnown", fn := fun _ => fun
  | [] => { results := [.lit (.bool true)], args := [] }
  | _ => none }
def latchKnownRow : OpenClaim := { program := "ytkiodlgicjlbaaa", sum := "eb971909fe5e4e9d41921bb01be3f2ce18686a556a5f264b24be217f736c6d38", func := "doorkeeper/doorkeeperlaw09.LatchKnown", spec := "latchKnown", inPlace := ["sync/atomic.AddInt64", "sync/atomic.LoadInt64"], unfollowed := true, recurses := true, apart := false }
def LatchKnownSaid : Prop := latchKnownRow.holds Try.pinned (OpenSpec.ofChange latchKnownSpec)

/-- ITS FALSE NEIGHBOUR: 'it returns false'. Refute it at one input. -/
def latchKnownWrong : ChangeSpec := { name := "latchKnown", fn := fun _ => fun
  | [] => { results := [.lit (.bool false)], args := [] }
  | _ => none }
def LatchKnownWrongFalsely : Prop := latchKnownRow.holds Try.pinned (OpenSpec.ofChange latchKnownWrong)

/- THE SECOND FORM. 'bulk': how many values and letters a reading holds, each counted each time it is reached (what is shared counts as often as it is met; a slice's spare places count too). A statement '..UptoSaid' is the law's where the arguments, and the package variables that the reading takes, are together of bulk at most 1048576: NARROWER than '..Said'. Prove '..Said' where nothing that the law and all that it calls make is longer than what came in: it says more and counts as full. Else prove '..UptoSaid'. A law counts once. -/
mutual
def uptoBulk {H : Type} : DataW H → Nat
  | .lit (.string bytes) => bytes.length + 1
  | .lit _ => 1
  | .nil => 1
  | .ptr d => uptoBulk d + 1
  | .slice elems spare => uptoBulkAll elems + uptoBulkAll spare + 1
  | .agg parts => uptoBulkAll parts + 1
  | .iface _ d => uptoBulk d + 1
  | .map entries => uptoBulkEntries entries + 1
  | .held _ => 1
def uptoBulkAll {H : Type} : List (DataW H) → Nat
  | [] => 0
  | d :: r => uptoBulk d + uptoBulkAll r
def uptoBulkEntries {H : Type} : List (Lit × DataW H) → Nat
  | [] => 0
  | x :: r => uptoBulkEntry x + uptoBulkEntries r
def uptoBulkEntry {H : Type} : Lit × DataW H → Nat
  | (.string bytes, d) => bytes.length + uptoBulk d + 1
  | (_, d) => uptoBulk d + 1
 end
def uptoSmall : (H : Type) → List (DataW H) → Bool := fun _ ds => decide (uptoBulkAll ds ≤ 1048576)
def OpenSpec.upto (s : _root_.Go.ChangeSpec) : _root_.Go.OpenSpec := { _root_.Go.OpenSpec.ofChange s with cond := some uptoSmall }

/-- 'doorkeeperlaw09.LatchOne', WHERE WHAT IT READS IS OF BULK AT MOST 1048576: true; the input reads as it did. -/
def latchOneUptoRow : OpenClaim := { program := "ytkiodlgicjlbaaa", sum := "eb971909fe5e4e9d41921bb01be3f2ce18686a556a5f264b24be217f736c6d38", func := "doorkeeper/doorkeeperlaw09.LatchOne", spec := "latchOne", inPlace := ["sync/atomic.AddInt64"], unfollowed := true, recurses := true, apart := false, narrowed := true }
def LatchOneUptoSaid : Prop := latchOneUptoRow.holds Try.pinned (OpenSpec.upto latchOneSpec)

/-- 'doorkeeperlaw09.LatchCounts', WHERE WHAT IT READS IS OF BULK AT MOST 1048576: true; the input reads as it did. -/
def latchCountsUptoRow : OpenClaim := { program := "ytkiodlgicjlbaaa", sum := "eb971909fe5e4e9d41921bb01be3f2ce18686a556a5f264b24be217f736c6d38", func := "doorkeeper/doorkeeperlaw09.LatchCounts", spec := "latchCounts", inPlace := ["sync/atomic.AddInt64"], unfollowed := true, recurses := true, apart := false, narrowed := true }
def LatchCountsUptoSaid : Prop := latchCountsUptoRow.holds Try.pinned (OpenSpec.upto latchCountsSpec)

/-- 'doorkeeperlaw09.LatchSteps', WHERE WHAT IT READS IS OF BULK AT MOST 1048576: true; the input reads as it did. -/
def latchStepsUptoRow : OpenClaim := { program := "ytkiodlgicjlbaaa", sum := "eb971909fe5e4e9d41921bb01be3f2ce18686a556a5f264b24be217f736c6d38", func := "doorkeeper/doorkeeperlaw09.LatchSteps", spec := "latchSteps", inPlace := ["sync/atomic.AddInt64", "sync/atomic.LoadInt64"], unfollowed := true, recurses := true, apart := false, narrowed := true }
def LatchStepsUptoSaid : Prop := latchStepsUptoRow.holds Try.pinned (OpenSpec.upto latchStepsSpec)

/-- 'doorkeeperlaw09.LatchBumps', WHERE WHAT IT READS IS OF BULK AT MOST 1048576: true; the input reads as it did. -/
def latchBumpsUptoRow : OpenClaim := { program := "ytkiodlgicjlbaaa", sum := "eb971909fe5e4e9d41921bb01be3f2ce18686a556a5f264b24be217f736c6d38", func := "doorkeeper/doorkeeperlaw09.LatchBumps", spec := "latchBumps", inPlace := ["sync/atomic.AddInt64", "sync/atomic.LoadInt64"], unfollowed := true, recurses := true, apart := false, narrowed := true }
def LatchBumpsUptoSaid : Prop := latchBumpsUptoRow.holds Try.pinned (OpenSpec.upto latchBumpsSpec)

/-- 'doorkeeperlaw09.LatchKnown', WHERE WHAT IT READS IS OF BULK AT MOST 1048576: true; the input reads as it did. -/
def latchKnownUptoRow : OpenClaim := { program := "ytkiodlgicjlbaaa", sum := "eb971909fe5e4e9d41921bb01be3f2ce18686a556a5f264b24be217f736c6d38", func := "doorkeeper/doorkeeperlaw09.LatchKnown", spec := "latchKnown", inPlace := ["sync/atomic.AddInt64", "sync/atomic.LoadInt64"], unfollowed := true, recurses := true, apart := false, narrowed := true }
def LatchKnownUptoSaid : Prop := latchKnownUptoRow.holds Try.pinned (OpenSpec.upto latchKnownSpec)

end Rows
end Go.Proofs.Ytkiodlgicjlbaaa
