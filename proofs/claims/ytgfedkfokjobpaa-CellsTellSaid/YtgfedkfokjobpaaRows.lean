/-
  No cell of these rows narrows 'for every input' (looked for: loops, veiled, ifaces, maps, wideKeys, modest, calm, conditions, laid).
  DERIVED. THE GIVEN ROWS OF THIS SEAT. 3 by the template 'for every input the law returns true; each argument reads behind the call as it read before'; 0 by the template 'total and deterministic' (their statements: YtgfedkfokjobpaaTotals.lean).
  GIVEN WITH THE SEED: the statements are not yours to turn. If you find one false, say at which input.
  Laid BY PROGRAM, IN A SANDBOX (cutbox-rows.mjs): the forced cells as the released guide's own fill.sh prints them over the translation eeffaf319b4838f9… (all of the seat's roots in one cut). By AI agents, Wed Nov 11 2026. No macro, syntax, notation, axiom, sorry.
-/
import Derived.Test.YtgfedkfokjobpaaChecked
import GoSem.Claim
import GoSem.ClaimJoined
import GoSem.ClaimMapViews
import Derived.JoinedTies
import Derived.KernelRfl
namespace Go.Proofs.Ytgfedkfokjobpaa
/- THE CELL 'sum', in the pinned program and in every row, IS THE sha256 OF THE DUMP (.gsa) THAT YtgfedkfokjobpaaProg.lean LOADS. Nothing in Lean hashes anything: it is a label: what it is worth is what the hold of that sum in a sandbox is worth. -/
noncomputable def Try.pinned : Pinned := { name := "ytgfedkfokjobpaa", sum := "eeffaf319b4838f96bfd9a4c1e1c3686379ebb7cf683d50c5764d25f6504593e", checked := Try.checked }
namespace Rows
def none {H : Type} : Left H := { results := [], args := [] }

/-- 'doorkeeperlaw03.CellsTell': WHATEVER THE INPUT: true; the input reads as it did. -/
def cellsTellSpec : ChangeSpec := { name := "cellsTell", fn := fun _ => fun
  | [d1, d2] => { results := [.lit (.bool true)], args := [d1, d2] }
  | _ => none }
def cellsTellRow : OpenClaim := { program := "ytgfedkfokjobpaa", sum := "eeffaf319b4838f96bfd9a4c1e1c3686379ebb7cf683d50c5764d25f6504593e", func := "doorkeeper/doorkeeperlaw03.CellsTell", spec := "cellsTell", inPlace := ["sync/atomic.AddInt64", "sync/atomic.LoadInt64"], unfollowed := true, recurses := true, apart := false }
def CellsTellSaid : Prop := cellsTellRow.holds Try.pinned (OpenSpec.ofChange cellsTellSpec)

/-- ITS FALSE NEIGHBOUR: 'it returns false'. Refute it at one input. -/
def cellsTellWrong : ChangeSpec := { name := "cellsTell", fn := fun _ => fun
  | [d1, d2] => { results := [.lit (.bool false)], args := [d1, d2] }
  | _ => none }
def CellsTellWrongFalsely : Prop := cellsTellRow.holds Try.pinned (OpenSpec.ofChange cellsTellWrong)

/-- 'doorkeeperlaw03.CellsKeep': WHATEVER THE INPUT: true; the input reads as it did. -/
def cellsKeepSpec : ChangeSpec := { name := "cellsKeep", fn := fun _ => fun
  | [d] => { results := [.lit (.bool true)], args := [d] }
  | _ => none }
def cellsKeepRow : OpenClaim := { program := "ytgfedkfokjobpaa", sum := "eeffaf319b4838f96bfd9a4c1e1c3686379ebb7cf683d50c5764d25f6504593e", func := "doorkeeper/doorkeeperlaw03.CellsKeep", spec := "cellsKeep", inPlace := ["sync/atomic.AddInt64", "sync/atomic.LoadInt64"], unfollowed := true, recurses := true, apart := false }
def CellsKeepSaid : Prop := cellsKeepRow.holds Try.pinned (OpenSpec.ofChange cellsKeepSpec)

/-- ITS FALSE NEIGHBOUR: 'it returns false'. Refute it at one input. -/
def cellsKeepWrong : ChangeSpec := { name := "cellsKeep", fn := fun _ => fun
  | [d] => { results := [.lit (.bool false)], args := [d] }
  | _ => none }
def CellsKeepWrongFalsely : Prop := cellsKeepRow.holds Try.pinned (OpenSpec.ofChange cellsKeepWrong)

/-- 'doorkeeperlaw03.CellsKnown': WHATEVER THE INPUT: true; the input reads as it did. -/
def cellsKnownSpec : ChangeSpec := { name := "cellsKnown", fn := fun _ => fun
  | [] => { results := [.lit (.bool true)], args := [] }
  | _ => none }
def cellsKnownRow : OpenClaim := { program := "ytgfedkfokjobpaa", sum := "eeffaf319b4838f96bfd9a4c1e1c3686379ebb7cf683d50c5764d25f6504593e", func := "doorkeeper/doorkeeperlaw03.CellsKnown", spec := "cellsKnown", inPlace := ["sync/atomic.AddInt64", "sync/atomic.LoadInt64"], unfollowed := true, recurses := true, apart := false }
def CellsKnownSaid : Prop := cellsKnownRow.holds Try.pinned (OpenSpec.ofChange cellsKnownSpec)

/-- ITS FALSE NEIGHBOUR: 'it returns false'. Refute it at one input. -/
def cellsKnownWrong : ChangeSpec := { name := "cellsKnown", fn := fun _ => fun
  | [] => { results := [.lit (.bool false)], args := [] }
  | _ => none }
def CellsKnownWrongFalsely : Prop := cellsKnownRow.holds Try.pinned (OpenSpec.ofChange cellsKnownWrong)

/- THE SECOND FORM. 'bulk': how many values and letters a reading holds, each counted each time it is reached (what is shared counts as often as it is met; a slice's spare places count too). A statement '..UptoSaid' is the law's where the arguments, and the package variables that the reading takes, are together of bulk at most 1048576: NARROWER than '..Said'. Prove '..Said' where nothing that the law and all that it calls make is longer than what came in: it says more and counts as full. Else prove '..UptoSaid'. A law counts once. -/
mutual
def uptoBulk {H : Type} : DataW H → Nat
  | .lit (.string bytes) => bytes.length + 1
  | .lit _ => 1
  | .nil => 1
  | .ptr d => uptoBulk d + 1
  | .slice elems spare => uptoBulkAll elems + uptoBulkAll spare + 1
  | .agg parts => uptoBulkAll parts + 1
  | .iface _ d => uptoBulk d + 1
  | .map entries => uptoBulkEntries entries + 1
  | .held _ => 1
def uptoBulkAll {H : Type} : List (DataW H) → Nat
  | [] => 0
  | d :: r => uptoBulk d + uptoBulkAll r
def uptoBulkEntries {H : Type} : List (Lit × DataW H) → Nat
  | [] => 0
  | x :: r => uptoBulkEntry x + uptoBulkEntries r
def uptoBulkEntry {H : Type} : Lit × DataW H → Nat
  | (.string bytes, d) => bytes.length + uptoBulk d + 1
  | (_, d) => uptoBulk d + 1
 end
def uptoSmall : (H : Type) → List (DataW H) → Bool := fun _ ds => decide (uptoBulkAll ds ≤ 1048576)
def OpenSpec.upto (s : _root_.Go.ChangeSpec) : _root_.Go.OpenSpec := { _root_.Go.OpenSpec.ofChange s with cond := some uptoSmall }

/-- 'doorkeeperlaw03.CellsTell', WHERE WHAT IT READS IS OF BULK AT MOST 1048576: true; the input reads as it did. -/
def cellsTellUptoRow : OpenClaim := { program := "ytgfedkfokjobpaa", sum := "eeffaf319b4838f96bfd9a4c1e1c3686379ebb7cf683d50c5764d25f6504593e", func := "doorkeeper/doorkeeperlaw03.CellsTell", spec := "cellsTell", inPlace := ["sync/atomic.AddInt64", "sync/atomic.LoadInt64"], unfollowed := true, recurses := true, apart := false, narrowed := true }
def CellsTellUptoSaid : Prop := cellsTellUptoRow.holds Try.pinned (OpenSpec.upto cellsTellSpec)

/-- 'doorkeeperlaw03.CellsKeep', WHERE WHAT IT READS IS OF BULK AT MOST 1048576: true; the input reads as it did. -/
def cellsKeepUptoRow : OpenClaim := { program := "ytgfedkfokjobpaa", sum := "eeffaf319b4838f96bfd9a4c1e1c3686379ebb7cf683d50c5764d25f6504593e", func := "doorkeeper/doorkeeperlaw03.CellsKeep", spec := "cellsKeep", inPlace := ["sync/atomic.AddInt64", "sync/atomic.LoadInt64"], unfollowed := true, recurses := true, apart := false, narrowed := true }
def CellsKeepUptoSaid : Prop := cellsKeepUptoRow.holds Try.pinned (OpenSpec.upto cellsKeepSpec)

/-- 'doorkeeperlaw03.CellsKnown', WHERE WHAT IT READS IS OF BULK AT MOST 1048576: true; the input reads as it did. -/
def cellsKnownUptoRow : OpenClaim := { program := "ytgfedkfokjobpaa", sum := "eeffaf319b4838f96bfd9a4c1e1c3686379ebb7cf683d50c5764d25f6504593e", func := "doorkeeper/doorkeeperlaw03.CellsKnown", spec := "cellsKnown", inPlace := ["sync/atomic.AddInt64", "sync/atomic.LoadInt64"], unfollowed := true, recurses := true, apart := false, narrowed := true }
def CellsKnownUptoSaid : Prop := cellsKnownUptoRow.holds Try.pinned (OpenSpec.upto cellsKnownSpec)

end Rows
end Go.Proofs.Ytgfedkfokjobpaa
