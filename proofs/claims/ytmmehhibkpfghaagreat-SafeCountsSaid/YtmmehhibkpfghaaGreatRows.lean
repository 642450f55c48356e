/-
  No cell of these rows narrows 'for every input' (looked for: loops, veiled, ifaces, maps, wideKeys, modest, calm, conditions, laid).
  DERIVED. THE GIVEN ROWS OF THIS SEAT. 3 by the template 'for every input the law returns true; each argument reads behind the call as it read before'; 0 by the template 'total and deterministic' (their statements: YtmmehhibkpfghaaGreatTotals.lean).
  GIVEN WITH THE SEED: the statements are not yours to turn. If you find one false, say at which input.
  Laid BY PROGRAM, IN A SANDBOX (cutbox-rows.mjs): the forced cells as the released guide's own fill.sh prints them over the translation f492f27e906b636f… (all of the seat's roots in one cut). By AI agents, Wed Nov 11 2026. No macro, syntax, notation, axiom, sorry.
-/
import Derived.Test.YtmmehhibkpfghaaGreatChecked
import GoSem.Claim
import GoSem.ClaimJoined
import GoSem.ClaimMapViews
import Derived.JoinedTies
import Derived.KernelRfl
namespace Go.Proofs.YtmmehhibkpfghaaGreat
/- THE CELL 'sum', in the pinned program and in every row, IS THE sha256 OF THE DUMP (.gsa) THAT YtmmehhibkpfghaaGreatProg.lean LOADS. Nothing in Lean hashes anything: it is a label: what it is worth is what the hold of that sum in a sandbox is worth. -/
noncomputable def Tryz.pinned : Pinned := { name := "ytmmehhibkpfghaagreat", sum := "f492f27e906b636f1d91071ea6b334e46a5dd5a0fbb1afc8a1317cf0d359e6e5", checked := Tryz.checked }
namespace Rows
def none {H : Type} : Left H := { results := [], args := [] }

/-- 'doorkeeperlaw18.SafeMutual': WHATEVER THE INPUT: true; the input reads as it did. -/
def safeMutualSpec : ChangeSpec := { name := "safeMutual", fn := fun _ => fun
  | [d1, d2, d3] => { results := [.lit (.bool true)], args := [d1, d2, d3] }
  | _ => none }
def safeMutualRow : OpenClaim := { program := "ytmmehhibkpfghaagreat", sum := "f492f27e906b636f1d91071ea6b334e46a5dd5a0fbb1afc8a1317cf0d359e6e5", func := "doorkeeper/doorkeeperlaw18.SafeMutual", spec := "safeMutual", inPlace := ["sync/atomic.AddInt64"], unfollowed := true, recurses := true, apart := false }
def SafeMutualSaid : Prop := safeMutualRow.holds Tryz.pinned (OpenSpec.ofChange safeMutualSpec)

/-- ITS FALSE NEIGHBOUR: 'it returns false'. Refute it at one input. -/
def safeMutualWrong : ChangeSpec := { name := "safeMutual", fn := fun _ => fun
  | [d1, d2, d3] => { results := [.lit (.bool false)], args := [d1, d2, d3] }
  | _ => none }
def SafeMutualWrongFalsely : Prop := safeMutualRow.holds Tryz.pinned (OpenSpec.ofChange safeMutualWrong)

/-- 'doorkeeperlaw18.SafeCounts': WHATEVER THE INPUT: true; the input reads as it did. -/
def safeCountsSpec : ChangeSpec := { name := "safeCounts", fn := fun _ => fun
  | [d] => { results := [.lit (.bool true)], args := [d] }
  | _ => none }
def safeCountsRow : OpenClaim := { program := "ytmmehhibkpfghaagreat", sum := "f492f27e906b636f1d91071ea6b334e46a5dd5a0fbb1afc8a1317cf0d359e6e5", func := "doorkeeper/doorkeeperlaw18.SafeCounts", spec := "safeCounts", inPlace := ["sync/atomic.AddInt64", "sync/atomic.LoadInt64"], unfollowed := true, recurses := true, apart := false }
def SafeCountsSaid : Prop := safeCountsRow.holds Tryz.pinned (OpenSpec.ofChange safeCountsSpec)

/-- ITS FALSE NEIGHBOUR: 'it returns false'. Refute it at one input. -/
def safeCountsWrong : ChangeSpec := { name := "safeCounts", fn := fun _ => fun
  | [d] => { results := [.lit (.bool false)], args := [d] }
  | _ => none }
def SafeCountsWrongFalsely : Prop := safeCountsRow.holds Tryz.pinned (OpenSpec.ofChange safeCountsWrong)

/-- 'doorkeeperlaw18.SafeKnown': WHATEVER THE INPUT: true; the input reads as it did. -/
def safeKnownSpec : ChangeSpec := { name := "safeKnown", fn := fun _ => fun
  | [] => { results := [.lit (.bool true)], args := [] }
  | _ => none }
def safeKnownRow : OpenClaim := { program := "ytmmehhibkpfghaagreat", sum := "f492f27e906b636f1d91071ea6b334e46a5dd5a0fbb1afc8a1317cf0d359e6e5", func := "doorkeeper/doorkeeperlaw18.SafeKnown", spec := "safeKnown", inPlace := ["sync/atomic.AddInt64"], unfollowed := true, recurses := true, apart := false }
def SafeKnownSaid : Prop := safeKnownRow.holds Tryz.pinned (OpenSpec.ofChange safeKnownSpec)

/-- ITS FALSE NEIGHBOUR: 'it returns false'. Refute it at one input. -/
def safeKnownWrong : ChangeSpec := { name := "safeKnown", fn := fun _ => fun
  | [] => { results := [.lit (.bool false)], args := [] }
  | _ => none }
def SafeKnownWrongFalsely : Prop := safeKnownRow.holds Tryz.pinned (OpenSpec.ofChange safeKnownWrong)

/- THE SECOND FORM. 'bulk': how many values and letters a reading holds, each counted each time it is reached (what is shared counts as often as it is met; a slice's spare places count too). A statement '..UptoSaid' is the law's where the arguments, and the package variables that the reading takes, are together of bulk at most 1048576: NARROWER than '..Said'. Prove '..Said' where nothing that the law and all that it calls make is longer than what came in: it says more and counts as full. Else prove '..UptoSaid'. A law counts once. -/
mutual
def uptoBulk {H : Type} : DataW H → Nat
  | .lit (.string bytes) => bytes.length + 1
  | .lit _ => 1
  | .nil => 1
  | .ptr d => uptoBulk d + 1
  | .slice elems spare => uptoBulkAll elems + uptoBulkAll spare + 1
  | .agg parts => uptoBulkAll parts + 1
  | .iface _ d => uptoBulk d + 1
  | .map entries => uptoBulkEntries entries + 1
  | .held _ => 1
def uptoBulkAll {H : Type} : List (DataW H) → Nat
  | [] => 0
  | d :: r => uptoBulk d + uptoBulkAll r
def uptoBulkEntries {H : Type} : List (Lit × DataW H) → Nat
  | [] => 0
  | x :: r => uptoBulkEntry x + uptoBulkEntries r
def uptoBulkEntry {H : Type} : Lit × DataW H → Nat
  | (.string bytes, d) => bytes.length + uptoBulk d + 1
  | (_, d) => uptoBulk d + 1
 end
def uptoSmall : (H : Type) → List (DataW H) → Bool := fun _ ds => decide (uptoBulkAll ds ≤ 1048576)
def OpenSpec.upto (s : _root_.Go.ChangeSpec) : _root_.Go.OpenSpec := { _root_.Go.OpenSpec.ofChange s with cond := some uptoSmall }

/-- 'doorkeeperlaw18.SafeMutual', WHERE WHAT IT READS IS OF BULK AT MOST 1048576: true; the input reads as it did. -/
def safeMutualUptoRow : OpenClaim := { program := "ytmmehhibkpfghaagreat", sum := "f492f27e906b636f1d91071ea6b334e46a5dd5a0fbb1afc8a1317cf0d359e6e5", func := "doorkeeper/doorkeeperlaw18.SafeMutual", spec := "safeMutual", inPlace := ["sync/atomic.AddInt64"], unfollowed := true, recurses := true, apart := false, narrowed := true }
def SafeMutualUptoSaid : Prop := safeMutualUptoRow.holds Tryz.pinned (OpenSpec.upto safeMutualSpec)

/-- 'doorkeeperlaw18.SafeCounts', WHERE WHAT IT READS IS OF BULK AT MOST 1048576: true; the input reads as it did. -/
def safeCountsUptoRow : OpenClaim := { program := "ytmmehhibkpfghaagreat", sum := "f492f27e906b636f1d91071ea6b334e46a5dd5a0fbb1afc8a1317cf0d359e6e5", func := "doorkeeper/doorkeeperlaw18.SafeCounts", spec := "safeCounts", inPlace := ["sync/atomic.AddInt64", "sync/atomic.LoadInt64"], unfollowed := true, recurses := true, apart := false, narrowed := true }
def SafeCountsUptoSaid : Prop := safeCountsUptoRow.holds Tryz.pinned (OpenSpec.upto safeCountsSpec)

/-- 'doorkeeperlaw18.SafeKnown', WHERE WHAT IT READS IS OF BULK AT MOST 1048576: true; the input reads as it did. -/
def safeKnownUptoRow : OpenClaim := { program := "ytmmehhibkpfghaagreat", sum := "f492f27e906b636f1d91071ea6b334e46a5dd5a0fbb1afc8a1317cf0d359e6e5", func := "doorkeeper/doorkeeperlaw18.SafeKnown", spec := "safeKnown", inPlace := ["sync/atomic.AddInt64"], unfollowed := true, recurses := true, apart := false, narrowed := true }
def SafeKnownUptoSaid : Prop := safeKnownUptoRow.holds Tryz.pinned (OpenSpec.upto safeKnownSpec)

end Rows
end Go.Proofs.YtmmehhibkpfghaaGreat
