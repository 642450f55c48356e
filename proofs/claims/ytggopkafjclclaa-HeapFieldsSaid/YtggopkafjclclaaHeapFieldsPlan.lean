/- The plan for the law HeapFields. -/
import Derived.Test.YtggopkafjclclaaHeapFieldsPlan1
import Derived.KernelRfl
namespace Go.Proofs.Ytggopkafjclclaa.heapFields
open Go Go.Ev
noncomputable section

def shape : List (Bool × List CS) := [(true, [.int .u8, .int .u8, .int .u8, .int .u8]), (true, [.int .i64, .int .i64])]
def h0 : SB × Bool := ((.eql (.rem (.var 6) (.lit 20)) (.lit 0)), true)
def h1 : SB × Bool := ((.eql (.rem (.var 0) (.lit 20)) (.rem (.var 6) (.lit 20))), false)
def h2 : SB × Bool := ((.eql (.rem (.var 0) (.lit 20)) (.rem (.var 6) (.lit 20))), true)
def h3 : SB × Bool := ((.eql (.rem (.var 9) (.lit 8)) (.lit 0)), false)
def h4 : SB × Bool := ((.eql (.rem (.var 3) (.lit 8)) (.rem (.var 9) (.lit 8))), false)
def h5 : SB × Bool := ((.lss (.add (.mul (.var 1) (.lit 8)) (.var 2)) (.var 0)), false)
def h6 : SB × Bool := ((.lss (.mul (.var 1) (.lit 8)) (.var 0)), false)
def h7 : SB × Bool := ((.eql (.rem (.var 6) (.lit 20)) (.lit 0)), false)
def h8 : SB × Bool := ((.eql (.rem (.var 0) (.lit 20)) (.lit 0)), true)
def h9 : SB × Bool := ((.eql (.rem (.var 9) (.lit 8)) (.lit 0)), true)
def h10 : SB × Bool := ((.eql (.rem (.var 3) (.lit 8)) (.lit 0)), true)
def h11 : SB × Bool := ((.eql (.rem (.var 3) (.lit 8)) (.rem (.var 9) (.lit 8))), true)
def h12 : SB × Bool := ((.eql (.add (.add (.mul (.var 1) (.lit 8)) (.var 2)) (.lit 1)) (.var 5)), false)
def h13 : SB × Bool := ((.eql (.add (.mul (.var 1) (.lit 8)) (.lit 1)) (.var 4)), false)
def h14 : SB × Bool := ((.lss (.var 1) (.lit 20)), true)
def h15 : SB × Bool := ((.lss (.var 2) (.lit 8)), true)
def h16 : SB × Bool := ((.eql (.rem (.var 3) (.lit 8)) (.lit 0)), false)

def cuts : List ACut := [⟨u0, g0, m0⟩, ⟨u1, g1, m1⟩]
def top : Nat := 2

def φ : Phi := fun k i _ _ => match k with
  | 0 => i 0 ≤ 2 ∧ (i 1 * 8 + i 2 < i 3 → i 0 ≤ 1) ∧ (i 1 * 8 + i 2 < i 5 → i 0 ≤ 1) ∧ (i 1 * 8 + i 2 < i 3 ∧ i 1 * 8 + i 2 < i 5 → i 0 ≤ 0)
  | 1 => i 0 ≤ 2 ∧ (i 1 * 8 < i 2 → i 0 ≤ 1) ∧ (i 1 * 8 < i 4 → i 0 ≤ 1) ∧ (i 1 * 8 < i 2 ∧ i 1 * 8 < i 4 → i 0 ≤ 0)
  | _ => True
theorem away (j : Nat) (h : ([0, 1] : List Nat).any (Nat.beq j) = false) : ∀ i b r, φ j i b r := by
  intro i b r
  unfold φ
  split <;> first | trivial | exact absurd h (by decide)

end
end Go.Proofs.Ytggopkafjclclaa.heapFields
