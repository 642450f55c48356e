/- The plan for the law GroundLogs. -/
import Derived.Test.YtndjepdfgegdkaaGroundLogsPlan1
import Derived.KernelRfl
namespace Go.Proofs.Ytndjepdfgegdkaa.groundLogs
open Go Go.Ev
noncomputable section

def shape : List (Bool × List CS) := [(false, [.slice [(.int .i64), (.int .i64), (.int .i64), (.int .i64), (.int .i64), (.int .i64), (.int .i64), (.int .i64)] 44])]
def h0 : SB × Bool := ((.eql (.sel .i64 (.row 1) (.mul (.var 3) (.lit 8))) (.rem (.sel .u64 (.row 0) (.mul (.var 3) (.lit 8))) (.lit 3))), true)
def h1 : SB × Bool := ((.eql (.sel .i64 (.row 1) (.add (.mul (.var 3) (.lit 8)) (.lit 1))) (.sel .i64 (.row 0) (.add (.mul (.var 3) (.lit 8)) (.lit 1)))), true)
def h2 : SB × Bool := ((.eql (.sel .i64 (.row 1) (.lit 0)) (.rem (.sel .u64 (.row 0) (.lit 0)) (.lit 3))), true)
def h3 : SB × Bool := ((.lss (.var 1) (.var 3)), false)
def h4 : SB × Bool := ((.lss (.var 4) (.var 1)), false)
def h5 : SB × Bool := ((.eql (.rem (.sel .u64 (.row 0) (.mul (.var 3) (.lit 8))) (.lit 3)) (.lit 0)), false)
def h6 : SB × Bool := ((.eql (.sel .i64 (.row 1) (.add (.mul (.var 3) (.lit 8)) (.lit 2))) (.sel .i64 (.row 0) (.add (.mul (.var 3) (.lit 8)) (.lit 2)))), true)
def h7 : SB × Bool := ((.eql (.sel .i64 (.row 1) (.lit 1)) (.sel .i64 (.row 0) (.lit 1))), true)
def h8 : SB × Bool := ((.eql (.rem (.sel .u64 (.row 0) (.lit 0)) (.lit 3)) (.lit 0)), false)
def h9 : SB × Bool := ((.eql (.sel .i64 (.row 1) (.add (.mul (.var 3) (.lit 8)) (.lit 3))) (.sel .i64 (.row 0) (.add (.mul (.var 3) (.lit 8)) (.lit 3)))), true)
def h10 : SB × Bool := ((.eql (.sel .i64 (.row 1) (.add (.mul (.var 3) (.lit 8)) (.lit 4))) (.sel .i64 (.row 0) (.add (.mul (.var 3) (.lit 8)) (.lit 4)))), true)
def h11 : SB × Bool := ((.lss (.var 3) (.var 1)), true)
def h12 : SB × Bool := ((.lss (.var 3) (.var 1)), false)
def h13 : SB × Bool := ((.eql (.var 3) (.lit 0)), false)
def h14 : SB × Bool := ((.eql (.sel .i64 (.row 1) (.lit 2)) (.sel .i64 (.row 0) (.lit 2))), true)
def h15 : SB × Bool := ((.eql (.rem (.sel .u64 (.row 0) (.mul (.var 3) (.lit 8))) (.lit 3)) (.lit 1)), false)
def h16 : SB × Bool := ((.eql (.rem (.sel .u64 (.row 0) (.mul (.var 3) (.lit 8))) (.lit 3)) (.lit 0)), true)
def h17 : SB × Bool := ((.eql (.rem (.sel .u64 (.row 0) (.mul (.var 3) (.lit 8))) (.lit 3)) (.lit 1)), true)
def h18 : SB × Bool := ((.eql (.sel .i64 (.row 1) (.add (.mul (.var 3) (.lit 8)) (.lit 5))) (.sel .i64 (.row 0) (.add (.mul (.var 3) (.lit 8)) (.lit 5)))), true)
def h19 : SB × Bool := ((.eql (.rem (.sel .u64 (.row 0) (.lit 0)) (.lit 3)) (.lit 1)), false)
def h20 : SB × Bool := ((.eql (.rem (.sel .u64 (.row 0) (.lit 0)) (.lit 3)) (.lit 0)), true)
def h21 : SB × Bool := ((.eql (.rem (.sel .u64 (.row 0) (.lit 0)) (.lit 3)) (.lit 1)), true)
def h22 : SB × Bool := ((.eql (.sel .i64 (.row 1) (.lit 3)) (.sel .i64 (.row 0) (.lit 3))), true)
def h23 : SB × Bool := ((.eql (.sel .i64 (.row 1) (.lit 4)) (.sel .i64 (.row 0) (.lit 4))), true)
def h24 : SB × Bool := ((.eql (.sel .i64 (.row 1) (.add (.mul (.var 3) (.lit 8)) (.lit 2))) (.lit 0)), true)
def h25 : SB × Bool := ((.eql (.sel .i64 (.row 1) (.lit 5)) (.sel .i64 (.row 0) (.lit 5))), true)
def h26 : SB × Bool := ((.eql (.sel .i64 (.row 1) (.add (.mul (.var 3) (.lit 8)) (.lit 3))) (.lit 0)), true)
def h27 : SB × Bool := ((.eql (.sel .i64 (.row 1) (.add (.mul (.var 3) (.lit 8)) (.lit 1))) (.sel .i64 (.row 0) (.add (.mul (.var 3) (.lit 8)) (.lit 1)))), false)
def h28 : SB × Bool := ((.eql (.sel .i64 (.row 1) (.mul (.var 3) (.lit 8))) (.rem (.sel .u64 (.row 0) (.mul (.var 3) (.lit 8))) (.lit 3))), false)
def h29 : SB × Bool := ((.lss (.var 2) (.var 1)), false)
def h30 : SB × Bool := ((.eql (.sel .i64 (.row 1) (.add (.mul (.var 3) (.lit 8)) (.lit 6))) (.lit 0)), true)
def h31 : SB × Bool := ((.eql (.sel .i64 (.row 1) (.add (.mul (.var 3) (.lit 8)) (.lit 4))) (.lit 0)), true)
def h32 : SB × Bool := ((.eql (.sel .i64 (.row 1) (.lit 2)) (.lit 0)), true)
def h33 : SB × Bool := ((.eql (.sel .i64 (.row 1) (.lit 0)) (.rem (.sel .u64 (.row 0) (.lit 0)) (.lit 3))), false)
def h34 : SB × Bool := ((.eql (.sel .i64 (.row 1) (.lit 3)) (.lit 0)), true)
def h35 : SB × Bool := ((.eql (.sel .i64 (.row 1) (.add (.mul (.var 3) (.lit 8)) (.lit 5))) (.lit 0)), true)
def h36 : SB × Bool := ((.eql (.sel .i64 (.row 1) (.lit 1)) (.sel .i64 (.row 0) (.lit 1))), false)
def h37 : SB × Bool := ((.eql (.sel .i64 (.row 1) (.lit 6)) (.lit 0)), true)
def h38 : SB × Bool := ((.eql (.sel .i64 (.row 1) (.lit 4)) (.lit 0)), true)
def h39 : SB × Bool := ((.lss (.lit 60) (.var 1)), false)
def h40 : SB × Bool := ((.eql (.sel .i64 (.row 1) (.lit 5)) (.lit 0)), true)
def h41 : SB × Bool := ((.eql (.var 2) (.lit 0)), false)
def h42 : SB × Bool := ((.var 0), true)

def cuts : List ACut := [⟨u0, g0, ⟨3, none, 0, none, 0, none⟩⟩, ⟨u1, g1, m1⟩, ⟨u2, g2, m2⟩, ⟨u3, g2, m3⟩]
def top : Nat := 4

def kd (L : Int → Int) (j : Int) : Int := (IntKind.u64.wrap (L (j * 8))).tmod 3
/-- a cell of the log, by what was noted -/
def evc (L : Int → Int) (j c : Int) : Int :=
  if c = 0 then kd L j else if c = 1 then IntKind.i64.wrap (L (j * 8 + c))
  else if kd L j = 0 then (if c ≤ 5 then IntKind.i64.wrap (L (j * 8 + c)) else 0)
  else if kd L j = 1 then (if 3 ≤ c ∧ c ≤ 5 then IntKind.i64.wrap (L (j * 8 + c)) else 0)
  else (if c = 2 ∨ 6 ≤ c then IntKind.i64.wrap (L (j * 8 + c)) else 0)
def φ : Phi := fun k i _ r => match k with
  | 1 => ∀ j c, 0 ≤ j → j < i 3 + 1 → 0 ≤ c → c < 8 → r 2 (j * 8 + c) = evc (r 0) j c
  | 2 => ∀ j c, 0 ≤ j → j < i 3 → 0 ≤ c → c < 8 → r 1 (j * 8 + c) = evc (r 0) j c
  | 3 => ∀ j c, 0 ≤ j → j < i 1 → 0 ≤ c → c < 8 → r 1 (j * 8 + c) = evc (r 0) j c
  | _ => True

theorem away (j : Nat) (h : ([1, 2, 3] : List Nat).any (Nat.beq j) = false) : ∀ i b r, φ j i b r := by
  intro i b r
  unfold φ
  split <;> first | trivial | exact absurd h (by decide)
theorem kd_mem (L : Int → Int) (j : Int) : 0 ≤ kd L j ∧ kd L j ≤ 2 := by
  unfold kd
  have h := wrap_bounds .u64 (L (j * 8))
  have h0 : 0 ≤ IntKind.u64.wrap (L (j * 8)) := by simpa [IntKind.min, IntKind.signed] using h.1
  rw [Int.tmod_eq_emod_of_nonneg h0]
  have := Int.emod_nonneg (IntKind.u64.wrap (L (j * 8))) (show (3 : Int) ≠ 0 by decide)
  have := Int.emod_lt_of_pos (IntKind.u64.wrap (L (j * 8))) (show (0 : Int) < 3 by decide)
  omega
theorem kd2 {L : Int → Int} {j : Int} (h0 : ¬ kd L j = 0) (h1 : ¬ kd L j = 1) : kd L j = 2 := by
  have := kd_mem L j; omega
theorem wrap_small (x : Int) (h : 0 ≤ x ∧ x ≤ 2) : IntKind.i64.wrap x = x := wrap_self _ _ (by simp [IntKind.min, IntKind.signed, IntKind.bits]; omega) (by simp [IntKind.max, IntKind.signed, IntKind.bits]; omega)
theorem evc_wrap (L : Int → Int) (j c : Int) : IntKind.i64.wrap (evc L j c) = evc L j c := by
  have h1 := wrap_small _ (kd_mem L j)
  have h2 : IntKind.i64.wrap (IntKind.i64.wrap (L (j * 8 + c))) = IntKind.i64.wrap (L (j * 8 + c)) := wrap_wrap (Nat.le_refl _) _
  have h3 := wrap_small 0 (by decide)
  unfold evc
  repeat' split
  all_goals first | exact h1 | exact h2 | exact h3

end
end Go.Proofs.Ytndjepdfgegdkaa.groundLogs
