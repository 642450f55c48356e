/- The plan for the law CellsTell. -/
import Derived.Test.YtgfedkfokjobpaaCellsTellPlan1
import Derived.KernelRfl
namespace Go.Proofs.Ytgfedkfokjobpaa.cellsTell
open Go Go.Ev
noncomputable section

def shape : List (Bool × List CS) := [(false, [.int .u8]), (false, [.slice [(.int .u8), (.int .i8), (.int .u64), (.int .u64)] 35])]
def h0 : SB × Bool := ((.eql (.rem (.sel .u8 (.row 1) (.lit 0)) (.lit 4)) (.lit 0)), false)
def h1 : SB × Bool := ((.eql (.rem (.sel .u8 (.row 1) (.lit 0)) (.lit 4)) (.lit 1)), false)
def h2 : SB × Bool := ((.lss (.var 5) (.var 4)), false)
def h3 : SB × Bool := ((.lss (.lit 0) (.var 4)), true)
def h4 : SB × Bool := ((.lss (.sel .i8 (.row 1) (.lit 1)) (.lit 0)), false)
def h5 : SB × Bool := ((.lss (.sel .i8 (.row 1) (.lit 1)) (.rem (.var 0) (.lit 101))), false)
def h6 : SB × Bool := ((.lss (.sel .i8 (.row 1) (.lit 1)) (.rem (.var 0) (.lit 101))), true)
def h7 : SB × Bool := ((.eql (.rem (.sel .u8 (.row 0) (.mul (.var 3) (.lit 4))) (.lit 4)) (.lit 0)), false)
def h8 : SB × Bool := ((.eql (.rem (.sel .u8 (.row 1) (.lit 0)) (.lit 4)) (.lit 2)), true)
def h9 : SB × Bool := ((.lss (.sel .i8 (.row 0) (.add (.mul (.var 3) (.lit 4)) (.lit 1))) (.lit 0)), false)
def h10 : SB × Bool := ((.lss (.sel .i8 (.row 1) (.lit 1)) (.lit 0)), true)
def h11 : SB × Bool := ((.eql (.rem (.sel .u8 (.row 1) (.lit 0)) (.lit 4)) (.lit 2)), false)
def h12 : SB × Bool := ((.lss (.lit 0) (.rem (.var 0) (.lit 101))), false)
def h13 : SB × Bool := ((.eql (.rem (.sel .u8 (.row 1) (.lit 0)) (.lit 4)) (.lit 1)), true)
def h14 : SB × Bool := ((.lss (.lit 0) (.rem (.var 0) (.lit 101))), true)
def h15 : SB × Bool := ((.var 2), true)
def h16 : SB × Bool := ((.eql (.rem (.sel .u8 (.row 0) (.mul (.var 3) (.lit 4))) (.lit 4)) (.lit 1)), false)
def h17 : SB × Bool := ((.eql (.rem (.sel .u8 (.row 1) (.lit 0)) (.lit 4)) (.lit 0)), true)
def h18 : SB × Bool := ((.lss (.var 3) (.var 1)), true)
def h19 : SB × Bool := ((.lss (.var 3) (.lit 80)), true)
def h20 : SB × Bool := ((.lss (.sel .i8 (.row 0) (.add (.mul (.var 3) (.lit 4)) (.lit 1))) (.var 4)), false)
def h21 : SB × Bool := ((.lss (.sel .i8 (.row 0) (.add (.mul (.var 3) (.lit 4)) (.lit 1))) (.lit 0)), true)
def h22 : SB × Bool := ((.lss (.sel .i8 (.row 0) (.add (.mul (.var 3) (.lit 4)) (.lit 1))) (.var 4)), true)
def h23 : SB × Bool := ((.eql (.rem (.sel .u8 (.row 0) (.mul (.var 3) (.lit 4))) (.lit 4)) (.lit 2)), true)
def h24 : SB × Bool := ((.eql (.rem (.sel .u8 (.row 0) (.mul (.var 3) (.lit 4))) (.lit 4)) (.lit 2)), false)
def h25 : SB × Bool := ((.eql (.rem (.sel .u8 (.row 0) (.mul (.var 3) (.lit 4))) (.lit 4)) (.lit 1)), true)
def h26 : SB × Bool := ((.eql (.lit 0) (.sel .i8 (.row 1) (.lit 1))), false)
def h27 : SB × Bool := ((.eql (.lit 0) (.sel .i8 (.row 1) (.lit 1))), true)
def h28 : SB × Bool := ((.eql (.rem (.sel .u8 (.row 0) (.mul (.var 3) (.lit 4))) (.lit 4)) (.lit 0)), true)
def h29 : SB × Bool := ((.var 0), true)
def h30 : SB × Bool := ((.lss (.lit 0) (.var 4)), false)
def h31 : SB × Bool := ((.eql (.lit 0) (.sel .u64 (.row 1) (.lit 2))), true)
def h32 : SB × Bool := ((.eql (.lit 0) (.sel .i8 (.row 0) (.add (.mul (.var 3) (.lit 4)) (.lit 1)))), false)
def h33 : SB × Bool := ((.eql (.lit 0) (.sel .i8 (.row 0) (.add (.mul (.var 3) (.lit 4)) (.lit 1)))), true)
def h34 : SB × Bool := ((.eql (.lit 0) (.sel .u64 (.row 1) (.lit 2))), false)
def h35 : SB × Bool := ((.lss (.var 1) (.var 0)), false)

def cuts : List ACut := [{ u := u0, g := g0, ms := m0 }, { u := u1, g := g1, ms := m1 }, { u := u2, g := g2, ms := m2 }]
def top : Nat := 2

end
end Go.Proofs.Ytgfedkfokjobpaa.cellsTell
