/- The plan for the law HeapTells. -/
import Derived.Test.YtggopkafjclclaaHeapTellsPlan1
import Derived.KernelRfl
namespace Go.Proofs.Ytggopkafjclclaa.heapTells
open Go Go.Ev
noncomputable section

def shape : List (Bool × List CS) := [(false, [.int .u8]), (false, [.slice [(.int .u8), (.int .i8), (.int .i8), (.int .i64)] 43])]
def h0 : SB × Bool := ((.eql (.rem (.sel .u8 (.row 0) (.mul (.var 5) (.lit 4))) (.lit 3)) (.lit 0)), false)
def h1 : SB × Bool := ((.iff (.eql (.var 6) (.var 3)) (.lss (.var 7) (.var 3))), false)
def h2 : SB × Bool := ((.iff (.eql (.var 6) (.var 7)) (.lss (.var 3) (.var 7))), false)
def h3 : SB × Bool := ((.lss (.sel .i8 (.row 0) (.add (.mul (.var 5) (.lit 4)) (.lit 1))) (.lit 0)), false)
def h4 : SB × Bool := ((.lss (.sel .i8 (.row 0) (.add (.mul (.var 5) (.lit 4)) (.lit 1))) (.var 3)), true)
def h5 : SB × Bool := ((.eql (.rem (.sel .u8 (.row 0) (.mul (.var 5) (.lit 4))) (.lit 3)) (.lit 1)), false)
def h6 : SB × Bool := ((.lss (.var 3) (.var 6)), false)
def h7 : SB × Bool := ((.lss (.var 7) (.var 6)), false)
def h8 : SB × Bool := ((.lss (.var 5) (.var 7)), false)
def h9 : SB × Bool := ((.lss (.sel .i8 (.row 0) (.add (.mul (.var 5) (.lit 4)) (.lit 2))) (.lit 0)), false)
def h10 : SB × Bool := ((.eql (.rem (.sel .u8 (.row 0) (.mul (.var 5) (.lit 4))) (.lit 3)) (.lit 1)), true)
def h11 : SB × Bool := ((.lss (.var 5) (.lit 60)), true)
def h12 : SB × Bool := ((.lss (.var 5) (.var 1)), true)
def h13 : SB × Bool := ((.eql (.rem (.sel .u8 (.row 1) (.lit 0)) (.lit 3)) (.lit 0)), false)
def h14 : SB × Bool := ((.lss (.sel .i8 (.row 0) (.add (.mul (.var 5) (.lit 4)) (.lit 2))) (.lit 8)), true)
def h15 : SB × Bool := ((.lss (.var 7) (.var 3)), false)
def h16 : SB × Bool := ((.var 0), true)
def h17 : SB × Bool := ((.lss (.sel .i8 (.row 1) (.lit 1)) (.add (.rem (.var 0) (.lit 20)) (.lit 1))), true)
def h18 : SB × Bool := ((.lss (.var 5) (.var 4)), false)
def h19 : SB × Bool := ((.lss (.sel .i8 (.row 0) (.add (.mul (.var 5) (.lit 4)) (.lit 2))) (.lit 8)), false)
def h20 : SB × Bool := ((.lss (.sel .i8 (.row 0) (.add (.mul (.var 5) (.lit 4)) (.lit 1))) (.var 3)), false)
def h21 : SB × Bool := ((.eql (.lit 0) (.add (.mul (.sel .i8 (.row 0) (.add (.mul (.var 5) (.lit 4)) (.lit 1))) (.lit 8)) (.sel .i8 (.row 0) (.add (.mul (.var 5) (.lit 4)) (.lit 2))))), false)
def h22 : SB × Bool := ((.lss (.sel .i8 (.row 0) (.add (.mul (.var 5) (.lit 4)) (.lit 1))) (.lit 0)), true)
def h23 : SB × Bool := ((.lss (.sel .i8 (.row 0) (.add (.mul (.var 5) (.lit 4)) (.lit 2))) (.lit 0)), true)
def h24 : SB × Bool := ((.eql (.lit 0) (.add (.mul (.sel .i8 (.row 0) (.add (.mul (.var 5) (.lit 4)) (.lit 1))) (.lit 8)) (.sel .i8 (.row 0) (.add (.mul (.var 5) (.lit 4)) (.lit 2))))), true)
def h25 : SB × Bool := ((.lss (.sel .i8 (.row 1) (.lit 1)) (.lit 0)), false)
def h26 : SB × Bool := ((.lss (.lit 0) (.var 4)), true)
def h27 : SB × Bool := ((.eql (.rem (.sel .u8 (.row 1) (.lit 0)) (.lit 3)) (.lit 1)), false)
def h28 : SB × Bool := ((.iff (.eql (.var 8) (.var 3)) (.lss (.var 9) (.var 3))), false)
def h29 : SB × Bool := ((.iff (.eql (.var 8) (.var 9)) (.lss (.var 3) (.var 9))), false)
def h30 : SB × Bool := ((.iff (.eql (.var 7) (.var 3)) (.lss (.var 8) (.var 3))), false)
def h31 : SB × Bool := ((.iff (.eql (.var 7) (.var 8)) (.lss (.var 3) (.var 8))), false)
def h32 : SB × Bool := ((.eql (.var 6) (.var 7)), false)
def h33 : SB × Bool := ((.lss (.var 7) (.var 3)), true)
def h34 : SB × Bool := ((.eql (.var 6) (.var 7)), true)
def h35 : SB × Bool := ((.eql (.rem (.sel .u8 (.row 1) (.lit 0)) (.lit 3)) (.lit 1)), true)
def h36 : SB × Bool := ((.lss (.add (.var 3) (.lit (-1))) (.var 6)), false)
def h37 : SB × Bool := ((.lss (.add (.var 5) (.lit 1)) (.var 9)), false)
def h38 : SB × Bool := ((.lss (.add (.var 5) (.lit 1)) (.var 8)), false)
def h39 : SB × Bool := ((.lss (.sel .i8 (.row 1) (.lit 2)) (.lit 0)), false)
def h40 : SB × Bool := ((.eql (.rem (.sel .u8 (.row 0) (.mul (.var 5) (.lit 4))) (.lit 3)) (.lit 0)), true)
def h41 : SB × Bool := ((.var 2), true)
def h42 : SB × Bool := ((.lss (.var 3) (.var 8)), false)
def h43 : SB × Bool := ((.lss (.var 9) (.var 8)), false)
def h44 : SB × Bool := ((.lss (.var 3) (.var 7)), false)
def h45 : SB × Bool := ((.lss (.var 8) (.var 7)), false)
def h46 : SB × Bool := ((.lss (.sel .i8 (.row 1) (.lit 2)) (.lit 8)), true)
def h47 : SB × Bool := ((.eql (.var 8) (.var 3)), true)
def h48 : SB × Bool := ((.eql (.var 7) (.var 3)), true)

def cuts : List ACut := [{ u := u0, g := g0, ms := m0 }, { u := u1, g := g1, ms := m1 }, { u := u2, g := g2, ms := m2 }]
def top : Nat := 2

end
end Go.Proofs.Ytggopkafjclclaa.heapTells
