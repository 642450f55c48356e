/- The plan for the law QueueRefused. -/
import Derived.Test.YtfimgfodoogibaaQueueRefusedPlan1
import Derived.KernelRfl
namespace Go.Proofs.Ytfimgfodoogibaa.queueRefused
open Go Go.Ev
noncomputable section

def shape : List (Bool × List CS) := [(true, [.int .i64, .int .i64, .int .i64]), (false, [.int .i64]), (false, [.int .i64])]
def h0 : SB × Bool := ((.lss (.lit 67) (.wrap .i64 (.add (.wrap .i64 (.add (.wrap .i64 (.add (.var 3) (.lit 2))) (.wrap .i64 (.mul (.var 2) (.lit 6))))) (.wrap .i64 (.mul (.var 4) (.lit 8)))))), false)
def h1 : SB × Bool := ((.lss (.lit 67) (.wrap .i64 (.add (.wrap .i64 (.add (.wrap .i64 (.add (.var 3) (.lit 2))) (.wrap .i64 (.mul (.var 2) (.lit 6))))) (.wrap .i64 (.mul (.var 4) (.lit 8)))))), true)
def h2 : SB × Bool := ((.lss (.lit 32766) (.var 2)), false)
def h3 : SB × Bool := ((.lss (.var 2) (.lit 1)), false)
def h4 : SB × Bool := ((.lss (.var 3) (.lit 1)), false)
def h5 : SB × Bool := ((.lss (.lit 65536) (.var 3)), false)
def h6 : SB × Bool := ((.lss (.var 0) (.lit 0)), false)
def h7 : SB × Bool := ((.lss (.var 4) (.lit 0)), false)
def h8 : SB × Bool := ((.lss (.lit 4096) (.var 4)), false)
def h9 : SB × Bool := ((.lss (.lit 9223372036854775806) (.var 0)), false)
def h10 : SB × Bool := ((.lss (.add (.var 0) (.lit 1)) (.lit 67)), true)
def h11 : SB × Bool := ((.lss (.lit 9223372036854775806) (.var 0)), true)
def h12 : SB × Bool := ((.lss (.var 1) (.lit 0)), false)

def cuts : List ACut := [⟨u0, g0, ⟨3, none, 0, none, 0, none⟩⟩, ⟨u1, g0, ⟨2, none, 0, none, 0, none⟩⟩, ⟨u2, g0, ⟨1, none, 0, none, 0, none⟩⟩]
def top : Nat := 4

end
end Go.Proofs.Ytfimgfodoogibaa.queueRefused
