/- The plan for the law ThinDeep. -/
import Derived.Test.YtkmogkobedmnkaaGreatThinDeepPlan1
import Derived.KernelRfl
namespace Go.Proofs.YtkmogkobedmnkaaGreat.thinDeep
open Go Go.Ev
noncomputable section

def shape : List (Bool × List CS) := [(false, [.int .u8]), (false, [.slice [(.int .u8)] 5])]
def h0 : SB × Bool := ((.lss (.var 3) (.var 2)), false)
def h1 : SB × Bool := ((.lss (.mul (.var 4) (.lit 2)) (.var 5)), false)
def h2 : SB × Bool := ((.lss (.add (.mul (.var 0) (.lit (-1))) (.lit 1400)) (.var 1)), false)
def h3 : SB × Bool := ((.eql (.var 3) (.add (.mul (.var 0) (.lit (-1))) (.lit 255))), true)
def h4 : SB × Bool := ((.lss (.var 0) (.var 4)), false)
def h5 : SB × Bool := ((.lss (.lit 0) (.var 0)), true)
def h6 : SB × Bool := ((.lss (.var 4) (.var 0)), true)
def h7 : SB × Bool := ((.eql (.add (.var 0) (.lit (-1))) (.lit 0)), false)
def h8 : SB × Bool := ((.eql (.var 0) (.lit 255)), false)
def h9 : SB × Bool := ((.lss (.var 4) (.var 0)), false)
def h10 : SB × Bool := ((.lss (.lit 0) (.var 2)), true)

def cuts : List ACut := [⟨u0, g0, ⟨16, none, 0, none, 0, none⟩⟩, ⟨u1, g0, ⟨15, none, 0, none, 0, none⟩⟩, ⟨u2, g0, ⟨14, none, 0, none, 0, none⟩⟩, ⟨u3, g0, ⟨13, none, 0, none, 0, none⟩⟩, ⟨u4, g0, ⟨12, none, 0, none, 0, none⟩⟩, ⟨u5, g0, ⟨11, none, 0, none, 0, none⟩⟩, ⟨u6, g0, ⟨10, none, 0, none, 0, none⟩⟩, ⟨u7, g0, ⟨9, none, 0, none, 0, none⟩⟩, ⟨u8, g0, ⟨8, none, 0, none, 0, none⟩⟩, ⟨u9, g9, ⟨7, none, 0, none, 0, none⟩⟩, ⟨u10, g10, ⟨2, none, 0, none, 0, none⟩⟩, ⟨u11, g9, ⟨6, none, 0, none, 0, none⟩⟩, ⟨u12, g10, ⟨1, none, 0, none, 0, none⟩⟩, ⟨u13, g13, m13⟩, ⟨u14, g14, ⟨2, none, 0, none, 0, none⟩⟩, ⟨u15, g15, m15⟩, ⟨u16, g16, ⟨4, none, 0, none, 0, none⟩⟩, ⟨u17, g17, m17⟩, ⟨u18, g18, m18⟩, ⟨u19, g19, ⟨1, none, 0, none, 0, none⟩⟩]
def top : Nat := 17

end
end Go.Proofs.YtkmogkobedmnkaaGreat.thinDeep
