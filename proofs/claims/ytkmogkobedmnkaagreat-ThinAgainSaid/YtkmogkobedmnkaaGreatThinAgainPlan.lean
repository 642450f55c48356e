/- The plan for the law ThinAgain. -/
import Derived.Test.YtkmogkobedmnkaaGreatThinAgainPlan1
import Derived.KernelRfl
namespace Go.Proofs.YtkmogkobedmnkaaGreat.thinAgain
open Go Go.Ev
noncomputable section

def shape : List (Bool × List CS) := [(false, [.int .u8])]
def h0 : SB × Bool := ((.lss (.rem (.var 0) (.lit 40)) (.var 1)), false)
def h1 : SB × Bool := ((.lss (.lit 0) (.rem (.var 0) (.lit 40))), true)

def cuts : List ACut := [⟨u0, g0, ⟨13, none, 0, none, 0, none⟩⟩, ⟨u1, g0, ⟨12, none, 0, none, 0, none⟩⟩, ⟨u2, g0, ⟨11, none, 0, none, 0, none⟩⟩, ⟨u3, g0, ⟨10, none, 0, none, 0, none⟩⟩, ⟨u4, g0, ⟨9, none, 0, none, 0, none⟩⟩, ⟨u5, g0, ⟨8, none, 0, none, 0, none⟩⟩, ⟨u6, g0, ⟨7, none, 0, none, 0, none⟩⟩, ⟨u7, g0, ⟨6, none, 0, none, 0, none⟩⟩, ⟨u8, g0, ⟨5, none, 0, none, 0, none⟩⟩, ⟨u9, g9, ⟨4, none, 0, none, 0, none⟩⟩, ⟨u10, g10, ⟨2, none, 0, none, 0, none⟩⟩, ⟨u11, g9, ⟨3, none, 0, none, 0, none⟩⟩, ⟨u12, g12, ⟨1, none, 0, none, 0, none⟩⟩, ⟨u13, g9, ⟨2, none, 0, none, 0, none⟩⟩, ⟨u14, g14, m14⟩, ⟨u15, g15, m15⟩]
def top : Nat := 14

end
end Go.Proofs.YtkmogkobedmnkaaGreat.thinAgain
