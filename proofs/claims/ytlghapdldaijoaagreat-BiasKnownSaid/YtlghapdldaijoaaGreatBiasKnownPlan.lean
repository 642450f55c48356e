/- The plan for the law BiasKnown. -/
import Derived.Test.YtlghapdldaijoaaGreatBiasKnownPlan1
import Derived.KernelRfl
namespace Go.Proofs.YtlghapdldaijoaaGreat.biasKnown
open Go Go.Ev
noncomputable section

def shape : List (Bool × List CS) := []
def h0 : SB × Bool := ((.lss (.var 0) (.lit 255)), false)

def cuts : List ACut := [⟨u0, g0, ⟨12, none, 0, none, 0, none⟩⟩, ⟨u1, g1, m1⟩, ⟨u2, g2, m2⟩, ⟨u3, g3, ⟨10, none, 0, none, 0, none⟩⟩, ⟨u4, g3, ⟨9, none, 0, none, 0, none⟩⟩, ⟨u5, g3, ⟨8, none, 0, none, 0, none⟩⟩, ⟨u6, g6, ⟨7, none, 0, none, 0, none⟩⟩, ⟨u7, g6, ⟨6, none, 0, none, 0, none⟩⟩, ⟨u8, g6, ⟨5, none, 0, none, 0, none⟩⟩, ⟨u9, g6, ⟨4, none, 0, none, 0, none⟩⟩, ⟨u10, g6, ⟨3, none, 0, none, 0, none⟩⟩, ⟨u11, g6, ⟨2, none, 0, none, 0, none⟩⟩, ⟨u12, g6, ⟨1, none, 0, none, 0, none⟩⟩]
def top : Nat := 13

end
end Go.Proofs.YtlghapdldaijoaaGreat.biasKnown
