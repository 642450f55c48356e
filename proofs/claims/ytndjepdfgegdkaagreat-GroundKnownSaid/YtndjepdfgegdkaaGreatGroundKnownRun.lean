/- The kernel run of the law GroundKnown. -/
import Derived.Test.YtndjepdfgegdkaaGreatChecked
import Derived.Test.YtndjepdfgegdkaaGreatEvZ
import Derived.KernelRfl
namespace Go.Proofs.YtndjepdfgegdkaaGreat.groundKnown

theorem run : Go.Ev.runArgs Tryz.prog 3 [] 60000 = true := by kernel_rfl

end Go.Proofs.YtndjepdfgegdkaaGreat.groundKnown
