/- The kernel run of the law SafeKnown. -/
import Derived.Test.YtmmehhibkpfghaaGreatChecked
import Derived.Test.YtmmehhibkpfghaaGreatEvZ
import Derived.KernelRfl
namespace Go.Proofs.YtmmehhibkpfghaaGreat.safeKnown

theorem run : Go.Ev.runArgs Tryz.prog 5 [] 80000 = true := by kernel_rfl

end Go.Proofs.YtmmehhibkpfghaaGreat.safeKnown
