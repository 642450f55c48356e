/- The kernel run of the law TaskSpins. -/
import Derived.Test.YtgbdokemijlgeaaChecked
import Derived.Test.YtgbdokemijlgeaaEvZ
import Derived.KernelRfl
namespace Go.Proofs.Ytgbdokemijlgeaa.taskSpins

theorem run : Go.Ev.runArgs Try.prog 3 [some .u64, some .u64, some .u8] 200000 = true := by kernel_rfl

end Go.Proofs.Ytgbdokemijlgeaa.taskSpins
