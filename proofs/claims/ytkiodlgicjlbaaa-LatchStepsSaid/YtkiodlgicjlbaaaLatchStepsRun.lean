/- The kernel run of the law LatchSteps. -/
import Derived.Test.YtkiodlgicjlbaaaChecked
import Derived.Test.YtkiodlgicjlbaaaEvZ
import Derived.KernelRfl
namespace Go.Proofs.Ytkiodlgicjlbaaa.latchSteps

theorem run : Go.Ev.runArgs Try.prog 5 [some .u16, some .u32, some .u8] 200000 = true := by kernel_rfl

end Go.Proofs.Ytkiodlgicjlbaaa.latchSteps
