/- The kernel run of the law QueueKnown. -/
import Derived.Test.YtfimgfodoogibaaChecked
import Derived.Test.YtfimgfodoogibaaEvZ
import Derived.KernelRfl
namespace Go.Proofs.Ytfimgfodoogibaa.queueKnown

theorem run : Go.Ev.runArgs Try.prog 4 [] 100000 = true := by kernel_rfl

end Go.Proofs.Ytfimgfodoogibaa.queueKnown
