/- Blocks and frames that come often (definitions alone) for the law HeapFields. -/
import Derived.Test.YtggopkafjclclaaChecked
import Derived.Test.YtggopkafjclclaaEv8
namespace Go.Proofs.Ytggopkafjclclaa.heapFields
open Go Go.Ev
noncomputable section

def b0 : AB := .cells [(.iface 87 (.slice 2 (.lit 0) (.lit 161) (.lit 161))), (I 4)] 80

end
end Go.Proofs.Ytggopkafjclclaa.heapFields
