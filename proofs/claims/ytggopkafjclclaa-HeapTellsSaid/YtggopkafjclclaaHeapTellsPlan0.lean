/- Blocks and frames that come often (definitions alone) for the law HeapTells. -/
import Derived.Test.YtggopkafjclclaaChecked
import Derived.Test.YtggopkafjclclaaEv7
namespace Go.Proofs.Ytggopkafjclclaa.heapTells
open Go Go.Ev
noncomputable section

def b0 : AB := .cells [(.ptr 3 (.lit 0)), (.int .i64 (.var 3))] 59
def b1 : AB := .cells [(.iface 87 (.slice 5 (.lit 0) (.add (.mul (.var 3) (.lit 8)) (.lit 1)) (.add (.mul (.var 3) (.lit 8)) (.lit 1)))), (.int .i64 (.var 4))] 80
def b2 : AB := .row .own (.rmap .i64 (.row 2) 1) (.mul (.var 3) (.lit 8)) [(.int .i64)] 2

end
end Go.Proofs.Ytggopkafjclclaa.heapTells
