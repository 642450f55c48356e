/- Blocks and frames that come often (definitions alone) for the law QueueRefused. -/
import Derived.Test.YtfimgfodoogibaaChecked
import Derived.Test.YtfimgfodoogibaaEv7
namespace Go.Proofs.Ytfimgfodoogibaa.queueRefused
open Go Go.Ev
noncomputable section

def b0 : AB := .cells [(I 8), (I 1), (I 2)] 26
def b1 : AB := .cells [(.int .i64 (.var 2)), (.int .i64 (.var 3)), (.int .i64 (.var 4))] 26
def b2 : AB := .cells [(.ptr 6 (.lit 0)), (I 53), (.func (.func 18) [(.agg [(I 8), (I 1), (I 2)])] []), (I 8)] 83

end
end Go.Proofs.Ytfimgfodoogibaa.queueRefused
