/- Blocks and frames that come often (definitions alone) for the law HeapShares. -/
import Derived.Test.YtggopkafjclclaaChecked
import Derived.Test.YtggopkafjclclaaEv7
namespace Go.Proofs.Ytggopkafjclclaa.heapShares
open Go Go.Ev
noncomputable section

def b0 : AB := .cells [(.ptr 5 (.lit 0)), (.int .i64 (.var 0))] 59
def b1 : AB := .row .own (.app (.con 1) (.var 8) (.con 0) (.lit 0)) (.var 0) [(.int .i64)] 3
def b2 : AB := .row .own (.upd (.row 2) (.lit 0) (.var 8)) (.var 6) [(.int .u64)] 63
def b3 : AB := .cells [(.ite (.var 2) (.ptr 6 (.lit 0)) .nilPtr), (.ite (.var 3) (.ptr 7 (.lit 0)) .nilPtr)] 32
def b4 : AB := .cells [(.ite (.var 2) (.ptr 6 (.lit 0)) .nilPtr), (.ite (.var 3) (.ptr 7 (.lit 0)) .nilPtr), (.ite (.var 4) (.ptr 8 (.lit 0)) .nilPtr)] 32
def b5 : AB := .cells [(.ite (.var 2) (.ptr 6 (.lit 0)) .nilPtr), (.ite (.var 3) (.ptr 7 (.lit 0)) .nilPtr), (.ite (.var 4) (.ptr 8 (.lit 0)) .nilPtr), (.ite (.var 5) (.ptr 9 (.lit 0)) .nilPtr)] 32
def b6 : AB := .cells [(.ite (.var 2) (.ptr 6 (.lit 0)) .nilPtr), (.ite (.var 3) (.ptr 7 (.lit 0)) .nilPtr), (.ite (.var 4) (.ptr 8 (.lit 0)) .nilPtr), (.ite (.var 5) (.ptr 9 (.lit 0)) .nilPtr), (.ite (.var 6) (.ptr 10 (.lit 0)) .nilPtr)] 32
def b7 : AB := .cells [(.ite (.var 2) (.ptr 6 (.lit 0)) .nilPtr), (.ite (.var 3) (.ptr 7 (.lit 0)) .nilPtr), (.ite (.var 4) (.ptr 8 (.lit 0)) .nilPtr), (.ite (.var 5) (.ptr 9 (.lit 0)) .nilPtr), (.ite (.var 6) (.ptr 10 (.lit 0)) .nilPtr), (.ite (.var 7) (.ptr 11 (.lit 0)) .nilPtr)] 32
def b8 : AB := .row .own (.app (.con 1) (.var 10) (.con 0) (.lit 0)) (.var 0) [(.int .i64)] 3
def b9 : AB := .row .own (.upd (.row 2) (.lit 0) (.var 9)) (.var 7) [(.int .u64)] 63
def b10 : AB := .cells [(.iface 87 (.slice 3 (.lit 0) (.var 3) (.var 3))), (.int .i64 (.var 4))] 80
def b11 : AB := .row .own (.upd (.row 1) (.lit 0) (.var 5)) (.var 3) [(.int .u64)] 63

end
end Go.Proofs.Ytggopkafjclclaa.heapShares
