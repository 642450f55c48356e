/- Blocks and frames that come often (definitions alone) for the law LatchOne. -/
import Derived.Test.YtkiodlgicjlbaaaChecked
import Derived.Test.YtkiodlgicjlbaaaEv8
namespace Go.Proofs.Ytkiodlgicjlbaaa.latchOne
open Go Go.Ev
noncomputable section

def b0 : AB := .cells [(.iface 55 (.slice 6 (.lit 0) (.lit 1) (.lit 1))), (I 0)] 82
def b1 : AB := .cells [(U 0)] 35
def b2 : AB := .cells [.nilPtr, .nilPtr, .nilPtr] 32
def b3 : AB := .cells [.nilPtr, .nilPtr, .nilPtr, .nilPtr] 32
def b4 : AB := .cells [.nilPtr, .nilPtr, .nilPtr, .nilPtr, .nilPtr] 32
def b5 : AB := .cells [.nilPtr, .nilPtr, .nilPtr, .nilPtr, .nilPtr, .nilPtr] 32
def b6 : AB := .cells [(.ite (.lss (.lit 0) (.var 3)) (.slice 5 (.var 2) (.var 3) (.var 4)) (.ite (.var 0) .nilSlice (.empty false))), (I 1), (.int .i64 (.var 1))] 26
def b7 : AB := .cells [(.iface 55 (.slice 6 (.lit 0) (.lit 1) (.lit 1))), (.int .i64 (.var 5))] 82
def b8 : AB := .cells [(U 1)] 35
def b9 : AB := .cells [.nilPtr, (I 1), (.empty false)] 59
def b10 : AB := .cells [(.ptr 1 (.lit 0))] 27
def b11 : AB := .cells [(I 0)] 3
def b12 : AB := .cells [(.ite (.lss (.lit 0) (.var 3)) (.slice 5 (.var 2) (.var 3) (.var 4)) (.ite (.var 0) .nilSlice (.empty false))), (I 2), (.int .i64 (.var 1))] 26
def b13 : AB := .row .own (.row 0) (.lit 2) [(.int .i64)] 3
def b14 : AB := .cells [(U 2)] 35
def b15 : AB := .cells [(.func (.func 65) [] [(.ptr 18 (.lit 0)), (.ptr 19 (.lit 0)), (.ptr 20 (.lit 0)), (.ptr 21 (.lit 0))]), .nilPtr, (I 0), (T false)] 71
def b16 : AB := .cells [(.ite (.lss (.lit 0) (.var 3)) (.slice 5 (.var 2) (.var 3) (.var 4)) (.ite (.var 0) .nilSlice (.empty false))), (I 3), (.int .i64 (.var 1))] 26
def b17 : AB := .row .own (.row 0) (.lit 3) [(.int .i64)] 3
def b18 : AB := .cells [(.ptr 15 (.lit 0)), (I 0), .nilSlice] 59
def b19 : AB := .cells [(.func (.func 65) [] [(.ptr 26 (.lit 0)), (.ptr 27 (.lit 0)), (.ptr 28 (.lit 0)), (.ptr 29 (.lit 0))]), .nilPtr, (I 0), (T false)] 71
def b20 : AB := .cells [(U 3)] 35
def b21 : AB := .cells [(.ite (.lss (.lit 0) (.var 3)) (.slice 5 (.var 2) (.var 3) (.var 4)) (.ite (.var 0) .nilSlice (.empty false))), (I 4), (.int .i64 (.var 1))] 26
def b22 : AB := .row .own (.row 0) (.lit 4) [(.int .i64)] 3
def b23 : AB := .cells [(.ptr 18 (.lit 0)), (I 0), .nilSlice] 59
def b24 : AB := .cells [(.func (.func 65) [] [(.ptr 34 (.lit 0)), (.ptr 35 (.lit 0)), (.ptr 36 (.lit 0)), (.ptr 37 (.lit 0))]), .nilPtr, (I 0), (T false)] 71
def b25 : AB := .cells [(.ite (.lss (.lit 0) (.var 3)) (.slice 5 (.var 2) (.var 3) (.var 4)) (.ite (.var 0) .nilSlice (.empty false))), (I 5), (.int .i64 (.var 1))] 26
def b26 : AB := .row .own (.row 0) (.lit 5) [(.int .i64)] 3
def b27 : AB := .cells [(.ptr 21 (.lit 0)), (I 0), .nilSlice] 59
def b28 : AB := .cells [(.func (.func 65) [] [(.ptr 42 (.lit 0)), (.ptr 43 (.lit 0)), (.ptr 44 (.lit 0)), (.ptr 45 (.lit 0))]), .nilPtr, (I 0), (T false)] 71
def b29 : AB := .cells [(.ite (.lss (.lit 0) (.var 3)) (.slice 5 (.var 2) (.var 3) (.var 4)) (.ite (.var 0) .nilSlice (.empty false))), (I 6), (.int .i64 (.var 1))] 26
def b30 : AB := .row .own (.row 0) (.lit 6) [(.int .i64)] 3
def b31 : AB := .cells [(.ptr 24 (.lit 0)), (I 0), .nilSlice] 59
def b32 : AB := .cells [(.func (.func 65) [] [(.ptr 50 (.lit 0)), (.ptr 51 (.lit 0)), (.ptr 52 (.lit 0)), (.ptr 53 (.lit 0))]), .nilPtr, (I 0), (T false)] 71

end
end Go.Proofs.Ytkiodlgicjlbaaa.latchOne
