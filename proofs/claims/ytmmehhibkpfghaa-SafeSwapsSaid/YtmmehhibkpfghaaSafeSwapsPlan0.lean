/- Blocks and frames that come often (definitions alone) for the law SafeSwaps. -/
import Derived.Test.YtmmehhibkpfghaaChecked
import Derived.Test.YtmmehhibkpfghaaEv7
namespace Go.Proofs.Ytmmehhibkpfghaa.safeSwaps
open Go Go.Ev
noncomputable section

def k0 : AFrame := (frLoop Try.prog 52 0 [(0, (.yieldF 0)), (1, (.ptr 1 (.lit 0))), (5, (I 51)), (6, (I 31))])
def k1 : AFrame := (frRange Try.prog 17 5 0 [(2, (.ptr 2 (.lit 0)))] [(.collected 3)])
def b2 : AB := loopBlk Try.prog 17 5 .ready [(0, (.ptr 6 (.lit 0))), (1, (.tuple [])), (2, (.ptr 2 (.lit 0))), (3, (.tuple [])), (4, (.ptr 6 (.lit 0))), (5, (.func (.func 52) [] [(.ptr 1 (.lit 0))])), (6, (.tuple [])), (7, (.tuple [])), (8, (.tuple [])), (9, (.tuple [])), (10, (.tuple [])), (11, (.tuple []))] 3
def b3 : AB := .cells [(.ptr 6 (.lit 0))] 33
def b4 : AB := .cells [(.slack 7 0 1 31)] 50
def b5 : AB := .deferred (some [])
def b6 : AB := .cells [(I 8), (I 1), (I 0), (.ptr 6 (.lit 0)), (.ptr 8 (.lit 0)), (.int .i32 (.lit 0)), (.int .u32 (.lit 0)), .nilSlice] 44
def b7 : AB := .cells [(.iface 109 (.slice 9 (.lit 0) (.lit 51) (.lit 51))), (I 12)] 73
def b8 : AB := .opn (Us [0,0,1,0,0,0,0,1,0,0,0,0,0,1,0,0,0,0,0,1,0,0,0,0,0,1,0,0,0,0,0]) 30 1
def b9 : AB := .cells [(.slice 10 (.lit 0) (.lit 8) (.lit 8))] 93
def b10 : AB := .cells (Us [0,0,1,0,0,0,0,1,0,0,0,0,0,1,0,0,0,0,0,1,0,0,0,0,0,1,0,0,0,0,0,1,0,0,0,0,0,1,0,0,0,0,0,1,0,0,0,0,0,1,0]) 30
def b11 : AB := .cells [(.chan 11), (.chan 12), (.chan 13), (.chan 14), (.chan 15), (.chan 16), (.chan 17), (.chan 18)] 90
def b12 : AB := .chan 1 []
def b13 : AB := .opn [(U 0), (U 0), (U 1), (U 0), (U 0), (U 0), (U 0), (.int .u64 (.var 0)), (U 0), (U 0), (U 0), (U 0), (U 0), (U 1), (U 0), (U 0), (U 0), (U 0), (U 0), (U 1), (U 0), (U 0), (U 0), (U 0), (U 0), (U 1), (U 0), (U 0), (U 0), (U 0), (U 0), (U 1), (U 0), (U 0), (U 0), (U 0), (U 0), (U 1), (U 0), (U 0), (U 0), (U 0), (U 0), (U 1), (U 0), (U 0), (U 0), (U 0), (U 0), (U 1), (U 0)] 30 1
def b14 : AB := .cells [(U 0), (U 0), (U 1), (U 0), (U 0), (U 0), (U 0), (.int .u64 (.var 0)), (U 0), (U 0), (U 0), (U 0), (U 0), (U 1), (U 0), (U 0), (U 0), (U 0), (U 0), (U 1), (U 0), (U 0), (U 0), (U 0), (U 0), (U 1), (U 0), (U 0), (U 0), (U 0), (U 0), (U 1), (U 0), (U 0), (U 0), (U 0), (U 0), (U 1), (U 0), (U 0), (U 0), (U 0), (U 0), (U 1), (U 0), (U 0), (U 0), (U 0), (U 0), (U 1), (U 0)] 30
def k15 : AFrame := (frLoop Try.prog 52 0 [(0, (.yieldF 0)), (1, (.ptr 1 (.lit 0))), (5, (I 51)), (6, (I 32))])
def b16 : AB := .cells [(.slack 7 0 1 32)] 50
def b17 : AB := .opn (Us [0,0,1,0,0,0,0,1,0,0,0,0,0,1,0,0,0,0,0,1,0,0,0,0,0,1,0,0,0,0,0,1,0,0,0,0,0,1,0,0,0,0,0,1,0,0,0,0,0,1,0]) 30 1
def b18 : AB := .opn [(U 0), (U 0), (U 1), (U 0), (U 0), (U 0), (U 0), (U 1), (U 0), (U 0), (U 0), (U 0), (U 0), (.int .u64 (.var 0)), (U 0), (U 0), (U 0), (U 0), (U 0), (U 1), (U 0), (U 0), (U 0), (U 0), (U 0), (U 1), (U 0), (U 0), (U 0), (U 0), (U 0), (U 1), (U 0), (U 0), (U 0), (U 0), (U 0), (U 1), (U 0), (U 0), (U 0), (U 0), (U 0), (U 1), (U 0), (U 0), (U 0), (U 0), (U 0), (U 1), (U 0)] 30 1
def b19 : AB := .cells [(U 0), (U 0), (U 1), (U 0), (U 0), (U 0), (U 0), (U 1), (U 0), (U 0), (U 0), (U 0), (U 0), (.int .u64 (.var 0)), (U 0), (U 0), (U 0), (U 0), (U 0), (U 1), (U 0), (U 0), (U 0), (U 0), (U 0), (U 1), (U 0), (U 0), (U 0), (U 0), (U 0), (U 1), (U 0), (U 0), (U 0), (U 0), (U 0), (U 1), (U 0), (U 0), (U 0), (U 0), (U 0), (U 1), (U 0), (U 0), (U 0), (U 0), (U 0), (U 1), (U 0)] 30
def b20 : AB := .opn [(U 0), (U 0), (U 1), (U 0), (U 0), (U 0), (U 0), (U 1), (U 0), (U 0), (U 0), (U 0), (U 0), (U 1), (U 0), (U 0), (U 0), (U 0), (U 0), (.int .u64 (.var 0)), (U 0), (U 0), (U 0), (U 0), (U 0), (U 1), (U 0), (U 0), (U 0), (U 0), (U 0), (U 1), (U 0), (U 0), (U 0), (U 0), (U 0), (U 1), (U 0), (U 0), (U 0), (U 0), (U 0), (U 1), (U 0), (U 0), (U 0), (U 0), (U 0), (U 1), (U 0)] 30 1
def b21 : AB := .cells [(U 0), (U 0), (U 1), (U 0), (U 0), (U 0), (U 0), (U 1), (U 0), (U 0), (U 0), (U 0), (U 0), (U 1), (U 0), (U 0), (U 0), (U 0), (U 0), (.int .u64 (.var 0)), (U 0), (U 0), (U 0), (U 0), (U 0), (U 1), (U 0), (U 0), (U 0), (U 0), (U 0), (U 1), (U 0), (U 0), (U 0), (U 0), (U 0), (U 1), (U 0), (U 0), (U 0), (U 0), (U 0), (U 1), (U 0), (U 0), (U 0), (U 0), (U 0), (U 1), (U 0)] 30
def b22 : AB := .opn [(U 0), (U 0), (U 1), (U 0), (U 0), (U 0), (U 0), (U 1), (U 0), (U 0), (U 0), (U 0), (U 0), (U 1), (U 0), (U 0), (U 0), (U 0), (U 0), (U 1), (U 0), (U 0), (U 0), (U 0), (U 0), (.int .u64 (.var 0)), (U 0), (U 0), (U 0), (U 0), (U 0), (U 1), (U 0), (U 0), (U 0), (U 0), (U 0), (U 1), (U 0), (U 0), (U 0), (U 0), (U 0), (U 1), (U 0), (U 0), (U 0), (U 0), (U 0), (U 1), (U 0)] 30 1
def b23 : AB := .cells [(U 0), (U 0), (U 1), (U 0), (U 0), (U 0), (U 0), (U 1), (U 0), (U 0), (U 0), (U 0), (U 0), (U 1), (U 0), (U 0), (U 0), (U 0), (U 0), (U 1), (U 0), (U 0), (U 0), (U 0), (U 0), (.int .u64 (.var 0)), (U 0), (U 0), (U 0), (U 0), (U 0), (U 1), (U 0), (U 0), (U 0), (U 0), (U 0), (U 1), (U 0), (U 0), (U 0), (U 0), (U 0), (U 1), (U 0), (U 0), (U 0), (U 0), (U 0), (U 1), (U 0)] 30
def b24 : AB := .opn [(U 0), (U 0), (U 1), (U 0), (U 0), (U 0), (U 0), (U 1), (U 0), (U 0), (U 0), (U 0), (U 0), (U 1), (U 0), (U 0), (U 0), (U 0), (U 0), (U 1), (U 0), (U 0), (U 0), (U 0), (U 0), (U 1), (U 0), (U 0), (U 0), (U 0), (U 0), (.int .u64 (.var 0)), (U 0), (U 0), (U 0), (U 0), (U 0), (U 1), (U 0), (U 0), (U 0), (U 0), (U 0), (U 1), (U 0), (U 0), (U 0), (U 0), (U 0), (U 1), (U 0)] 30 1
def b25 : AB := .cells [(U 0), (U 0), (U 1), (U 0), (U 0), (U 0), (U 0), (U 1), (U 0), (U 0), (U 0), (U 0), (U 0), (U 1), (U 0), (U 0), (U 0), (U 0), (U 0), (U 1), (U 0), (U 0), (U 0), (U 0), (U 0), (U 1), (U 0), (U 0), (U 0), (U 0), (U 0), (.int .u64 (.var 0)), (U 0), (U 0), (U 0), (U 0), (U 0), (U 1), (U 0), (U 0), (U 0), (U 0), (U 0), (U 1), (U 0), (U 0), (U 0), (U 0), (U 0), (U 1), (U 0)] 30
def b26 : AB := .opn [(U 0), (U 0), (U 1), (U 0), (U 0), (U 0), (U 0), (U 1), (U 0), (U 0), (U 0), (U 0), (U 0), (U 1), (U 0), (U 0), (U 0), (U 0), (U 0), (U 1), (U 0), (U 0), (U 0), (U 0), (U 0), (U 1), (U 0), (U 0), (U 0), (U 0), (U 0), (U 1), (U 0), (U 0), (U 0), (U 0), (U 0), (.int .u64 (.var 0)), (U 0), (U 0), (U 0), (U 0), (U 0), (U 1), (U 0), (U 0), (U 0), (U 0), (U 0), (U 1), (U 0)] 30 1
def b27 : AB := .cells [(U 0), (U 0), (U 1), (U 0), (U 0), (U 0), (U 0), (U 1), (U 0), (U 0), (U 0), (U 0), (U 0), (U 1), (U 0), (U 0), (U 0), (U 0), (U 0), (U 1), (U 0), (U 0), (U 0), (U 0), (U 0), (U 1), (U 0), (U 0), (U 0), (U 0), (U 0), (U 1), (U 0), (U 0), (U 0), (U 0), (U 0), (.int .u64 (.var 0)), (U 0), (U 0), (U 0), (U 0), (U 0), (U 1), (U 0), (U 0), (U 0), (U 0), (U 0), (U 1), (U 0)] 30
def b28 : AB := .opn (Us [0,0,1,0,0,0,0,1,0,0,0,0,0,1,0,0,0,0,0,1,0,0,0,0,0,1,0,0,0,0,0,1]) 30 1
def b29 : AB := .opn [(U 0), (U 0), (U 1), (U 0), (U 0), (U 0), (U 0), (U 1), (U 0), (U 0), (U 0), (U 0), (U 0), (U 1), (U 0), (U 0), (U 0), (U 0), (U 0), (U 1), (U 0), (U 0), (U 0), (U 0), (U 0), (U 1), (U 0), (U 0), (U 0), (U 0), (U 0), (U 1), (U 0), (U 0), (U 0), (U 0), (U 0), (U 1), (U 0), (U 0), (U 0), (U 0), (U 0), (.int .u64 (.var 0)), (U 0), (U 0), (U 0), (U 0), (U 0), (U 1), (U 0)] 30 1
def b30 : AB := .cells [(U 0), (U 0), (U 1), (U 0), (U 0), (U 0), (U 0), (U 1), (U 0), (U 0), (U 0), (U 0), (U 0), (U 1), (U 0), (U 0), (U 0), (U 0), (U 0), (U 1), (U 0), (U 0), (U 0), (U 0), (U 0), (U 1), (U 0), (U 0), (U 0), (U 0), (U 0), (U 1), (U 0), (U 0), (U 0), (U 0), (U 0), (U 1), (U 0), (U 0), (U 0), (U 0), (U 0), (.int .u64 (.var 0)), (U 0), (U 0), (U 0), (U 0), (U 0), (U 1), (U 0)] 30
def b31 : AB := .opn [(U 0), (U 0), (U 1), (U 0), (U 0), (U 0), (U 0), (U 1), (U 0), (U 0), (U 0), (U 0), (U 0), (U 1), (U 0), (U 0), (U 0), (U 0), (U 0), (U 1), (U 0), (U 0), (U 0), (U 0), (U 0), (U 1), (U 0), (U 0), (U 0), (U 0), (U 0), (U 1), (U 0), (U 0), (U 0), (U 0), (U 0), (U 1), (U 0), (U 0), (U 0), (U 0), (U 0), (U 1), (U 0), (U 0), (U 0), (U 0), (U 0), (.int .u64 (.var 0)), (U 0)] 30 1
def b32 : AB := .cells [(U 0), (U 0), (U 1), (U 0), (U 0), (U 0), (U 0), (U 1), (U 0), (U 0), (U 0), (U 0), (U 0), (U 1), (U 0), (U 0), (U 0), (U 0), (U 0), (U 1), (U 0), (U 0), (U 0), (U 0), (U 0), (U 1), (U 0), (U 0), (U 0), (U 0), (U 0), (U 1), (U 0), (U 0), (U 0), (U 0), (U 0), (U 1), (U 0), (U 0), (U 0), (U 0), (U 0), (U 1), (U 0), (U 0), (U 0), (U 0), (U 0), (.int .u64 (.var 0)), (U 0)] 30
def b33 : AB := .cells [(I 8), (I 1), (I 0), (.ptr 3 (.lit 0)), (.ptr 4 (.lit 0)), (.int .i32 (.lit 0)), (.int .u32 (.lit 0)), .nilSlice] 44
def b34 : AB := .cells [(.iface 109 (.slice 5 (.lit 0) (.lit 51) (.lit 51))), (.int .i64 (.var 6))] 73
def b35 : AB := .cells [(.slice 6 (.lit 0) (.lit 8) (.lit 8))] 93
def b36 : AB := .cells [(.chan 7), (.chan 8), (.chan 9), (.chan 10), (.chan 11), (.chan 12), (.chan 13), (.chan 14)] 90
def b37 : AB := .cells [(I 8), (I 1), (I 0), (.ptr 1 (.lit 0)), (.ptr 2 (.lit 0)), (.int .i32 (.lit 0)), (.int .u32 (.lit 0)), .nilSlice] 44
def b38 : AB := .cells [(.iface 109 (.slice 3 (.lit 0) (.lit 51) (.lit 51))), (.int .i64 (.var 3))] 73
def b39 : AB := .cells [(.slice 4 (.lit 0) (.lit 8) (.lit 8))] 93
def b40 : AB := .cells [(.chan 5), (.chan 6), (.chan 7), (.chan 8), (.chan 9), (.chan 10), (.chan 11), (.chan 12)] 90

end
end Go.Proofs.Ytmmehhibkpfghaa.safeSwaps
