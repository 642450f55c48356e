/- Blocks and frames that come often (definitions alone) for the law BiasKnown. -/
import Derived.Test.YtlghapdldaijoaaGreatChecked
import Derived.Test.YtlghapdldaijoaaGreatEv7
namespace Go.Proofs.YtlghapdldaijoaaGreat.biasKnown
open Go Go.Ev
noncomputable section

def k0 : AFrame := (frLoop Tryz.prog 84 0 [(0, (.ptr 0 (.lit 0))), (1, (I 0))])
def k1 : AFrame := (frSeq Tryz.prog 35 8 2 [(4, (T false)), (41, (.ptr 0 (.lit 0))), (42, (I 1))])
def k2 : AFrame := (frSeq Tryz.prog 9 4 1 [(0, (.ptr 0 (.lit 0))), (1, (I 2)), (4, (I 0)), (5, (I 1)), (16, (.ptr 0 (.lit 0)))])
def k3 : AFrame := (frSeq Tryz.prog 6 1 4 [(10, (.ptr 0 (.lit 0)))])
def b4 : AB := .cells [(I 3), (I 2), (I 0), (.ptr 4 (.lit 0)), (.ptr 5 (.lit 0)), (.int .i32 (.lit 0)), (.int .u32 (.lit 0)), (.slack 6 0 8 1)] 83
def b5 : AB := .cells [(.func (.func 105) [] [(.ptr 7 (.lit 0)), (.ptr 8 (.lit 0)), (.ptr 9 (.lit 0)), (.ptr 10 (.lit 0))]), .nilPtr, (I 0), (T false)] 133
def b6 : AB := .opn [(.func (.func 107) [] []), (.func (.func 151) [] [(.ptr 11 (.lit 0))])] 71 1
def b7 : AB := .cells [(.iface 154 (.slice 12 (.lit 0) (.lit 22) (.lit 22))), (I 9)] 169
def b8 : AB := .cells [(.slice 13 (.lit 0) (.lit 3) (.lit 3))] 185
def b9 : AB := .cells [(.ptr 1 (.lit 0))] 22
def b10 : AB := .cells [(I 0)] 3
def b11 : AB := .cells [(U 72), (I 0), (I 0), (I 0), (I 0), (I 0), (I 9), (T true)] 90
def b12 : AB := .cells [(.func (.func 108) [] [(.ptr 14 (.lit 0)), (.ptr 15 (.lit 0)), (.ptr 10 (.lit 0))])] 145
def b13 : AB := .cells [(.ptr 1 (.lit 0)), (I 0), (I 0)] 87
def b14 : AB := .cells [(.func (.func 104) [] [(.ptr 7 (.lit 0)), (.ptr 8 (.lit 0)), (.ptr 10 (.lit 0))])] 100
def b15 : AB := .chan 1 []
def b16 : AB := .row .opn (.row 0) (.var 0) [(.int .i64), (.int .i64), (.int .i64), (.int .i64), (.int .i64), (.int .i64), (.int .i64), (.int .i64)] 61
def k17 : AFrame := (frRange Tryz.prog 176 6 0 [(2, (.ptr 2 (.lit 0)))] [(.collected 3)])
def k18 : AFrame := (frSeq Tryz.prog 124 3 1 [(2, (.ptr 4 (.lit 0))), (9, (.slice 1 (.lit 0) (.lit 4) (.lit 4)))])
def b19 : AB := loopBlk Tryz.prog 176 6 .ready [(0, (.slice 1 (.lit 0) (.lit 4) (.lit 4))), (1, (.tuple [])), (2, (.ptr 2 (.lit 0))), (3, (.tuple [])), (4, (.tuple [])), (5, (.slice 1 (.lit 0) (.lit 4) (.lit 4))), (6, (.func (.func 204) [] [(.ptr 8 (.lit 0))])), (7, (.tuple [])), (8, (.tuple [])), (9, (.tuple [])), (10, (.tuple [])), (11, (.tuple [])), (12, (.tuple [])), (13, (.tuple [])), (14, (.tuple [])), (15, (.tuple []))] 3
def b20 : AB := .cells (Is [0,0,0,0,0,0]) 63
def b21 : AB := .cells [(.iface 154 (.slice 13 (.lit 0) (.lit 22) (.lit 22))), (.int .i64 (.var 1))] 169
def b22 : AB := .cells (Us [0,0,1121501860331595,72,0,0,0,0,0,0,0,0,0,0,1,0,0,0,0,0,1,0]) 88
def k23 : AFrame := (frLoop Tryz.prog 115 0 [(2, (U 0)), (3, (T true)), (4, (.ptr 0 (.lit 0))), (16, (.agg [(I 0), (I 3), (I 3), (I 24), (I 27), (I 15), (I 42), (I 8)])), (17, (I 1))])
def k24 : AFrame := (frSeq Tryz.prog 72 8 1 [(0, (U 72)), (2, (.ptr 1 (.lit 0))), (3, (T false)), (6, (.ptr 2 (.lit 0))), (46, (.agg [(I 0), (I 0), (I 0), (I 0), (I 0), (I 9)]))])
def k25 : AFrame := (frSeq Tryz.prog 35 5 7 [(0, (.ptr 5 (.lit 0))), (4, (T false)), (21, (.func (.func 87) [] [(.ptr 6 (.lit 0)), (.ptr 3 (.lit 0)), (.ptr 4 (.lit 0))]))])
def b26 : AB := .cells [(.func (.func 87) [] [(.ptr 6 (.lit 0)), (.ptr 3 (.lit 0)), (.ptr 4 (.lit 0))]), .nilPtr, (I 0), (T false)] 133
def k27 : AFrame := (frSeq Tryz.prog 3 10 1 [(3, (.int .i64 (.var 0))), (4, (T true)), (5, (T true)), (71, (T true))])
def b28 : AB := .cells (Us [0,0,4398046511178,72,0,0,0,0,1,0,0,0,0,0,0,0,0,0,0,0,1,0]) 88
def b29 : AB := .cells [(.func (.func 91) [] [(.ptr 7 (.lit 0)), (.ptr 8 (.lit 0)), (.ptr 9 (.lit 0))]), .nilPtr, (I 0), (T false)] 133
def k30 : AFrame := (frLoop Tryz.prog 115 0 [(2, (U 2)), (3, (T true)), (4, (.ptr 0 (.lit 0))), (16, (.agg [(I 0), (I 3), (I 3), (I 24), (I 27), (I 15), (I 42), (I 8)])), (17, (I 1))])
def b31 : AB := .opn (Is [1,0,0,0,0,0,0,0,1,0,0,0,0,0,0,0,1,0,0,1,0,0,0,0,1,1,0,8,0,4,0,0,1,1,0,9,0,0,0,0]) 61 8
def k32 : AFrame := (frLoop Tryz.prog 9 0 [(0, (.ptr 0 (.lit 0))), (1, (I 9)), (4, (I 0)), (5, (I 4))])
def b33 : AB := .opn [(.func (.func 89) [] [(.ptr 10 (.lit 0)), (.ptr 11 (.lit 0))]), (.func (.func 153) [] [(.ptr 12 (.lit 0)), (.ptr 13 (.lit 0))]), (.func (.func 151) [] [(.ptr 14 (.lit 0))]), (.func (.func 62) [] [(.ptr 15 (.lit 0)), (.ptr 16 (.lit 0))])] 71 1
def b34 : AB := .cells [(.ptr 1 (.lit 0)), (I 1), (I 0)] 87
def b35 : AB := .cells [(.func (.func 152) [] [(.ptr 13 (.lit 0)), (.ptr 12 (.lit 0))])] 100
def b36 : AB := .cells [(.func (.func 99) [] [(.ptr 19 (.lit 0)), (.ptr 20 (.lit 0))])] 145
def b37 : AB := .cells [(.ptr 1 (.lit 0)), (I 0), (I 1)] 87
def b38 : AB := .opn (Is [1,0,0,0,0,0,0,0,1,0,0,0,0,0,0,0,1,0,0,1,0,0,0,0,1,1,0,8,0,4,0,0,1,1,0,9,0,0,0,0,1,0,0,0,1,0,0,0,1,0,0,1,1,0,0,0]) 61 8
def b39 : AB := .cells [(.ptr 1 (.lit 0)), (I 1), (I 1)] 87

end
end Go.Proofs.YtlghapdldaijoaaGreat.biasKnown
