/- Blocks and frames that come often (definitions alone) for the law ThinAgain. -/
import Derived.Test.YtkmogkobedmnkaaGreatChecked
import Derived.Test.YtkmogkobedmnkaaGreatEv7
namespace Go.Proofs.YtkmogkobedmnkaaGreat.thinAgain
open Go Go.Ev
noncomputable section

def k0 : AFrame := (frLoop Tryz.prog 16 0 [(0, (.ptr 0 (.lit 0))), (1, (I 2)), (4, (.ptr 1 (.lit 0))), (5, (I 1))])
def k1 : AFrame := (frSeq Tryz.prog 9 1 4 [(10, (.ptr 0 (.lit 0)))])
def k2 : AFrame := (frSeq Tryz.prog 4 1 0 [(0, (.int .u8 (.var 0))), (2, (T false))])
def b3 : AB := .cells [(.ptr 3 (.lit 0)), (I 0), (.slack 4 0 1 2)] 91
def b4 : AB := .cells [(I 0), (I 0)] 41
def b5 : AB := .cells [(.ptr 2 (.lit 0)), (I 0), (I 0)] 99
def b6 : AB := .cells [(U 73)] 61
def b7 : AB := .cells [(U 4398046511179)] 61
def b8 : AB := .cells [(I 0)] 3
def b9 : AB := .cells (Us [0,0,73,0,0,0,0,1,0,0,0,0,0,1,0]) 61
def b10 : AB := .chan 1 []
def b11 : AB := .cells [(.func (.func 93) [] [(.ptr 8 (.lit 0)), (.ptr 9 (.lit 0)), (.ptr 10 (.lit 0)), (.ptr 11 (.lit 0))]), .nilPtr, (I 0), (T false)] 93
def b12 : AB := .opn [(.func (.func 95) [] []), (.func (.func 87) [] [(.ptr 12 (.lit 0))])] 142 1
def b13 : AB := .cells [(.slice 14 (.lit 0) (.lit 2) (.lit 2))] 141
def b14 : AB := .cells [(U 8796093022283)] 61
def b15 : AB := .cells (Us [0,0,4398046511179,0,0,0,0,1,0,0,0,0,0,1,0]) 61
def k16 : AFrame := (frSeq Tryz.prog 13 8 2 [(4, (T false)), (41, (.ptr 0 (.lit 0))), (42, (I 0))])
def b17 : AB := .cells [(.func (.func 55) [] [(.ptr 15 (.lit 0)), (.ptr 16 (.lit 0)), (.ptr 17 (.lit 0))])] 94
def b18 : AB := .cells (Us [0,0,8796093022283,0,0,0,0,1,0,0,0,0,0,1,0]) 61
def b19 : AB := .cells [(.func (.func 57) [] [(.ptr 15 (.lit 0)), (.ptr 16 (.lit 0))])] 106
def b20 : AB := .cells [(.func (.func 55) [] [(.ptr 15 (.lit 0)), (.ptr 19 (.lit 0)), (.ptr 20 (.lit 0))])] 94
def k21 : AFrame := (frLoop Tryz.prog 68 0 [(2, (U 1)), (3, (T true)), (4, (.ptr 0 (.lit 0))), (16, (.agg [(I 0), (I 3), (I 3), (I 24), (I 27), (I 15), (I 42), (I 8)])), (17, (I 1))])
def k22 : AFrame := (frSeq Tryz.prog 35 8 1 [(0, (U 73)), (2, (.ptr 1 (.lit 0))), (3, (T false)), (6, (.ptr 2 (.lit 0))), (46, (.agg [(I 1), (I 0), (I 0), (I 0), (I 0), (I 9)]))])
def k23 : AFrame := (frSeq Tryz.prog 33 2 2 [(0, (.ptr 4 (.lit 0))), (4, (.ptr 5 (.lit 0))), (5, (.func (.func 64) [] [])), (11, (.ptr 4 (.lit 0))), (12, (I 0))])
def b24 : AB := .cells [(I 1), (I 9), (I 0), (I 0)] 171
def b25 : AB := .cells (Is [0,0,0,0,0,0]) 31
def b26 : AB := .cells (Is [1,0,0,0,0,9]) 31
def b27 : AB := .opn (Is [1,0,0,0,0,0,0,0,1,0,0,0,0,0,0,0,1,1,0,8,0,4,0,0,1,0,0,9,0,1,0,0,1,1,0,9,0,0,0,0,1,0,0,1,0,0,0,0,1,0,0,1,0,0,0,0,1,0,0,8,0,4,0,0]) 80 8
def k28 : AFrame := (frAny Tryz.prog 89 2 [3, 4, 5, 6, 7] [2, 1, 0] [(0, (.ptr 3 (.lit 0))), (1, (.ptr 4 (.lit 0))), (2, (.ptr 5 (.lit 0))), (3, (I 0)), (18, (.func (.func 50) [] [])), (19, (.agg [(.ptr 6 (.lit 0)), (I 1), (I 0)])), (20, (U 73)), (21, (.tuple [])), (22, (.tuple [])), (23, (.tuple [])), (24, (.tuple [])), (25, (.tuple []))])
def k29 : AFrame := (frSeq Tryz.prog 13 5 7 [(0, (.ptr 7 (.lit 0))), (4, (T false)), (21, (.func (.func 89) [] [(.ptr 3 (.lit 0)), (.ptr 4 (.lit 0)), (.ptr 5 (.lit 0))]))])
def b30 : AB := .cells [(.ptr 6 (.lit 0)), (I 1), (I 0)] 99
def b31 : AB := .cells [(.func (.func 50) [] [])] 94
def b32 : AB := .cells [(.func (.func 89) [] [(.ptr 3 (.lit 0)), (.ptr 4 (.lit 0)), (.ptr 5 (.lit 0))]), .nilPtr, (I 0), (T false)] 93
def b33 : AB := .opn [(.func (.func 92) [] [(.ptr 4 (.lit 0)), (.ptr 18 (.lit 0)), (.ptr 3 (.lit 0))]), (.func (.func 87) [] [(.ptr 19 (.lit 0))])] 142 1
def b34 : AB := .cells [(.func (.func 93) [] [(.ptr 20 (.lit 0)), (.ptr 21 (.lit 0)), (.ptr 22 (.lit 0)), (.ptr 23 (.lit 0))]), .nilPtr, (I 0), (T false)] 93
def b35 : AB := .opn [(.func (.func 95) [] []), (.func (.func 87) [] [(.ptr 24 (.lit 0))])] 142 1
def b36 : AB := .cells [(.ptr 6 (.lit 0)), (I 0), (I 0)] 99
def b37 : AB := .cells [(.func (.func 48) [] [(.ptr 28 (.lit 0))])] 106
def k38 : AFrame := (frLoop Tryz.prog 68 0 [(2, (U 3)), (3, (T true)), (4, (.ptr 0 (.lit 0))), (16, (.agg [(I 0), (I 3), (I 3), (I 24), (I 27), (I 15), (I 42), (I 8)])), (17, (I 1))])
def k39 : AFrame := (frSeq Tryz.prog 35 8 1 [(0, (U 4398046511179)), (2, (.ptr 1 (.lit 0))), (3, (T false)), (6, (.ptr 2 (.lit 0))), (46, (.agg [(I 3), (I 0), (I 1), (I 0), (I 0), (I 9)]))])
def b40 : AB := .cells [(.ptr 9 (.lit 0)), (I 0), (I 0)] 99
def k41 : AFrame := (frSeq Tryz.prog 16 4 1 [(0, (.ptr 7 (.lit 0))), (1, (I 2)), (4, (.ptr 8 (.lit 0))), (5, (I 0)), (16, (.ptr 7 (.lit 0)))])
def b42 : AB := .cells [(.func (.func 55) [] [(.ptr 6 (.lit 0)), (.ptr 7 (.lit 0)), (.ptr 8 (.lit 0))])] 94
def b43 : AB := .row .opn (.row 0) (.mul (.var 1) (.lit 2)) [(.int .i64), (.int .i64), (.int .i64), (.int .i64), (.int .i64), (.int .i64), (.int .i64), (.int .i64)] 80

end
end Go.Proofs.YtkmogkobedmnkaaGreat.thinAgain
