/- Blocks and frames that come often (definitions alone) for the law MachineSums. -/
import Derived.Test.YtnkeojkniohjhaaChecked
import Derived.Test.YtnkeojkniohjhaaEv0
namespace Go.Proofs.Ytnkeojkniohjhaa.machineSums
open Go Go.Ev
noncomputable section
def sqF {α : Type} (f : Nat → α) : Nat → Nat → List α
  | 0,_ => []
  | n + 1,i => f i :: sqF f n (i + 1)
def sq {α : Type} (n : Nat) (f : Nat → α) : List α := sqF f n 0
def ap {α : Type} (a b : List α) : List α := a ++ b
def rp {α : Type} (n : Nat) (x : α) : List α := List.replicate n x

def b0 : AB := .cells [(.iface 58 (.slice 12 (.lit 0) (.lit 1) (.lit 1))),(I 0)] 78
def b1 : AB := .cells [(U 0)] 29
def b2 : AB := .cells [(.ite (.lss (.lit 0) (.var 32)) (.oslice 24 1 (.var 32)) .nilSlice)] 30
def b3 : AB := .cells [(.ite (.lss (.lit 0) (.var 32)) (.oslice 27 1 (.var 32)) .nilSlice)] 30
def b4 : AB := .cells [(.ite (.lss (.lit 0) (.var 33)) (.oslice 29 1 (.var 33)) .nilSlice)] 30
def b5 : AB := .cells [(.ite (.lss (.lit 0) (.var 32)) (.ptr 19 (.lit 0)) .nilPtr),(.func (.func 31) [] [(.ptr 20 (.lit 0))]),.nilSlice] 68
def b6 : AB := .cells [(.ite (.lss (.lit 0) (.var 32)) (.oslice 30 1 (.var 32)) .nilSlice)] 30
def b7 : AB := .cells [(.ite (.lss (.lit 0) (.var 33)) (.oslice 32 1 (.var 33)) .nilSlice)] 30
def b8 : AB := .cells [(.ite (.lss (.lit 0) (.var 34)) (.oslice 34 1 (.var 34)) .nilSlice)] 30
def b9 : AB := .cells [(.ite (.lss (.lit 0) (.var 32)) (.ptr 20 (.lit 0)) .nilPtr),(.func (.func 31) [] [(.ptr 21 (.lit 0))]),.nilSlice] 68
def b10 : AB := .cells [(.ite (.lss (.lit 0) (.var 33)) (.ptr 22 (.lit 0)) .nilPtr),(.func (.func 31) [] [(.ptr 23 (.lit 0))]),.nilSlice] 68
def b11 : AB := .cells [(.ite (.lss (.lit 0) (.var 32)) (.oslice 33 1 (.var 32)) .nilSlice)] 30
def b12 : AB := .cells [(.ite (.lss (.lit 0) (.var 33)) (.oslice 35 1 (.var 33)) .nilSlice)] 30
def b13 : AB := .cells [(.ite (.lss (.lit 0) (.var 34)) (.oslice 37 1 (.var 34)) .nilSlice)] 30
def b14 : AB := .cells [(.ite (.lss (.lit 0) (.var 35)) (.oslice 39 1 (.var 35)) .nilSlice)] 30
def b15 : AB := .cells [(.iface 58 (.slice 13 (.lit 0) (.lit 1) (.lit 1))),(I 0)] 78
def b16 : AB := .cells (Is [0,0,0,0,0,0]) 3
def b17 : AB := .opn (sq 6 fun i => (.ptr (15+i) (.lit 0))) 65 1
def b18 : AB := .cells [(.ite (.lss (.lit 0) (.var 32)) (.ptr 21 (.lit 0)) .nilPtr),(.func (.func 31) [] [(.ptr 22 (.lit 0))]),.nilSlice] 68
def b19 : AB := .cells [(.ite (.lss (.lit 0) (.var 33)) (.ptr 23 (.lit 0)) .nilPtr),(.func (.func 31) [] [(.ptr 24 (.lit 0))]),.nilSlice] 68
def b20 : AB := .cells [(.ite (.lss (.lit 0) (.var 34)) (.ptr 25 (.lit 0)) .nilPtr),(.func (.func 31) [] [(.ptr 26 (.lit 0))]),.nilSlice] 68
def k21 : AFrame := (frEntry Try.prog 56 0 [(0,(.yieldF 0)),(2,(.ptr 1 (.lit 0))),(6,(I 6)),(7,(I 0))])
def k22 : AFrame := (frRange Try.prog 12 5 0 [(2,(.ptr 2 (.lit 0)))] [(.collected 3)])
def b23 : AB := loopBlk Try.prog 12 5 .ready [(0,(.ptr 7 (.lit 0))),(1,(.ptr 9 (.lit 0))),(2,(.ptr 2 (.lit 0))),(3,(.ptr 7 (.lit 0))),(4,(.func (.func 38) [] [(.ptr 9 (.lit 0))])),(5,(.func (.func 56) [] [(.ptr 10 (.lit 0)),(.ptr 1 (.lit 0))])),(6,(.tuple []))] 3
def b24 : AB := .cells [(.func (.func 38) [] [(.ptr 9 (.lit 0))])] 46
def b25 : AB := .cells [(T false)] 4
def b26 : AB := .deferred (some [])
def b27 : AB := .row (.ro (.var 3)) (.row 0) (.var 4) [(.int .i64),(.int .i64)] 38
def b28 : AB := .cells (sq 6 fun i => (.int .i64 (.var (36+i)))) 3
def b29 : AB := .cells [(.ptr 7 (.lit 0))] 27
def b30 : AB := .opn (sq 5 fun i => (.ptr (15+i) (.lit 0))) 65 1
def k31 : AFrame := (frEntry Try.prog 56 0 [(0,(.yieldF 0)),(2,(.ptr 1 (.lit 0))),(6,(I 5)),(7,(I 0))])
def b32 : AB := .row (.ro (.var 2)) (.row 0) (.var 3) [(.int .i64),(.int .i64)] 38
def b33 : AB := .cells [(.iface 58 (.slice 19 (.lit 0) (.lit 1) (.lit 1))),(.int .i64 (.var 34))] 78
def b34 : AB := .cells (ap (sq 5 fun i => (.int .i64 (.var (35+i)))) [(I 0)]) 3
def b35 : AB := .cells [(.int .u64 (.var 8))] 29
def b36 : AB := .opn (sq 4 fun i => (.ptr (15+i) (.lit 0))) 65 1
def k37 : AFrame := (frEntry Try.prog 56 0 [(0,(.yieldF 0)),(2,(.ptr 1 (.lit 0))),(6,(I 4)),(7,(I 0))])
def b38 : AB := .cells (ap (sq 4 fun i => (.int .i64 (.var (35+i)))) [(I 0),(I 0)]) 3
def b39 : AB := .opn (sq 3 fun i => (.ptr (15+i) (.lit 0))) 65 1
def k40 : AFrame := (frEntry Try.prog 56 0 [(0,(.yieldF 0)),(2,(.ptr 1 (.lit 0))),(6,(I 3)),(7,(I 0))])
def b41 : AB := .cells (ap (sq 3 fun i => (.int .i64 (.var (35+i)))) [(I 0),(I 0),(I 0)]) 3
def k42 : AFrame := (frEntry Try.prog 56 0 [(0,(.yieldF 0)),(2,(.ptr 1 (.lit 0))),(6,(I 2)),(7,(I 0))])
def b43 : AB := .cells (ap [(.int .i64 (.var 35)),(.int .i64 (.var 36))] (rp 4 (I 0))) 3
def k44 : AFrame := (frEntry Try.prog 56 0 [(0,(.yieldF 0)),(2,(.ptr 1 (.lit 0))),(6,(I 1)),(7,(I 0))])
def k45 : AFrame := (frEntry Try.prog 56 0 [(0,(.yieldF 0)),(2,(.ptr 1 (.lit 0))),(6,(I 0)),(7,(I 0))])
def b46 : AB := .row (.ro (.var 0)) (.row 0) (.var 1) [(.int .i64),(.int .i64)] 38
def b47 : AB := loopBlk Try.prog 12 5 .ready [(0,(.ptr 5 (.lit 0))),(1,(.ptr 6 (.lit 0))),(2,(.ptr 2 (.lit 0))),(3,(.ptr 5 (.lit 0))),(4,(.func (.func 38) [] [(.ptr 6 (.lit 0))])),(5,(.func (.func 56) [] [(.ptr 7 (.lit 0)),(.ptr 1 (.lit 0))])),(6,(.tuple []))] 3
def b48 : AB := .cells [(.func (.func 38) [] [(.ptr 6 (.lit 0))])] 46
def b49 : AB := .cells [(.ptr 5 (.lit 0))] 27
def b50 : AB := .cells [(.iface 58 (.slice 13 (.lit 0) (.lit 1) (.lit 1))),(.int .i64 (.var 34))] 78
def k51 : AFrame := (frEntry Try.prog 3 6 [(4,(T false)),(5,(.ptr 0 (.lit 0))),(6,(.ptr 1 (.lit 0))),(7,(.int .u64 (.var 0))),(8,(.int .i64 (.var 1))),(12,(.int .i64 (.var 2)))])
def b52 : AB := .cells [(.iface 58 (.slice 2 (.lit 0) (.lit 1) (.lit 1))),(.int .i64 (.var 3))] 78
def b53 : AB := .cells [(.int .u64 (.var 4))] 29
def b54 : AB := .cells [(.ite (.lss (.lit 0) (.var 5)) (.ptr 5 (.lit 0)) .nilPtr),(.func (.func 31) [] [(.ptr 6 (.lit 0))]),(.ite (.lss (.lit 0) (.var 2)) (.oslice 7 1 (.var 2)) .nilSlice)] 68
def b55 : AB := .cells [(.ite (.lss (.lit 0) (.add (.var 2) (.var 5))) (.oslice 9 1 (.add (.var 2) (.var 5))) .nilSlice)] 30
def k56 : AFrame := (frSeq Try.prog 3 34 1 [(5,(.ptr 4 (.lit 0))),(7,(.int .u64 (.var 0))),(8,(.int .i64 (.var 1))),(12,(.int .i64 (.var 2))),(150,(.ptr 5 (.lit 0)))])
def b57 : AB := .cells [(.iface 58 (.slice 8 (.lit 0) (.lit 1) (.lit 1))),(.int .i64 (.var 3))] 78
def b58 : AB := .cells [(.ite (.lss (.lit 0) (.var 7)) (.ptr 6 (.lit 0)) .nilPtr),(.func (.func 31) [] [(.ptr 7 (.lit 0))]),(.ite (.lss (.lit 0) (.var 5)) (.oslice 8 1 (.var 5)) .nilSlice)] 68
def b59 : AB := .cells [(.ite (.lss (.lit 0) (.var 8)) (.ptr 9 (.lit 0)) .nilPtr),(.func (.func 31) [] [(.ptr 10 (.lit 0))]),(.ite (.lss (.lit 0) (.var 6)) (.oslice 11 1 (.var 6)) .nilSlice)] 68
def b60 : AB := .opn (sq 3 fun i => (.ptr (4+i) (.lit 0))) 65 1
def b61 : AB := .cells [(.ite (.lss (.lit 0) (.var 8)) (.ptr 7 (.lit 0)) .nilPtr),(.func (.func 31) [] [(.ptr 8 (.lit 0))]),(.ite (.lss (.lit 0) (.var 5)) (.oslice 9 1 (.var 5)) .nilSlice)] 68
def b62 : AB := .cells [(.ite (.lss (.lit 0) (.var 9)) (.ptr 10 (.lit 0)) .nilPtr),(.func (.func 31) [] [(.ptr 11 (.lit 0))]),(.ite (.lss (.lit 0) (.var 6)) (.oslice 12 1 (.var 6)) .nilSlice)] 68
def b63 : AB := .cells [(.ite (.lss (.lit 0) (.var 10)) (.ptr 13 (.lit 0)) .nilPtr),(.func (.func 31) [] [(.ptr 14 (.lit 0))]),(.ite (.lss (.lit 0) (.var 7)) (.oslice 15 1 (.var 7)) .nilSlice)] 68
def b64 : AB := .opn (sq 4 fun i => (.ptr (4+i) (.lit 0))) 65 1
def b65 : AB := .cells [(.ite (.lss (.lit 0) (.var 9)) (.ptr 8 (.lit 0)) .nilPtr),(.func (.func 31) [] [(.ptr 9 (.lit 0))]),(.ite (.lss (.lit 0) (.var 5)) (.oslice 10 1 (.var 5)) .nilSlice)] 68
def b66 : AB := .cells [(.ite (.lss (.lit 0) (.var 10)) (.ptr 11 (.lit 0)) .nilPtr),(.func (.func 31) [] [(.ptr 12 (.lit 0))]),(.ite (.lss (.lit 0) (.var 6)) (.oslice 13 1 (.var 6)) .nilSlice)] 68
def b67 : AB := .cells [(.ite (.lss (.lit 0) (.var 11)) (.ptr 14 (.lit 0)) .nilPtr),(.func (.func 31) [] [(.ptr 15 (.lit 0))]),(.ite (.lss (.lit 0) (.var 7)) (.oslice 16 1 (.var 7)) .nilSlice)] 68
def b68 : AB := .cells [(.ite (.lss (.lit 0) (.var 12)) (.ptr 17 (.lit 0)) .nilPtr),(.func (.func 31) [] [(.ptr 18 (.lit 0))]),(.ite (.lss (.lit 0) (.var 8)) (.oslice 19 1 (.var 8)) .nilSlice)] 68
def b69 : AB := .opn (sq 5 fun i => (.ptr (4+i) (.lit 0))) 65 1
def b70 : AB := .cells [(.ite (.lss (.lit 0) (.var 10)) (.ptr 9 (.lit 0)) .nilPtr),(.func (.func 31) [] [(.ptr 10 (.lit 0))]),(.ite (.lss (.lit 0) (.var 5)) (.oslice 11 1 (.var 5)) .nilSlice)] 68
def b71 : AB := .cells [(.ite (.lss (.lit 0) (.var 11)) (.ptr 12 (.lit 0)) .nilPtr),(.func (.func 31) [] [(.ptr 13 (.lit 0))]),(.ite (.lss (.lit 0) (.var 6)) (.oslice 14 1 (.var 6)) .nilSlice)] 68
def b72 : AB := .cells [(.ite (.lss (.lit 0) (.var 12)) (.ptr 15 (.lit 0)) .nilPtr),(.func (.func 31) [] [(.ptr 16 (.lit 0))]),(.ite (.lss (.lit 0) (.var 7)) (.oslice 17 1 (.var 7)) .nilSlice)] 68
def b73 : AB := .cells [(.ite (.lss (.lit 0) (.var 13)) (.ptr 18 (.lit 0)) .nilPtr),(.func (.func 31) [] [(.ptr 19 (.lit 0))]),(.ite (.lss (.lit 0) (.var 8)) (.oslice 20 1 (.var 8)) .nilSlice)] 68
def b74 : AB := .cells [(.ite (.lss (.lit 0) (.var 14)) (.ptr 21 (.lit 0)) .nilPtr),(.func (.func 31) [] [(.ptr 22 (.lit 0))]),(.ite (.lss (.lit 0) (.var 9)) (.oslice 23 1 (.var 9)) .nilSlice)] 68
def b75 : AB := .cells [(.ite (.lss (.lit 0) (.add (.var 5) (.var 10))) (.oslice 25 1 (.add (.var 5) (.var 10))) .nilSlice)] 30
def b76 : AB := .cells [(.ite (.lss (.lit 0) (.add (.var 6) (.var 11))) (.oslice 27 1 (.add (.var 6) (.var 11))) .nilSlice)] 30
def b77 : AB := .cells [(.ite (.lss (.lit 0) (.add (.var 7) (.var 12))) (.oslice 29 1 (.add (.var 7) (.var 12))) .nilSlice)] 30
def b78 : AB := .cells [(.ite (.lss (.lit 0) (.add (.var 8) (.var 13))) (.oslice 31 1 (.add (.var 8) (.var 13))) .nilSlice)] 30
def b79 : AB := .cells [(.ite (.lss (.lit 0) (.add (.var 9) (.var 14))) (.oslice 33 1 (.add (.var 9) (.var 14))) .nilSlice)] 30
def b80 : AB := .opn (sq 6 fun i => (.ptr (4+i) (.lit 0))) 65 1
def b81 : AB := .cells [(.ite (.lss (.lit 0) (.var 11)) (.ptr 10 (.lit 0)) .nilPtr),(.func (.func 31) [] [(.ptr 11 (.lit 0))]),(.ite (.lss (.lit 0) (.var 5)) (.oslice 12 1 (.var 5)) .nilSlice)] 68
def b82 : AB := .cells [(.ite (.lss (.lit 0) (.var 12)) (.ptr 13 (.lit 0)) .nilPtr),(.func (.func 31) [] [(.ptr 14 (.lit 0))]),(.ite (.lss (.lit 0) (.var 6)) (.oslice 15 1 (.var 6)) .nilSlice)] 68
def b83 : AB := .cells [(.ite (.lss (.lit 0) (.var 13)) (.ptr 16 (.lit 0)) .nilPtr),(.func (.func 31) [] [(.ptr 17 (.lit 0))]),(.ite (.lss (.lit 0) (.var 7)) (.oslice 18 1 (.var 7)) .nilSlice)] 68
def b84 : AB := .cells [(.ite (.lss (.lit 0) (.var 14)) (.ptr 19 (.lit 0)) .nilPtr),(.func (.func 31) [] [(.ptr 20 (.lit 0))]),(.ite (.lss (.lit 0) (.var 8)) (.oslice 21 1 (.var 8)) .nilSlice)] 68
def b85 : AB := .cells [(.ite (.lss (.lit 0) (.var 15)) (.ptr 22 (.lit 0)) .nilPtr),(.func (.func 31) [] [(.ptr 23 (.lit 0))]),(.ite (.lss (.lit 0) (.var 9)) (.oslice 24 1 (.var 9)) .nilSlice)] 68
def b86 : AB := .cells [(.ite (.lss (.lit 0) (.var 16)) (.ptr 25 (.lit 0)) .nilPtr),(.func (.func 31) [] [(.ptr 26 (.lit 0))]),(.ite (.lss (.lit 0) (.var 10)) (.oslice 27 1 (.var 10)) .nilSlice)] 68
def b87 : AB := .cells [(.ite (.lss (.lit 0) (.add (.var 5) (.var 11))) (.oslice 29 1 (.add (.var 5) (.var 11))) .nilSlice)] 30
def b88 : AB := .cells [(.ite (.lss (.lit 0) (.add (.var 6) (.var 12))) (.oslice 31 1 (.add (.var 6) (.var 12))) .nilSlice)] 30
def b89 : AB := .cells [(.ite (.lss (.lit 0) (.add (.var 7) (.var 13))) (.oslice 33 1 (.add (.var 7) (.var 13))) .nilSlice)] 30
def b90 : AB := .cells [(.ite (.lss (.lit 0) (.add (.var 8) (.var 14))) (.oslice 35 1 (.add (.var 8) (.var 14))) .nilSlice)] 30
def b91 : AB := .cells [(.ite (.lss (.lit 0) (.add (.var 9) (.var 15))) (.oslice 37 1 (.add (.var 9) (.var 15))) .nilSlice)] 30
def b92 : AB := .cells [(.ite (.lss (.lit 0) (.add (.var 10) (.var 16))) (.oslice 39 1 (.add (.var 10) (.var 16))) .nilSlice)] 30
def k93 : AFrame := (frLoop Try.prog 3 6 [(4,(T false)),(5,(.ptr 0 (.lit 0))),(6,(.ptr 1 (.lit 0))),(7,(.int .u64 (.var 0))),(8,(.int .i64 (.var 1))),(12,(.int .i64 (.var 2)))])
def e0 (a0 a1 a2 a3 : Nat) : List (Nat × AB) := [(a0,.cells [(.ptr a1 (.lit 0)),(I 0),.nilSlice] 86),(a2,.ros (.lit 0) (.var a3) (ap [(.ptr a0 (.lit 0))] (sq 9 fun i => (.ptr (a1+(1+i)) (.lit 0)))) 32),(a1,.cells [(.func (.func 28) [] (sq 3 fun i => (.ptr (a1+(10+i)) (.lit 0)))),.nilPtr,(I 0),(T false)] 91),((a1+10),.cells [(.ptr 2 (.lit 0))] 25),((a1+11),.cells [(I 0)] 3),((a1+12),.cells [(.int .u64 (.sel .u8 (.row 8) (.lit 0)))] 29)]
def e1 (a0 a1 a2 a3 : Nat) (z4 : Int) : List (Nat × AB) := [(a0,.cells [(.ptr a1 (.lit 0)),(I 0),.nilSlice] 86),(a1,.cells [(.func (.func 28) [] [(.ptr a2 (.lit 0)),(.ptr (a2+1) (.lit 0)),(.ptr (a2+2) (.lit 0))]),.nilPtr,(I 0),(T false)] 91),(a2,.cells [(.ptr 2 (.lit 0))] 25),((a2+1),.cells [(I 0)] 3),((a2+2),.cells [(.int .u64 (.sel .u8 (.row a3) (.lit z4)))] 29)]
def e2 (a0 a1 a2 a3 a4 : Nat) : List (Nat × AB) := [(a0,.cells [(.ptr a1 (.lit 0)),(I 0),.nilSlice] 86),(a1,.cells [(.func (.func 28) [] [(.ptr a2 (.lit 0)),(.ptr (a2+1) (.lit 0)),(.ptr (a2+2) (.lit 0))]),.nilPtr,(I 0),(T false)] 91),((a1+1),.ros (.lit 0) (.var a3) (ap [(.ptr a0 (.lit 0))] (sq 9 fun i => (.ptr (a2+(3+i)) (.lit 0)))) 32),(a2,.cells [(.ptr 2 (.lit 0))] 25),((a2+1),.cells [(I 0)] 3),((a2+2),.cells [(.int .u64 (.sel .u8 (.row a4) (.lit 0)))] 29)]
def e3 (a0 a1 a2 a3 a4 a5 : Nat) : List (Nat × AB) := [(a0,.cells [(.ptr a1 (.lit 0)),(I 0),.nilSlice] 86),(a1,.cells [(.func (.func 28) [] [(.ptr a2 (.lit 0)),(.ptr (a2+1) (.lit 0)),(.ptr (a2+2) (.lit 0))]),.nilPtr,(I 0),(T false)] 91),(a2,.cells [(.ptr a3 (.lit 0))] 25),((a2+1),.cells [(I 0)] 3),((a2+2),.cells [(.int .u64 (.sel .u8 (.row a4) (.var a5)))] 29)]
def e4 (a0 a1 a2 a3 a4 : Nat) : List (Nat × AB) := [(a0,.ros (.var a1) (.var a2) (ap [(.ptr a3 (.lit 0)),(.ptr a4 (.lit 0))] (sq 8 fun i => (.ptr (a4+(1+i)) (.lit 0)))) 32)]
def e5 (a0 a1 a2 a3 a4 a5 : Nat) (z6 : Int) : List (Nat × AB) := [(a0,.cells [(.ptr a1 (.lit 0)),(I 0),.nilSlice] 86),(a1,.cells [(.func (.func 28) [] [(.ptr a2 (.lit 0)),(.ptr (a2+1) (.lit 0)),(.ptr (a2+2) (.lit 0))]),.nilPtr,(I 0),(T false)] 91),(a2,.cells [(.ptr a3 (.lit 0))] 25),((a2+1),.cells [(I 0)] 3),((a2+2),.cells [(.int .u64 (.sel .u8 (.row a4) (.add (.var a5) (.lit z6))))] 29)]
def e6 (a0 a1 a2 a3 a4 : Nat) : List (Nat × AB) := [(a0,.cells [(.ptr a1 (.lit 0)),(I 0),.nilSlice] 86),(a1,.cells [(.func (.func 28) [] [(.ptr a2 (.lit 0)),(.ptr (a2+1) (.lit 0)),(.ptr (a2+2) (.lit 0))]),.nilPtr,(I 0),(T false)] 91),(a2,.cells [(.ptr a3 (.lit 0))] 25),((a2+1),.cells [(I 0)] 3),((a2+2),.cells [(.int .u64 (.var a4))] 29)]
def e7 (a0 a1 a2 a3 a4 : Nat) : List (Nat × AB) := [(a0,.ros (.var a1) (.var a2) (ap [(.ptr a3 (.lit 0)),(.ptr a4 (.lit 0))] (sq 7 fun i => (.ptr (a4+(1+i)) (.lit 0)))) 32)]

end
end Go.Proofs.Ytnkeojkniohjhaa.machineSums
