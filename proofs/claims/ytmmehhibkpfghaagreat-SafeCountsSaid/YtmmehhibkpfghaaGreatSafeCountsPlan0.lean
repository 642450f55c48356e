/- Blocks and frames that come often (definitions alone) for the law SafeCounts. -/
import Derived.Test.YtmmehhibkpfghaaGreatChecked
import Derived.Test.YtmmehhibkpfghaaGreatEv0
namespace Go.Proofs.YtmmehhibkpfghaaGreat.safeCounts
open Go Go.Ev
noncomputable section
def sqF {α : Type} (f : Nat → α) : Nat → Nat → List α
  | 0,_ => []
  | n + 1,i => f i :: sqF f n (i + 1)
def sq {α : Type} (n : Nat) (f : Nat → α) : List α := sqF f n 0
def ap {α : Type} (a b : List α) : List α := a ++ b
def rp {α : Type} (n : Nat) (x : α) : List α := List.replicate n x
def pq1 (a : Nat) : List Nat → List (SB × Bool)
  | [] => []
  | b :: l => (.eql (.var a) (.var b),false) :: pq1 a l
def pq : List Nat → List (SB × Bool)
  | [] => []
  | a :: l => pq1 a l ++ pq l

def k0 : AFrame := (frSeq Tryz.prog 4 6 2 [(1,(.ptr 3 (.lit 0))),(2,(T false)),(3,(I 1)),(4,(.ptr 0 (.lit 0))),(5,(.slack 1 0 1 1)),(26,(.ptr 0 (.lit 0))),(27,(.slack 1 0 1 1))])
def k1 : AFrame := (frEntry Tryz.prog 34 0 [(0,(.ptr 0 (.lit 0)))])
def k2 : AFrame := (frSeq Tryz.prog 31 6 1 [(0,(.ptr 1 (.lit 0))),(4,(I 0)),(5,(.ptr 0 (.lit 0))),(15,(.ptr 0 (.lit 0)))])
def k3 : AFrame := (frSeq Tryz.prog 8 7 6 [(0,(.ptr 2 (.lit 0))),(4,.nilPtr),(5,(.ptr 1 (.lit 0))),(11,(.slack 3 0 1 1)),(12,(I 1)),(13,(I 0)),(18,(.ptr 1 (.lit 0))),(23,(.func (.func 32) [(.agg [(.ptr 2 (.lit 0)),(I 0),(.ite (.lss (.lit 0) (.var 0)) (.oslice 4 2 (.var 0)) .nilSlice)])] []))])
def k4 : AFrame := (frSeq Tryz.prog 15 11 2 [(48,(.ptr 2 (.lit 0))),(49,(.slack 3 0 1 1))])
def k5 : AFrame := (frSeq Tryz.prog 4 6 2 [(1,(.ptr 5 (.lit 0))),(2,(T false)),(3,(I 1)),(4,(.ptr 2 (.lit 0))),(5,(.slack 6 0 1 1)),(26,(.ptr 2 (.lit 0))),(27,(.slack 6 0 1 1))])
def k6 : AFrame := (frSeq Tryz.prog 4 5 3 [(1,(.ptr 2 (.lit 0))),(2,(T false)),(3,(I 3)),(4,(.ptr 3 (.lit 0))),(23,(.slice 0 (.var 0) (.lit 3) (.var 1))),(24,(I 3))])
def k7 : AFrame := (frSeq Tryz.prog 4 6 2 [(1,(.ptr 3 (.lit 0))),(2,(T false)),(3,(I 3)),(4,(.ptr 0 (.lit 0))),(5,(.slack 1 0 1 3)),(26,(.ptr 0 (.lit 0))),(27,(.slack 1 0 1 3))])
def k8 : AFrame := (frSeq Tryz.prog 4 5 3 [(1,(.ptr 3 (.lit 0))),(2,(T false)),(3,(I 3)),(4,(.ptr 4 (.lit 0))),(23,(.slice 0 (.var 0) (.lit 3) (.var 1))),(24,(I 3))])
def k9 : AFrame := (frSeq Tryz.prog 4 5 3 [(1,(.ptr 2 (.lit 0))),(2,(T false)),(3,(I 2)),(4,(.ptr 3 (.lit 0))),(23,(.slice 0 (.var 0) (.lit 2) (.var 1))),(24,(I 2))])
def k10 : AFrame := (frSeq Tryz.prog 4 6 2 [(1,(.ptr 3 (.lit 0))),(2,(T false)),(3,(I 2)),(4,(.ptr 0 (.lit 0))),(5,(.slack 1 0 1 2)),(26,(.ptr 0 (.lit 0))),(27,(.slack 1 0 1 2))])
def k11 : AFrame := (frSeq Tryz.prog 4 5 3 [(1,(.ptr 2 (.lit 0))),(2,(T false)),(3,(I 4)),(4,(.ptr 3 (.lit 0))),(23,(.slice 0 (.var 0) (.var 1) (.var 2))),(24,(I 4))])
def k12 : AFrame := (frSeq Tryz.prog 4 6 2 [(1,(.ptr 3 (.lit 0))),(2,(T false)),(3,(I 4)),(4,(.ptr 0 (.lit 0))),(5,(.slack 1 0 1 4)),(26,(.ptr 0 (.lit 0))),(27,(.slack 1 0 1 4))])
def k13 : AFrame := (frSeq Tryz.prog 4 5 3 [(1,(.ptr 3 (.lit 0))),(2,(T false)),(3,(I 4)),(4,(.ptr 4 (.lit 0))),(23,(.slice 0 (.var 0) (.var 1) (.var 2))),(24,(I 4))])
def k14 : AFrame := (frSeq Tryz.prog 8 7 6 [(0,(.ptr 2 (.lit 0))),(4,.nilPtr),(5,(.ptr 1 (.lit 0))),(11,(.slack 3 0 1 4)),(12,(I 4)),(13,(I 0)),(18,(.ptr 1 (.lit 0))),(23,(.func (.func 32) [(.agg [(.ptr 2 (.lit 0)),(I 0),(.ite (.lss (.lit 0) (.var 0)) (.oslice 4 2 (.var 0)) .nilSlice)])] []))])
def k15 : AFrame := (frSeq Tryz.prog 15 11 2 [(48,(.ptr 2 (.lit 0))),(49,(.slack 3 0 1 4))])
def k16 : AFrame := (frSeq Tryz.prog 4 6 2 [(1,(.ptr 5 (.lit 0))),(2,(T false)),(3,(I 4)),(4,(.ptr 2 (.lit 0))),(5,(.slack 6 0 1 4)),(26,(.ptr 2 (.lit 0))),(27,(.slack 6 0 1 4))])
def k17 : AFrame := (frSeq Tryz.prog 15 11 2 [(48,(.ptr 0 (.lit 0))),(49,(.slack 2 0 1 4))])
def k18 : AFrame := (frSeq Tryz.prog 4 6 2 [(1,(.ptr 3 (.lit 0))),(2,(T false)),(3,(I 4)),(4,(.ptr 0 (.lit 0))),(5,(.slack 4 0 1 4)),(26,(.ptr 0 (.lit 0))),(27,(.slack 4 0 1 4))])
def k19 : AFrame := (frSeq Tryz.prog 8 7 6 [(0,(.ptr 2 (.lit 0))),(4,.nilPtr),(5,(.ptr 1 (.lit 0))),(11,(.slack 3 0 1 3)),(12,(I 3)),(13,(I 0)),(18,(.ptr 1 (.lit 0))),(23,(.func (.func 32) [(.agg [(.ptr 2 (.lit 0)),(I 0),(.ite (.lss (.lit 0) (.var 0)) (.oslice 4 2 (.var 0)) .nilSlice)])] []))])
def k20 : AFrame := (frSeq Tryz.prog 15 11 2 [(48,(.ptr 2 (.lit 0))),(49,(.slack 3 0 1 3))])
def k21 : AFrame := (frSeq Tryz.prog 4 6 2 [(1,(.ptr 5 (.lit 0))),(2,(T false)),(3,(I 3)),(4,(.ptr 2 (.lit 0))),(5,(.slack 6 0 1 3)),(26,(.ptr 2 (.lit 0))),(27,(.slack 6 0 1 3))])
def k22 : AFrame := (frSeq Tryz.prog 8 7 6 [(0,(.ptr 2 (.lit 0))),(4,.nilPtr),(5,(.ptr 1 (.lit 0))),(11,(.slack 3 0 1 4)),(12,(I 4)),(13,(I 1)),(18,(.ptr 1 (.lit 0))),(23,(.func (.func 32) [(.agg [(.ptr 2 (.lit 0)),(I 1),(.ite (.lss (.lit 0) (.var 0)) (.oslice 4 2 (.var 0)) .nilSlice)])] []))])
def k23 : AFrame := (frSeq Tryz.prog 4 6 2 [(1,(.ptr 4 (.lit 0))),(2,(T false)),(3,(I 4)),(4,(.ptr 0 (.lit 0))),(5,(.slack 1 0 1 4)),(26,(.ptr 0 (.lit 0))),(27,(.slack 1 0 1 4))])
def k24 : AFrame := (frSeq Tryz.prog 15 11 2 [(48,(.ptr 0 (.lit 0))),(49,(.slack 2 0 1 3))])
def k25 : AFrame := (frSeq Tryz.prog 4 6 2 [(1,(.ptr 3 (.lit 0))),(2,(T false)),(3,(I 3)),(4,(.ptr 0 (.lit 0))),(5,(.slack 4 0 1 3)),(26,(.ptr 0 (.lit 0))),(27,(.slack 4 0 1 3))])
def k26 : AFrame := (frSeq Tryz.prog 8 7 6 [(0,(.ptr 2 (.lit 0))),(4,.nilPtr),(5,(.ptr 1 (.lit 0))),(11,(.slack 3 0 1 4)),(12,(I 4)),(13,(I 2)),(18,(.ptr 1 (.lit 0))),(23,(.func (.func 32) [(.agg [(.ptr 2 (.lit 0)),(I 2),(.ite (.lss (.lit 0) (.var 0)) (.oslice 4 2 (.var 0)) .nilSlice)])] []))])
def k27 : AFrame := (frSeq Tryz.prog 8 7 6 [(0,(.ptr 2 (.lit 0))),(4,.nilPtr),(5,(.ptr 1 (.lit 0))),(11,(.slack 3 0 1 3)),(12,(I 3)),(13,(I 1)),(18,(.ptr 1 (.lit 0))),(23,(.func (.func 32) [(.agg [(.ptr 2 (.lit 0)),(I 1),(.ite (.lss (.lit 0) (.var 0)) (.oslice 4 2 (.var 0)) .nilSlice)])] []))])
def k28 : AFrame := (frSeq Tryz.prog 8 7 6 [(0,(.ptr 2 (.lit 0))),(4,.nilPtr),(5,(.ptr 1 (.lit 0))),(11,(.slack 3 0 1 3)),(12,(I 3)),(13,(I 2)),(18,(.ptr 1 (.lit 0))),(23,(.func (.func 32) [(.agg [(.ptr 2 (.lit 0)),(I 2),(.ite (.lss (.lit 0) (.var 0)) (.oslice 4 2 (.var 0)) .nilSlice)])] []))])
def k29 : AFrame := (frSeq Tryz.prog 8 7 6 [(0,(.ptr 2 (.lit 0))),(4,.nilPtr),(5,(.ptr 1 (.lit 0))),(11,(.slack 3 0 1 2)),(12,(I 2)),(13,(I 0)),(18,(.ptr 1 (.lit 0))),(23,(.func (.func 32) [(.agg [(.ptr 2 (.lit 0)),(I 0),(.ite (.lss (.lit 0) (.var 0)) (.oslice 4 2 (.var 0)) .nilSlice)])] []))])
def k30 : AFrame := (frSeq Tryz.prog 15 11 2 [(48,(.ptr 2 (.lit 0))),(49,(.slack 3 0 1 2))])
def k31 : AFrame := (frSeq Tryz.prog 4 6 2 [(1,(.ptr 5 (.lit 0))),(2,(T false)),(3,(I 2)),(4,(.ptr 2 (.lit 0))),(5,(.slack 6 0 1 2)),(26,(.ptr 2 (.lit 0))),(27,(.slack 6 0 1 2))])
def k32 : AFrame := (frSeq Tryz.prog 15 11 2 [(48,(.ptr 0 (.lit 0))),(49,(.slack 2 0 1 2))])
def k33 : AFrame := (frSeq Tryz.prog 4 6 2 [(1,(.ptr 3 (.lit 0))),(2,(T false)),(3,(I 2)),(4,(.ptr 0 (.lit 0))),(5,(.slack 4 0 1 2)),(26,(.ptr 0 (.lit 0))),(27,(.slack 4 0 1 2))])
def k34 : AFrame := (frSeq Tryz.prog 8 7 6 [(0,(.ptr 2 (.lit 0))),(4,.nilPtr),(5,(.ptr 1 (.lit 0))),(11,(.slack 3 0 1 2)),(12,(I 2)),(13,(I 1)),(18,(.ptr 1 (.lit 0))),(23,(.func (.func 32) [(.agg [(.ptr 2 (.lit 0)),(I 1),(.ite (.lss (.lit 0) (.var 0)) (.oslice 4 2 (.var 0)) .nilSlice)])] []))])
def k35 : AFrame := (frSeq Tryz.prog 8 7 6 [(0,(.ptr 2 (.lit 0))),(4,.nilPtr),(5,(.ptr 1 (.lit 0))),(11,(.slack 3 0 1 4)),(12,(I 4)),(13,(I 3)),(18,(.ptr 1 (.lit 0))),(23,(.func (.func 32) [(.agg [(.ptr 2 (.lit 0)),(I 3),(.ite (.lss (.lit 0) (.var 0)) (.oslice 4 2 (.var 0)) .nilSlice)])] []))])
def k36 : AFrame := (frSeq Tryz.prog 4 6 2 [(1,(.ptr 4 (.lit 0))),(2,(T false)),(3,(I 3)),(4,(.ptr 0 (.lit 0))),(5,(.slack 1 0 1 3)),(26,(.ptr 0 (.lit 0))),(27,(.slack 1 0 1 3))])
def k37 : AFrame := (frLoop Tryz.prog 34 0 [(0,(.ptr 0 (.lit 0)))])
def k38 : AFrame := (frSeq Tryz.prog 9 4 1 [(4,(T false)),(22,(.ptr 0 (.lit 0)))])
def k39 : AFrame := (frSeq Tryz.prog 4 13 13 [(1,(.ptr 1 (.lit 0))),(2,(T false)),(3,(I 1)),(4,(.ptr 2 (.lit 0))),(5,(.slack 3 0 1 1)),(6,(.ptr 4 (.lit 0))),(7,(.int .i64 (.var 0))),(8,(.int .i64 (.var 1))),(53,(.ptr 4 (.lit 0))),(65,(.agg [(I 0),(I 0)]))])
def k40 : AFrame := (frSeq Tryz.prog 4 13 13 [(1,(.ptr 1 (.lit 0))),(2,(T false)),(3,(I 2)),(4,(.ptr 2 (.lit 0))),(5,(.slack 3 0 1 2)),(6,(.ptr 4 (.lit 0))),(7,(.int .i64 (.var 0))),(8,(.int .i64 (.var 1))),(53,(.ptr 4 (.lit 0))),(65,(.agg [(I 0),(I 0)]))])
def k41 : AFrame := (frSeq Tryz.prog 4 13 13 [(1,(.ptr 1 (.lit 0))),(2,(T false)),(3,(I 2)),(4,(.ptr 2 (.lit 0))),(5,(.slack 3 0 1 2)),(6,(.ptr 4 (.lit 0))),(7,(.int .i64 (.var 0))),(8,(.int .i64 (.var 1))),(53,(.ptr 4 (.lit 0))),(65,(.agg [(I 1),(I 0)]))])
def k42 : AFrame := (frSeq Tryz.prog 4 13 13 [(1,(.ptr 1 (.lit 0))),(2,(T false)),(3,(I 4)),(4,(.ptr 2 (.lit 0))),(5,(.slack 3 0 1 4)),(6,(.ptr 4 (.lit 0))),(7,(.int .i64 (.var 0))),(8,(.int .i64 (.var 1))),(53,(.ptr 4 (.lit 0))),(65,(.agg [(I 0),(I 0)]))])
def k43 : AFrame := (frSeq Tryz.prog 4 13 13 [(1,(.ptr 1 (.lit 0))),(2,(T false)),(3,(I 4)),(4,(.ptr 2 (.lit 0))),(5,(.slack 3 0 1 4)),(6,(.ptr 4 (.lit 0))),(7,(.int .i64 (.var 0))),(8,(.int .i64 (.var 1))),(53,(.ptr 4 (.lit 0))),(65,(.agg [(I 1),(I 0)]))])
def k44 : AFrame := (frSeq Tryz.prog 4 13 13 [(1,(.ptr 1 (.lit 0))),(2,(T false)),(3,(I 4)),(4,(.ptr 2 (.lit 0))),(5,(.slack 3 0 1 4)),(6,(.ptr 4 (.lit 0))),(7,(.int .i64 (.var 0))),(8,(.int .i64 (.var 1))),(53,(.ptr 4 (.lit 0))),(65,(.agg [(I 2),(I 0)]))])
def k45 : AFrame := (frSeq Tryz.prog 4 13 13 [(1,(.ptr 1 (.lit 0))),(2,(T false)),(3,(I 4)),(4,(.ptr 2 (.lit 0))),(5,(.slack 3 0 1 4)),(6,(.ptr 4 (.lit 0))),(7,(.int .i64 (.var 0))),(8,(.int .i64 (.var 1))),(53,(.ptr 4 (.lit 0))),(65,(.agg [(I 3),(I 0)]))])
def k46 : AFrame := (frSeq Tryz.prog 4 13 13 [(1,(.ptr 1 (.lit 0))),(2,(T false)),(3,(I 3)),(4,(.ptr 2 (.lit 0))),(5,(.slack 3 0 1 3)),(6,(.ptr 4 (.lit 0))),(7,(.int .i64 (.var 0))),(8,(.int .i64 (.var 1))),(53,(.ptr 4 (.lit 0))),(65,(.agg [(I 0),(I 0)]))])
def k47 : AFrame := (frSeq Tryz.prog 4 13 13 [(1,(.ptr 1 (.lit 0))),(2,(T false)),(3,(I 3)),(4,(.ptr 2 (.lit 0))),(5,(.slack 3 0 1 3)),(6,(.ptr 4 (.lit 0))),(7,(.int .i64 (.var 0))),(8,(.int .i64 (.var 1))),(53,(.ptr 4 (.lit 0))),(65,(.agg [(I 1),(I 0)]))])
def k48 : AFrame := (frSeq Tryz.prog 4 13 13 [(1,(.ptr 1 (.lit 0))),(2,(T false)),(3,(I 3)),(4,(.ptr 2 (.lit 0))),(5,(.slack 3 0 1 3)),(6,(.ptr 4 (.lit 0))),(7,(.int .i64 (.var 0))),(8,(.int .i64 (.var 1))),(53,(.ptr 4 (.lit 0))),(65,(.agg [(I 2),(I 0)]))])
def k49 : AFrame := (frSeq Tryz.prog 4 19 5 [(2,(T false)),(3,(I 3)),(4,(.ptr 1 (.lit 0))),(5,(.slack 2 0 1 3)),(6,(.ptr 3 (.lit 0))),(9,(.int .i64 (.var 0))),(84,(.ptr 3 (.lit 0))),(88,(.agg [(I 0),(I 0)]))])
def k50 : AFrame := (frSeq Tryz.prog 4 19 5 [(2,(T false)),(3,(I 3)),(4,(.ptr 1 (.lit 0))),(5,(.slack 2 0 1 3)),(6,(.ptr 3 (.lit 0))),(9,(.int .i64 (.var 0))),(84,(.ptr 3 (.lit 0))),(88,(.agg [(I 1),(I 0)]))])
def k51 : AFrame := (frSeq Tryz.prog 4 19 5 [(2,(T false)),(3,(I 3)),(4,(.ptr 1 (.lit 0))),(5,(.slack 2 0 1 3)),(6,(.ptr 3 (.lit 0))),(9,(.int .i64 (.var 0))),(84,(.ptr 3 (.lit 0))),(88,(.agg [(I 2),(I 0)]))])
def k52 : AFrame := (frSeq Tryz.prog 4 20 2 [(2,(T false)),(3,(I 3)),(4,(.ptr 2 (.lit 0))),(6,(.ptr 3 (.lit 0))),(90,(.slack 0 0 1 3)),(91,(I 3))])
def k53 : AFrame := (frSeq Tryz.prog 4 19 5 [(2,(T false)),(3,(I 4)),(4,(.ptr 1 (.lit 0))),(5,(.slack 2 0 1 4)),(6,(.ptr 3 (.lit 0))),(9,(.int .i64 (.var 0))),(84,(.ptr 3 (.lit 0))),(88,(.agg [(I 0),(I 0)]))])
def k54 : AFrame := (frSeq Tryz.prog 4 19 5 [(2,(T false)),(3,(I 4)),(4,(.ptr 1 (.lit 0))),(5,(.slack 2 0 1 4)),(6,(.ptr 3 (.lit 0))),(9,(.int .i64 (.var 0))),(84,(.ptr 3 (.lit 0))),(88,(.agg [(I 1),(I 0)]))])
def k55 : AFrame := (frSeq Tryz.prog 4 19 5 [(2,(T false)),(3,(I 4)),(4,(.ptr 1 (.lit 0))),(5,(.slack 2 0 1 4)),(6,(.ptr 3 (.lit 0))),(9,(.int .i64 (.var 0))),(84,(.ptr 3 (.lit 0))),(88,(.agg [(I 3),(I 0)]))])
def k56 : AFrame := (frSeq Tryz.prog 4 19 5 [(2,(T false)),(3,(I 4)),(4,(.ptr 1 (.lit 0))),(5,(.slack 2 0 1 4)),(6,(.ptr 3 (.lit 0))),(9,(.int .i64 (.var 0))),(84,(.ptr 3 (.lit 0))),(88,(.agg [(I 2),(I 0)]))])
def k57 : AFrame := (frSeq Tryz.prog 4 20 2 [(2,(T false)),(3,(I 4)),(4,(.ptr 2 (.lit 0))),(6,(.ptr 3 (.lit 0))),(90,(.slack 0 0 1 4)),(91,(I 4))])
def k58 : AFrame := (frSeq Tryz.prog 4 19 5 [(2,(T false)),(3,(I 2)),(4,(.ptr 1 (.lit 0))),(5,(.slack 2 0 1 2)),(6,(.ptr 3 (.lit 0))),(9,(.int .i64 (.var 0))),(84,(.ptr 3 (.lit 0))),(88,(.agg [(I 0),(I 0)]))])
def k59 : AFrame := (frSeq Tryz.prog 4 19 5 [(2,(T false)),(3,(I 2)),(4,(.ptr 1 (.lit 0))),(5,(.slack 2 0 1 2)),(6,(.ptr 3 (.lit 0))),(9,(.int .i64 (.var 0))),(84,(.ptr 3 (.lit 0))),(88,(.agg [(I 1),(I 0)]))])
def k60 : AFrame := (frSeq Tryz.prog 4 20 2 [(2,(T false)),(3,(I 2)),(4,(.ptr 2 (.lit 0))),(6,(.ptr 3 (.lit 0))),(90,(.slack 0 0 1 2)),(91,(I 2))])
def k61 : AFrame := (frSeq Tryz.prog 4 19 5 [(2,(T false)),(3,(I 1)),(4,(.ptr 1 (.lit 0))),(5,(.slack 2 0 1 1)),(6,(.ptr 3 (.lit 0))),(9,(.int .i64 (.var 0))),(84,(.ptr 3 (.lit 0))),(88,(.agg [(I 0),(I 0)]))])
def k62 : AFrame := (frSeq Tryz.prog 4 20 2 [(2,(T false)),(3,(I 1)),(4,(.ptr 2 (.lit 0))),(6,(.ptr 3 (.lit 0))),(90,(.slack 0 0 1 1)),(91,(I 1))])

end
end Go.Proofs.YtmmehhibkpfghaaGreat.safeCounts
