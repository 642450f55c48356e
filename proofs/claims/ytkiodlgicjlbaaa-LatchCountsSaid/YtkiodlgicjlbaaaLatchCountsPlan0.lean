/- Blocks and frames that come often (definitions alone) for the law LatchCounts. -/
import Derived.Test.YtkiodlgicjlbaaaChecked
import Derived.Test.YtkiodlgicjlbaaaEv0
namespace Go.Proofs.Ytkiodlgicjlbaaa.latchCounts
open Go Go.Ev
noncomputable section

def k0 : AFrame := (frEntry Try.prog 4 0 [(2,(.bool (.var 0))),(6,(T false)),(9,(I 1)),(10,(.int .i64 (.var 0))),(11,(.ptr 0 (.lit 0))),(12,(.ptr 1 (.lit 0))),(13,(.slice 2 (.lit 0) (.lit 1) (.lit 1))),(14,(.slice 3 (.lit 0) (.lit 1) (.lit 1))),(15,(.slice 4 (.lit 0) (.var 0) (.var 0))),(16,(I 0))])
def b1 : AB := .cells [(.ite (.lss (.lit 0) (.var 2)) (.slice 5 (.var 1) (.var 2) (.var 3)) (.ite (.var 1) .nilSlice (.empty false))),(I 1),(I 0)] 26
def b2 : AB := .cells [(.iface 55 (.slice 6 (.lit 0) (.lit 2) (.lit 2))),(I 0)] 82
def b3 : AB := .cells [(U 0),(U 0)] 35
def k4 : AFrame := (frEntry Try.prog 4 0 [(2,(.bool (.var 0))),(6,(T false)),(9,(I 2)),(10,(.int .i64 (.var 0))),(11,(.ptr 0 (.lit 0))),(12,(.ptr 1 (.lit 0))),(13,(.slice 2 (.lit 0) (.lit 2) (.lit 2))),(14,(.slice 3 (.lit 0) (.lit 2) (.lit 2))),(15,(.slice 4 (.lit 0) (.var 1) (.var 1))),(16,(I 0))])
def b5 : AB := .cells [(.ite (.lss (.lit 0) (.var 3)) (.slice 5 (.var 2) (.var 3) (.var 4)) (.ite (.var 1) .nilSlice (.empty false))),(I 2),(I 0)] 26
def b6 : AB := .row .own (.con 0) (.var 1) [(.int .i64)] 3
def k7 : AFrame := (frEntry Try.prog 4 0 [(2,(.bool (.var 0))),(6,(T false)),(9,(I 3)),(10,(.int .i64 (.var 0))),(11,(.ptr 0 (.lit 0))),(12,(.ptr 1 (.lit 0))),(13,(.slice 2 (.lit 0) (.lit 3) (.lit 3))),(14,(.slice 3 (.lit 0) (.lit 3) (.lit 3))),(15,(.slice 4 (.lit 0) (.var 1) (.var 1))),(16,(I 0))])
def b8 : AB := .cells [(.ite (.lss (.lit 0) (.var 3)) (.slice 5 (.var 2) (.var 3) (.var 4)) (.ite (.var 1) .nilSlice (.empty false))),(I 3),(I 0)] 26
def k9 : AFrame := (frEntry Try.prog 4 0 [(2,(.bool (.var 0))),(6,(T false)),(9,(I 4)),(10,(.int .i64 (.var 0))),(11,(.ptr 0 (.lit 0))),(12,(.ptr 1 (.lit 0))),(13,(.slice 2 (.lit 0) (.lit 4) (.lit 4))),(14,(.slice 3 (.lit 0) (.lit 4) (.lit 4))),(15,(.slice 4 (.lit 0) (.var 1) (.var 1))),(16,(I 0))])
def b10 : AB := .cells [(.ite (.lss (.lit 0) (.var 3)) (.slice 5 (.var 2) (.var 3) (.var 4)) (.ite (.var 1) .nilSlice (.empty false))),(I 4),(I 0)] 26
def k11 : AFrame := (frEntry Try.prog 4 0 [(2,(.bool (.var 0))),(6,(T false)),(9,(I 5)),(10,(.int .i64 (.var 0))),(11,(.ptr 0 (.lit 0))),(12,(.ptr 1 (.lit 0))),(13,(.slice 2 (.lit 0) (.lit 5) (.lit 5))),(14,(.slice 3 (.lit 0) (.lit 5) (.lit 5))),(15,(.slice 4 (.lit 0) (.var 1) (.var 1))),(16,(I 0))])
def b12 : AB := .cells [(.ite (.lss (.lit 0) (.var 3)) (.slice 5 (.var 2) (.var 3) (.var 4)) (.ite (.var 1) .nilSlice (.empty false))),(I 5),(I 0)] 26
def k13 : AFrame := (frEntry Try.prog 4 0 [(2,(.bool (.var 0))),(6,(T false)),(9,(I 6)),(10,(.int .i64 (.var 0))),(11,(.ptr 0 (.lit 0))),(12,(.ptr 1 (.lit 0))),(13,(.slice 2 (.lit 0) (.lit 6) (.lit 6))),(14,(.slice 3 (.lit 0) (.lit 6) (.lit 6))),(15,(.slice 4 (.lit 0) (.var 1) (.var 1))),(16,(I 0))])
def b14 : AB := .cells [(.ite (.lss (.lit 0) (.var 3)) (.slice 5 (.var 2) (.var 3) (.var 4)) (.ite (.var 1) .nilSlice (.empty false))),(I 6),(I 0)] 26
def k15 : AFrame := (frLoop Try.prog 4 0 [(2,(.bool (.var 0))),(6,(T false)),(9,(I 1)),(10,(.int .i64 (.var 0))),(11,(.ptr 0 (.lit 0))),(12,(.ptr 1 (.lit 0))),(13,(.slice 2 (.lit 0) (.lit 1) (.lit 1))),(14,(.slice 3 (.lit 0) (.lit 1) (.lit 1))),(15,(.slice 4 (.lit 0) (.var 0) (.var 0))),(16,(.int .i64 (.var 1)))])
def b16 : AB := .cells [(.ite (.lss (.lit 0) (.var 3)) (.slice 5 (.var 2) (.var 3) (.var 4)) (.ite (.var 1) .nilSlice (.empty false))),(I 1),(.int .i64 (.var 1))] 26
def b17 : AB := .cells [(.iface 55 (.slice 6 (.lit 0) (.lit 2) (.lit 2))),(.int .i64 (.var 5))] 82
def k18 : AFrame := (frLoop Try.prog 4 0 [(2,(.bool (.var 0))),(6,(T false)),(9,(I 2)),(10,(.int .i64 (.var 0))),(11,(.ptr 0 (.lit 0))),(12,(.ptr 1 (.lit 0))),(13,(.slice 2 (.lit 0) (.lit 2) (.lit 2))),(14,(.slice 3 (.lit 0) (.lit 2) (.lit 2))),(15,(.slice 4 (.lit 0) (.var 1) (.var 1))),(16,(.int .i64 (.var 2)))])
def b19 : AB := .cells [(.ite (.lss (.lit 0) (.var 4)) (.slice 5 (.var 3) (.var 4) (.var 5)) (.ite (.var 1) .nilSlice (.empty false))),(I 2),(.int .i64 (.var 2))] 26
def b20 : AB := .cells [(.iface 55 (.slice 6 (.lit 0) (.lit 2) (.lit 2))),(.int .i64 (.var 6))] 82
def b21 : AB := .row .own (.row 1) (.var 1) [(.int .i64)] 3
def k22 : AFrame := (frLoop Try.prog 4 0 [(2,(.bool (.var 0))),(6,(T false)),(9,(I 3)),(10,(.int .i64 (.var 0))),(11,(.ptr 0 (.lit 0))),(12,(.ptr 1 (.lit 0))),(13,(.slice 2 (.lit 0) (.lit 3) (.lit 3))),(14,(.slice 3 (.lit 0) (.lit 3) (.lit 3))),(15,(.slice 4 (.lit 0) (.var 1) (.var 1))),(16,(.int .i64 (.var 2)))])
def b23 : AB := .cells [(.ite (.lss (.lit 0) (.var 4)) (.slice 5 (.var 3) (.var 4) (.var 5)) (.ite (.var 1) .nilSlice (.empty false))),(I 3),(.int .i64 (.var 2))] 26
def k24 : AFrame := (frLoop Try.prog 4 0 [(2,(.bool (.var 0))),(6,(T false)),(9,(I 4)),(10,(.int .i64 (.var 0))),(11,(.ptr 0 (.lit 0))),(12,(.ptr 1 (.lit 0))),(13,(.slice 2 (.lit 0) (.lit 4) (.lit 4))),(14,(.slice 3 (.lit 0) (.lit 4) (.lit 4))),(15,(.slice 4 (.lit 0) (.var 1) (.var 1))),(16,(.int .i64 (.var 2)))])
def b25 : AB := .cells [(.ite (.lss (.lit 0) (.var 4)) (.slice 5 (.var 3) (.var 4) (.var 5)) (.ite (.var 1) .nilSlice (.empty false))),(I 4),(.int .i64 (.var 2))] 26
def k26 : AFrame := (frLoop Try.prog 4 0 [(2,(.bool (.var 0))),(6,(T false)),(9,(I 5)),(10,(.int .i64 (.var 0))),(11,(.ptr 0 (.lit 0))),(12,(.ptr 1 (.lit 0))),(13,(.slice 2 (.lit 0) (.lit 5) (.lit 5))),(14,(.slice 3 (.lit 0) (.lit 5) (.lit 5))),(15,(.slice 4 (.lit 0) (.var 1) (.var 1))),(16,(.int .i64 (.var 2)))])
def b27 : AB := .cells [(.ite (.lss (.lit 0) (.var 4)) (.slice 5 (.var 3) (.var 4) (.var 5)) (.ite (.var 1) .nilSlice (.empty false))),(I 5),(.int .i64 (.var 2))] 26
def k28 : AFrame := (frLoop Try.prog 4 0 [(2,(.bool (.var 0))),(6,(T false)),(9,(I 6)),(10,(.int .i64 (.var 0))),(11,(.ptr 0 (.lit 0))),(12,(.ptr 1 (.lit 0))),(13,(.slice 2 (.lit 0) (.lit 6) (.lit 6))),(14,(.slice 3 (.lit 0) (.lit 6) (.lit 6))),(15,(.slice 4 (.lit 0) (.var 1) (.var 1))),(16,(.int .i64 (.var 2)))])
def b29 : AB := .cells [(.ite (.lss (.lit 0) (.var 4)) (.slice 5 (.var 3) (.var 4) (.var 5)) (.ite (.var 1) .nilSlice (.empty false))),(I 6),(.int .i64 (.var 2))] 26
def k30 : AFrame := (frEntry Try.prog 4 2 [(2,(.bool (.var 0))),(6,(T false)),(9,(I 1)),(10,(.int .i64 (.var 0))),(12,(.ptr 0 (.lit 0))),(15,(.slice 1 (.lit 0) (.var 0) (.var 0))),(19,(.int .i64 (.var 1))),(20,(I 0))])
def b31 : AB := .cells [(.iface 55 (.slice 2 (.lit 0) (.lit 2) (.lit 2))),(.int .i64 (.var 2))] 82
def b32 : AB := .row .own (.row 0) (.var 0) [(.int .i64)] 3
def k33 : AFrame := (frEntry Try.prog 4 2 [(2,(.bool (.var 0))),(6,(T false)),(9,(I 2)),(10,(.int .i64 (.var 0))),(12,(.ptr 0 (.lit 0))),(15,(.slice 1 (.lit 0) (.var 1) (.var 1))),(19,(.int .i64 (.var 2))),(20,(I 0))])
def b34 : AB := .cells [(.iface 55 (.slice 2 (.lit 0) (.lit 2) (.lit 2))),(.int .i64 (.var 3))] 82
def b35 : AB := .row .own (.row 0) (.var 1) [(.int .i64)] 3
def b36 : AB := .cells [(U 0),(.int .u64 (.var 4))] 35
def k37 : AFrame := (frEntry Try.prog 4 2 [(2,(.bool (.var 0))),(6,(T false)),(9,(I 3)),(10,(.int .i64 (.var 0))),(12,(.ptr 0 (.lit 0))),(15,(.slice 1 (.lit 0) (.var 1) (.var 1))),(19,(.int .i64 (.var 2))),(20,(I 0))])
def k38 : AFrame := (frEntry Try.prog 4 2 [(2,(.bool (.var 0))),(6,(T false)),(9,(I 4)),(10,(.int .i64 (.var 0))),(12,(.ptr 0 (.lit 0))),(15,(.slice 1 (.lit 0) (.var 1) (.var 1))),(19,(.int .i64 (.var 2))),(20,(I 0))])
def k39 : AFrame := (frEntry Try.prog 4 2 [(2,(.bool (.var 0))),(6,(T false)),(9,(I 5)),(10,(.int .i64 (.var 0))),(12,(.ptr 0 (.lit 0))),(15,(.slice 1 (.lit 0) (.var 1) (.var 1))),(19,(.int .i64 (.var 2))),(20,(I 0))])
def k40 : AFrame := (frEntry Try.prog 4 2 [(2,(.bool (.var 0))),(6,(T false)),(9,(I 6)),(10,(.int .i64 (.var 0))),(12,(.ptr 0 (.lit 0))),(15,(.slice 1 (.lit 0) (.var 1) (.var 1))),(19,(.int .i64 (.var 2))),(20,(I 0))])
def b41 : AB := .cells [(.int .u64 (.var 4)),(.int .u64 (.var 5))] 35
def b42 : AB := .cells [(.iface 55 (.slice 2 (.lit 0) (.lit 2) (.lit 2))),(.int .i64 (.var 4))] 82
def b43 : AB := .cells [(.int .u64 (.var 5)),(.int .u64 (.var 6))] 35

end
end Go.Proofs.Ytkiodlgicjlbaaa.latchCounts
