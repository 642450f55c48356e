/- Configurations at the ends of loops (definitions alone) for the law HeapTells. -/
import Derived.Test.YtggopkafjclclaaHeapTellsPlan0
namespace Go.Proofs.Ytggopkafjclclaa.heapTells
open Go Go.Ev
noncomputable section

def t0 : Tmpl :=
  { fr := (frLoop Try.prog 4 6 [(1, (.ite (.var 0) (.slice 0 (.var 0) (.var 1) (.var 2)) (.ite (.var 1) .nilSlice (.empty true)))), (4, (T false)), (5, (.int .i64 (.var 3))), (6, (.ptr 1 (.lit 0))), (7, (.ptr 2 (.lit 0))), (8, (.int .i64 (.var 4))), (9, (.int .i64 (.var 5))), (14, (.int .i64 (.var 6))), (15, (.int .i64 (.var 7)))])
    callers := []
    blocks := [(1, b0),
      (2, .cells [(.int .i64 (.var 3)), (.int .i64 (.var 8)), (.slice 4 (.lit 0) (.mul (.var 3) (.lit 8)) (.mul (.var 3) (.lit 8)))] 47),
      (3, b1),
      (4, b2),
      (5, .row .own (.upd (.row 2) (.lit 0) (.var 9)) (.add (.mul (.var 3) (.lit 8)) (.lit 1)) [(.int .u64)] 63)]
    groups := [((.var 0), [(0, .row (.ro (.var 0)) (.row 0) (.var 1) [(.int .u8), (.int .i8), (.int .i8), (.int .i64)] 43)])]
    next := 6 }

def u0 : Cut := { fn := 4, depth := 0, blk := 6, t := t0, ni := 10, nb := 2, nr := 3, key := [], sig := [], top := [24], fs := [((.iff (.eql (.var 8) (.var 3)) (.lss (.var 9) (.var 3))), false), ((.iff (.eql (.var 8) (.var 9)) (.lss (.var 3) (.var 9))), false), ((.lss (.var 3) (.var 8)), false), ((.lss (.var 9) (.var 8)), false), ((.lss (.add (.var 3) (.lit (-1))) (.var 6)), false), ((.lss (.add (.var 5) (.lit 1)) (.var 9)), false)] }
def g0 : Ctx := { rng := [none, some (0, 9223372036854775807), some (0, 9223372036854775807), some (1, 20), some ((-9223372036854775808), 9223372036854775807), some (0, 59), some (0, 19), some (0, 8), some (0, 20), some (0, 60)], asm := [((.iff (.eql (.var 8) (.var 3)) (.lss (.var 9) (.var 3))), false), ((.iff (.eql (.var 8) (.var 9)) (.lss (.var 3) (.var 9))), false), ((.lss (.var 3) (.var 8)), false), ((.lss (.var 9) (.var 8)), false), ((.lss (.add (.var 3) (.lit (-1))) (.var 6)), false), ((.lss (.add (.var 5) (.lit 1)) (.var 9)), false)] }
def m0 : Meas := { rank := 1, mv := some (5, 60), sub1 := 0, mw := some (6, 20), sub := 0, mv2 := some (7, 8) }

def t1 : Tmpl :=
  { fr := (frLoop Try.prog 4 4 [(1, (.ite (.var 0) (.slice 0 (.var 0) (.var 1) (.var 2)) (.ite (.var 1) .nilSlice (.empty true)))), (4, (T false)), (5, (.int .i64 (.var 3))), (6, (.ptr 1 (.lit 0))), (7, (.ptr 2 (.lit 0))), (8, (.int .i64 (.var 4))), (9, (.int .i64 (.var 5))), (14, (.int .i64 (.var 6)))])
    callers := []
    blocks := [(1, b0),
      (2, .cells [(.int .i64 (.var 3)), (.int .i64 (.var 7)), (.slice 4 (.lit 0) (.mul (.var 3) (.lit 8)) (.mul (.var 3) (.lit 8)))] 47),
      (3, b1),
      (4, b2),
      (5, .row .own (.upd (.row 2) (.lit 0) (.var 8)) (.add (.mul (.var 3) (.lit 8)) (.lit 1)) [(.int .u64)] 63)]
    groups := [((.var 0), [(0, .row (.ro (.var 0)) (.row 0) (.var 1) [(.int .u8), (.int .i8), (.int .i8), (.int .i64)] 43)])]
    next := 6 }

def u1 : Cut := { fn := 4, depth := 0, blk := 4, t := t1, ni := 9, nb := 2, nr := 3, key := [], sig := [], top := [21], fs := [((.iff (.eql (.var 7) (.var 3)) (.lss (.var 8) (.var 3))), false), ((.iff (.eql (.var 7) (.var 8)) (.lss (.var 3) (.var 8))), false), ((.lss (.var 3) (.var 7)), false), ((.lss (.var 8) (.var 7)), false), ((.lss (.var 3) (.var 6)), false), ((.lss (.add (.var 5) (.lit 1)) (.var 8)), false)] }
def g1 : Ctx := { rng := [none, some (0, 9223372036854775807), some (0, 9223372036854775807), some (1, 20), some ((-9223372036854775808), 9223372036854775807), some (0, 59), some (0, 20), some (0, 20), some (0, 60)], asm := [((.iff (.eql (.var 7) (.var 3)) (.lss (.var 8) (.var 3))), false), ((.iff (.eql (.var 7) (.var 8)) (.lss (.var 3) (.var 8))), false), ((.lss (.var 3) (.var 7)), false), ((.lss (.var 8) (.var 7)), false), ((.lss (.var 3) (.var 6)), false), ((.lss (.add (.var 5) (.lit 1)) (.var 8)), false)] }
def m1 : Meas := { rank := 1, mv := some (5, 60), sub1 := 0, mw := some (6, 20), sub := 1, mv2 := none }

def t2 : Tmpl :=
  { fr := (frLoop Try.prog 4 0 [(1, (.ite (.var 0) (.slice 0 (.var 0) (.var 1) (.var 2)) (.ite (.var 1) .nilSlice (.empty true)))), (4, (T false)), (5, (.int .i64 (.var 3))), (6, (.ptr 1 (.lit 0))), (7, (.ptr 2 (.lit 0))), (8, (.int .i64 (.var 4))), (9, (.int .i64 (.var 5)))])
    callers := []
    blocks := [(1, b0),
      (2, .cells [(.int .i64 (.var 3)), (.int .i64 (.var 6)), (.slice 4 (.lit 0) (.mul (.var 3) (.lit 8)) (.mul (.var 3) (.lit 8)))] 47),
      (3, b1),
      (4, b2),
      (5, .row .own (.upd (.row 2) (.lit 0) (.var 7)) (.add (.mul (.var 3) (.lit 8)) (.lit 1)) [(.int .u64)] 63)]
    groups := [((.var 0), [(0, .row (.ro (.var 0)) (.row 0) (.var 1) [(.int .u8), (.int .i8), (.int .i8), (.int .i64)] 43)])]
    next := 6 }

def u2 : Cut := { fn := 4, depth := 0, blk := 0, t := t2, ni := 8, nb := 2, nr := 3, key := [], sig := [], top := [8], fs := [((.iff (.eql (.var 6) (.var 3)) (.lss (.var 7) (.var 3))), false), ((.iff (.eql (.var 6) (.var 7)) (.lss (.var 3) (.var 7))), false), ((.lss (.var 3) (.var 6)), false), ((.lss (.var 7) (.var 6)), false), ((.lss (.var 5) (.var 7)), false)] }
def g2 : Ctx := { rng := [none, some (0, 9223372036854775807), some (0, 9223372036854775807), some (1, 20), some ((-9223372036854775808), 9223372036854775807), some (0, 60), some (0, 20), some (0, 60)], asm := [((.iff (.eql (.var 6) (.var 3)) (.lss (.var 7) (.var 3))), false), ((.iff (.eql (.var 6) (.var 7)) (.lss (.var 3) (.var 7))), false), ((.lss (.var 3) (.var 6)), false), ((.lss (.var 7) (.var 6)), false), ((.lss (.var 5) (.var 7)), false)] }
def m2 : Meas := { rank := 1, mv := some (5, 60), sub1 := 1, mw := none, sub := 0, mv2 := none }

end
end Go.Proofs.Ytggopkafjclclaa.heapTells
