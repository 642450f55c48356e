/- Configurations at the ends of loops (definitions alone) for the law CellsTell. -/
import Derived.Test.YtgfedkfokjobpaaChecked
import Derived.Test.YtgfedkfokjobpaaEv7
namespace Go.Proofs.Ytgfedkfokjobpaa.cellsTell
open Go Go.Ev
noncomputable section

def t0 : Tmpl :=
  { fr := (frLoop Try.prog 29 0 [(0, (.yieldF 0)), (1, (.ptr 1 (.lit 0))), (5, (.int .i64 (.var 0))), (6, (.int .i64 (.var 1)))])
    callers := [(frRange Try.prog 13 5 0 [(2, (.ptr 2 (.lit 0)))] [(.collected 3)]),
      (frAny Try.prog 3 8 [24, 29, 30, 31] [28, 27, 26, 25, 23, 22, 21, 20, 19, 18, 17, 16] [(1, (.ite (.var 0) (.slice 4 (.var 2) (.var 3) (.var 4)) (.ite (.var 1) .nilSlice (.empty true)))), (4, (T false)), (6, (.ptr 5 (.lit 0))), (7, (.ptr 6 (.lit 0))), (8, (.int .i64 (.var 5))), (40, (.ptr 5 (.lit 0))), (41, (.ite (.var 0) (.slice 4 (.var 2) (.var 3) (.var 4)) (.ite (.var 1) .nilSlice (.empty true)))), (42, (.int .i64 (.var 5))), (43, (.ptr 4 (.var 6))), (44, (.agg [(.int .u8 (.var 7)), (.int .i8 (.var 8)), (.int .u64 (.var 9)), (.int .u64 (.var 10))])), (45, (.int .u64 (.var 11))), (46, (.ptr 6 (.lit 0))), (47, (.ite (.var 0) (.slice 4 (.var 2) (.var 3) (.var 4)) (.ite (.var 1) .nilSlice (.empty true)))), (48, (.int .i64 (.var 5))), (49, (.ptr 4 (.var 6))), (50, (.agg [(.int .u8 (.var 7)), (.int .i8 (.var 8)), (.int .u64 (.var 9)), (.int .u64 (.var 10))])), (51, (.int .u64 (.var 11))), (52, (T false)), (53, (T false)), (54, (.ptr 5 (.lit 0))), (55, (.int .i64 (.var 12))), (56, (.ptr 6 (.lit 0))), (57, (.ptr 6 (.lit 0))), (58, (.ptr 6 (.lit 1))), (59, (.int .i64 (.var 12))), (60, (T false)), (61, (T false)), (62, (T false)), (63, (.ptr 5 (.lit 0))), (65, (.ptr 6 (.lit 0))), (66, (.ptr 6 (.lit 0))), (67, (.ptr 6 (.lit 0))), (68, (.slice 7 (.lit 0) (.var 0) (.var 0)))])]
    blocks := [(0, loopBlk Try.prog 13 5 .ready [(0, (.ptr 5 (.lit 0))), (1, (.tuple [])), (2, (.ptr 2 (.lit 0))), (3, (.tuple [])), (4, (.ptr 5 (.lit 0))), (5, (.func (.func 29) [] [(.ptr 1 (.lit 0))])), (6, (.tuple [])), (7, (.tuple [])), (8, (.tuple [])), (9, (.tuple [])), (10, (.tuple [])), (11, (.tuple []))] 3),
      (1, .cells [(.ptr 5 (.lit 0))] 23),
      (2, .cells [(.oslice 8 1 (.var 1))] 26),
      (3, .deferred (some [])),
      (4, .row (.ro (.var 2)) (.row 0) (.var 3) [(.int .u8), (.int .i8), (.int .u64), (.int .u64)] 35),
      (5, .cells [(.iface 46 (.slice 9 (.lit 0) (.var 0) (.var 0))), (.int .i64 (.var 12))] 55),
      (6, .cells [(.slice 7 (.lit 0) (.var 0) (.var 0)), (.int .i64 (.var 12))] 28),
      (7, .row .own (.row 1) (.var 0) [(.int .u64)] 31),
      (8, .row .opn (.row 1) (.var 1) [(.int .u64)] 31),
      (9, .row .own (.row 1) (.var 0) [(.int .u64)] 31)]
    groups := []
    next := 10 }

def u0 : Cut := { fn := 29, depth := 2, blk := 0, t := t0, ni := 13, nb := 2, nr := 3, key := [], sig := [[0], [3, 65, 70, 71, 72]], top := [2] }
def g0 : Ctx := { rng := [some (0, 100), some (0, 100), none, some (0, 9223372036854775807), some (0, 9223372036854775807), some (0, 79), none, some (0, 255), some ((-128), 127), some (0, 18446744073709551615), some (0, 18446744073709551615), some (0, 18446744073709551615), some ((-9223372036854775808), 9223372036854775807)], asm := [((.lss (.var 0) (.var 1)), false)] }
def m0 : Meas := { rank := 1, mv := some (5, 80), sub := 1, mv2 := some (1, 100) }

def t1 : Tmpl :=
  { fr := (frLoop Try.prog 3 0 [(1, (.ite (.var 0) (.slice 0 (.var 0) (.var 1) (.var 2)) (.ite (.var 1) .nilSlice (.empty true)))), (4, (T false)), (6, (.ptr 1 (.lit 0))), (7, (.ptr 2 (.lit 0))), (8, (.int .i64 (.var 3)))])
    callers := []
    blocks := [(1, .cells [(.iface 46 (.slice 3 (.lit 0) (.var 4) (.var 4))), (.int .i64 (.var 5))] 55),
      (2, .cells [(.slice 4 (.lit 0) (.var 4) (.var 4)), (.int .i64 (.var 5))] 28),
      (3, .row .own (.row 1) (.var 4) [(.int .u64)] 31),
      (4, .row .own (.row 1) (.var 4) [(.int .u64)] 31)]
    groups := [((.var 0), [(0, .row (.ro (.var 0)) (.row 0) (.var 1) [(.int .u8), (.int .i8), (.int .u64), (.int .u64)] 35)])]
    next := 5 }

def u1 : Cut := { fn := 3, depth := 0, blk := 0, t := t1, ni := 6, nb := 2, nr := 2, key := [], sig := [], top := [7] }
def g1 : Ctx := { rng := [none, some (0, 9223372036854775807), some (0, 9223372036854775807), some (0, 80), some (0, 100), some ((-9223372036854775808), 9223372036854775807)], asm := [] }
def m1 : Meas := { rank := 1, mv := some (3, 80), sub := 2, mv2 := none }

def t2 : Tmpl :=
  { fr := (frLoop Try.prog 12 0 [(0, (.oslice 0 1 (.var 0))), (1, (.slice 1 (.lit 0) (.var 1) (.var 1))), (4, (T false)), (5, (.int .i64 (.var 2)))])
    callers := [(frAny Try.prog 3 8 [29, 30, 31] [28, 27, 26, 25] [(1, (.ite (.var 0) (.slice 2 (.var 3) (.var 4) (.var 5)) (.ite (.var 1) .nilSlice (.empty true)))), (4, (T false)), (6, (.ptr 3 (.lit 0))), (7, (.ptr 4 (.lit 0))), (8, (.int .i64 (.var 6))), (40, (.ptr 3 (.lit 0))), (41, (.ite (.var 0) (.slice 2 (.var 3) (.var 4) (.var 5)) (.ite (.var 1) .nilSlice (.empty true)))), (42, (.int .i64 (.var 6))), (43, (.ptr 2 (.var 7))), (44, (.agg [(.int .u8 (.var 8)), (.int .i8 (.var 9)), (.int .u64 (.var 10)), (.int .u64 (.var 11))])), (45, (.int .u64 (.var 12))), (46, (.ptr 4 (.lit 0))), (47, (.ite (.var 0) (.slice 2 (.var 3) (.var 4) (.var 5)) (.ite (.var 1) .nilSlice (.empty true)))), (48, (.int .i64 (.var 6))), (49, (.ptr 2 (.var 7))), (50, (.agg [(.int .u8 (.var 8)), (.int .i8 (.var 9)), (.int .u64 (.var 10)), (.int .u64 (.var 11))])), (51, (.int .u64 (.var 12))), (52, (T false)), (53, (T false)), (54, (.ptr 3 (.lit 0))), (55, (.int .i64 (.var 13))), (56, (.ptr 4 (.lit 0))), (57, (.ptr 4 (.lit 0))), (58, (.ptr 4 (.lit 1))), (59, (.int .i64 (.var 13))), (60, (T false)), (61, (T false)), (62, (T false)), (63, (.ptr 3 (.lit 0))), (64, (.oslice 0 1 (.var 0))), (65, (.ptr 4 (.lit 0))), (66, (.ptr 4 (.lit 0))), (67, (.ptr 4 (.lit 0))), (68, (.slice 1 (.lit 0) (.var 1) (.var 1)))])]
    blocks := [(0, .row .opn (.row 0) (.var 0) [(.int .u64)] 31),
      (1, .row .own (.row 0) (.var 1) [(.int .u64)] 31),
      (2, .row (.ro (.var 3)) (.row 1) (.var 4) [(.int .u8), (.int .i8), (.int .u64), (.int .u64)] 35),
      (3, .cells [(.iface 46 (.slice 5 (.lit 0) (.var 1) (.var 1))), (.int .i64 (.var 13))] 55),
      (4, .cells [(.slice 1 (.lit 0) (.var 1) (.var 1)), (.int .i64 (.var 13))] 28),
      (5, .row .own (.row 0) (.var 1) [(.int .u64)] 31)]
    groups := []
    next := 6 }

def u2 : Cut := { fn := 12, depth := 1, blk := 0, t := t2, ni := 14, nb := 2, nr := 2, key := [], sig := [[3, 70, 71, 72]], top := [5] }
def g2 : Ctx := { rng := [some (0, 100), some (0, 100), some (0, 100), none, some (0, 9223372036854775807), some (0, 9223372036854775807), some (0, 79), none, some (0, 255), some ((-128), 127), some (0, 18446744073709551615), some (0, 18446744073709551615), some (0, 18446744073709551615), some ((-9223372036854775808), 9223372036854775807)], asm := [((.lss (.var 1) (.var 0)), false)] }
def m2 : Meas := { rank := 1, mv := some (6, 80), sub := 0, mv2 := some (2, 100) }

end
end Go.Proofs.Ytgfedkfokjobpaa.cellsTell
