/- Configurations at the ends of loops (definitions alone) for the law GroundLogs. -/
import Derived.Test.YtndjepdfgegdkaaGroundLogsPlan0
namespace Go.Proofs.Ytndjepdfgegdkaa.groundLogs
open Go Go.Ev
noncomputable section

def t0 : Tmpl := { fr := (frLoop Try.prog 32 0 [(2, (U 49)), (3, (T true)), (4, (.ptr 0 (.lit 0))), (16, (.agg [(I 0), (I 3), (I 3), (I 24), (I 27), (I 15), (I 42), (I 8)])), (17, (I 4))]), callers := [(frSeq Try.prog 20 8 1 [(0, (U 49)), (2, (.ptr 1 (.lit 0))), (3, (T false)), (6, (.ptr 2 (.lit 0))), (46, (.agg [(I 1), (I 0), (I 0), (I 0), (I 0), (I 6)]))]), (frSeq Try.prog 11 3 8 [(4, (.ptr 3 (.lit 0))), (29, (U 49))]), (frSeq Try.prog 4 5 1 [(0, (T false)), (1, (.ptr 4 (.lit 0))), (2, (.ptr 5 (.lit 0))), (3, (T true)), (17, (.ptr 4 (.lit 0)))]), (frSeq Try.prog 3 1 0 [(0, (.ite (.var 0) (.slice 6 (.var 0) (.var 1) (.var 2)) (.ite (.var 1) .nilSlice (.empty true)))), (2, (T false))])], blocks := [(0, .cells [(I 1), (I 6), (I 0), (I 0)] 119), (1, .cells (Is [0,0,0,0,0,0]) 54), (2, .cells (Is [1,0,0,0,0,6]) 54), (3, .cells (Is [0,0,0,0,0,0]) 54), (4, .cells [(I 2), (I 2), (I 1), (.ptr 7 (.lit 0)), (.ptr 8 (.lit 0)), (.int .i32 (.lit 0)), (.int .u32 (.lit 0)), .nilSlice] 38), (5, .cells (Is [0,0,0,0,0,5]) 54), (7, .cells [(.iface 107 (.slice 9 (.lit 0) (.lit 24) (.lit 24))), (I 6)] 71), (8, .cells [(.slice 10 (.lit 0) (.lit 2) (.lit 2))] 126), (9, b0), (10, .cells [(.chan 11), (.chan 12)] 127), (11, .chan 1 []), (12, .chan 1 [])], groups := [((.var 0), [(6, .row (.ro (.var 0)) (.row 0) (.var 1) [(.int .i64), (.int .i64), (.int .i64), (.int .i64), (.int .i64), (.int .i64), (.int .i64), (.int .i64)] 44)])], next := 13 }

def u0 : Cut := { fn := 32, depth := 4, blk := 0, t := t0, ni := 3, nb := 2, nr := 1, sig := [[2, 1, 48], [2, 8, 31], [2, 1, 19], [2, 0, 14]], top := [6], fs := [((.lss (.var 2) (.var 1)), false)] }
def g0 : Ctx := { rng := [none, some (0, 9223372036854775807), some (0, 9223372036854775807)], asm := [((.lss (.var 2) (.var 1)), false)] }

def t1 : Tmpl := { fr := (frLoop Try.prog 3 3 [(0, (.slice 0 (.var 0) (.var 1) (.var 2))), (2, (T false)), (3, (.ptr 1 (.lit 0))), (4, (I 6)), (5, (.int .i64 (.var 3))), (7, (.oslice 2 8 (.add (.var 3) (.lit 1)))), (8, (.int .i64 (.var 4)))]), callers := [], blocks := [(0, .row (.ro (.var 0)) (.row 0) (.var 5) [(.int .i64), (.int .i64), (.int .i64), (.int .i64), (.int .i64), (.int .i64), (.int .i64), (.int .i64)] 44), (1, .cells [(I 2), (I 2), (I 1), (.ptr 3 (.lit 0)), (.ptr 4 (.lit 0)), (.int .i32 (.lit 0)), (.int .u32 (.lit 0)), (.oslice 5 8 (.add (.var 3) (.lit 1)))] 38), (2, .row .opn (.row 1) (.add (.var 3) (.lit 1)) [(.int .i64), (.int .i64), (.int .i64), (.int .i64), (.int .i64), (.int .i64), (.int .i64), (.int .i64)] 44), (3, b1), (4, .cells [(.slice 7 (.lit 0) (.lit 2) (.lit 2))] 126), (5, .row .opn (.row 2) (.add (.var 3) (.lit 1)) [(.int .i64), (.int .i64), (.int .i64), (.int .i64), (.int .i64), (.int .i64), (.int .i64), (.int .i64)] 44), (6, b0), (7, .cells [(.chan 8), (.chan 9)] 127), (8, .chan 1 []), (9, .chan 1 [])], groups := [], next := 10 }

def u1 : Cut := { fn := 3, depth := 0, blk := 3, t := t1, ni := 6, nb := 0, nr := 3, sig := [], top := [21], fs := [((.lss (.add (.var 1) (.lit (-1))) (.var 3)), false), ((.lss (.add (.var 3) (.lit 1)) (.var 4)), false), ((.lss (.var 5) (.var 1)), false)] }
def g1 : Ctx := { rng := [none, some (0, 60), some (0, 9223372036854775807), some (0, 60), some (0, 61), some (0, 9223372036854775807)], asm := [((.lss (.add (.var 1) (.lit (-1))) (.var 3)), false), ((.lss (.add (.var 3) (.lit 1)) (.var 4)), false), ((.lss (.var 5) (.var 1)), false)] }
def m1 : Meas := { rank := 2, mv := some (3, 60), sub1 := 0, mw := none, sub := 0, mv2 := some (4, 61) }

def t2 : Tmpl := { fr := (frLoop Try.prog 3 0 [(0, (.slice 0 (.var 0) (.var 1) (.var 2))), (2, (T false)), (3, (.ptr 1 (.lit 0))), (4, (I 6)), (5, (.int .i64 (.var 3)))]), callers := [], blocks := [(0, b2), (1, .cells [(I 2), (I 2), (I 1), (.ptr 2 (.lit 0)), (.ptr 3 (.lit 0)), (.int .i32 (.lit 0)), (.int .u32 (.lit 0)), (.oslice 4 8 (.var 3))] 38), (2, .cells [(.iface 107 (.slice 5 (.lit 0) (.lit 24) (.lit 24))), (I 6)] 71), (3, .cells [(.slice 6 (.lit 0) (.lit 2) (.lit 2))] 126), (4, .row .opn (.row 1) (.var 3) [(.int .i64), (.int .i64), (.int .i64), (.int .i64), (.int .i64), (.int .i64), (.int .i64), (.int .i64)] 44), (5, b0), (6, .cells [(.chan 7), (.chan 8)] 127), (7, .chan 1 []), (8, .chan 1 [])], groups := [], next := 9 }

def u2 : Cut := { fn := 3, depth := 0, blk := 0, t := t2, ni := 5, nb := 0, nr := 2, sig := [], top := [8], fs := [((.lss (.var 1) (.var 3)), false), ((.lss (.var 4) (.var 1)), false)] }
def g2 : Ctx := { rng := [none, some (0, 60), some (0, 9223372036854775807), some (0, 60), some (0, 9223372036854775807)], asm := [((.lss (.var 1) (.var 3)), false), ((.lss (.var 4) (.var 1)), false)] }
def m2 : Meas := { rank := 2, mv := some (3, 60), sub1 := 1, mw := none, sub := 0, mv2 := none }

def t3 : Tmpl := { fr := (frLoop Try.prog 3 5 [(0, (.slice 0 (.var 0) (.var 1) (.var 2))), (2, (T false)), (3, (.ptr 1 (.lit 0))), (4, (I 6)), (9, (.oslice 2 8 (.var 1))), (10, (.int .i64 (.var 3)))]), callers := [], blocks := [(0, b2), (1, .cells [(I 2), (I 2), (I 1), (.ptr 3 (.lit 0)), (.ptr 4 (.lit 0)), (.int .i32 (.lit 0)), (.int .u32 (.lit 0)), (.oslice 5 8 (.var 1))] 38), (2, b3), (3, b1), (4, .cells [(.slice 7 (.lit 0) (.lit 2) (.lit 2))] 126), (5, b3), (6, b0), (7, .cells [(.chan 8), (.chan 9)] 127), (8, .chan 1 []), (9, .chan 1 [])], groups := [], next := 10 }

def u3 : Cut := { fn := 3, depth := 0, blk := 5, t := t3, ni := 5, nb := 0, nr := 2, sig := [], top := [26], fs := [((.lss (.var 1) (.var 3)), false), ((.lss (.var 4) (.var 1)), false)] }
def m3 : Meas := { rank := 1, mv := some (3, 60), sub1 := 0, mw := none, sub := 0, mv2 := none }

end
end Go.Proofs.Ytndjepdfgegdkaa.groundLogs
