/- Configurations at the ends of loops (definitions alone) for the law HeapFields. -/
import Derived.Test.YtggopkafjclclaaHeapFieldsPlan0
namespace Go.Proofs.Ytggopkafjclclaa.heapFields
open Go Go.Ev
noncomputable section

def t0 : Tmpl := { fr := (frLoop Try.prog 5 2 [(4, (T false)), (5, (.ptr 0 (.lit 0))), (13, (.int .i64 (.var 0))), (14, (.int .i64 (.var 1))), (15, (.int .i64 (.var 2)))]), callers := [], blocks := [(0, .cells [(.ptr 1 (.lit 0)), (I 20)] 59), (1, b0), (2, .row .own (.upd (.upd (.con 0) (.var 3) (.var 4)) (.var 5) (.var 6)) (.lit 161) [(.int .u64)] 63)], groups := [], next := 3 }

def u0 : Cut := { fn := 5, depth := 0, blk := 2, t := t0, ni := 7, nb := 0, nr := 0, sig := [], top := [22], fs := [((.lss (.add (.mul (.var 1) (.lit 8)) (.var 2)) (.var 0)), false)] }
def g0 : Ctx := { rng := [some (0, 1000), some (0, 19), some (0, 8), some (1, 160), some (0, 18446744073709551615), some (1, 160), some (0, 18446744073709551615)], asm := [((.lss (.add (.mul (.var 1) (.lit 8)) (.var 2)) (.var 0)), false)] }
def m0 : Meas := { rank := 1, mv := some (1, 20), sub1 := 0, mw := none, sub := 0, mv2 := some (2, 8) }

def t1 : Tmpl := { fr := (frLoop Try.prog 5 0 [(4, (T false)), (5, (.ptr 0 (.lit 0))), (13, (.int .i64 (.var 0))), (14, (.int .i64 (.var 1)))]), callers := [], blocks := [(0, .cells [(.ptr 1 (.lit 0)), (I 20)] 59), (1, b0), (2, .row .own (.upd (.upd (.con 0) (.var 2) (.var 3)) (.var 4) (.var 5)) (.lit 161) [(.int .u64)] 63)], groups := [], next := 3 }

def u1 : Cut := { fn := 5, depth := 0, blk := 0, t := t1, ni := 6, nb := 0, nr := 0, sig := [], top := [19], fs := [((.lss (.mul (.var 1) (.lit 8)) (.var 0)), false)] }
def g1 : Ctx := { rng := [some (0, 1000), some (0, 20), some (1, 160), some (0, 18446744073709551615), some (1, 160), some (0, 18446744073709551615)], asm := [((.lss (.mul (.var 1) (.lit 8)) (.var 0)), false)] }
def m1 : Meas := { rank := 1, mv := some (1, 20), sub1 := 1, mw := none, sub := 0, mv2 := none }

end
end Go.Proofs.Ytggopkafjclclaa.heapFields
