/- Configurations at the ends of loops (definitions alone) for the law CellsKeep. -/
import Derived.Test.YtgfedkfokjobpaaChecked
import Derived.Test.YtgfedkfokjobpaaEv7
namespace Go.Proofs.Ytgfedkfokjobpaa.cellsKeep
open Go Go.Ev
noncomputable section

def t0 : Tmpl :=
  { fr := (frLoop Try.prog 4 0 [(0, (.ite (.var 0) (.slice 0 (.var 0) (.var 1) (.var 2)) (.ite (.var 1) .nilSlice (.empty true)))), (2, (T false)), (3, (.ptr 1 (.lit 0))), (4, (.int .i64 (.var 3)))])
    callers := []
    blocks := [(1, .cells [(.iface 46 (.slice 2 (.lit 0) (.lit 20) (.lit 20))), (.int .i64 (.var 4))] 55),
      (2, .cells [(.int .u64 (.var 5)), (.int .u64 (.var 6)), (.int .u64 (.var 7)), (.int .u64 (.var 8)), (.int .u64 (.var 9)), (.int .u64 (.var 10)), (.int .u64 (.var 11)), (.int .u64 (.var 12)), (.int .u64 (.var 13)), (.int .u64 (.var 14)), (.int .u64 (.var 15)), (.int .u64 (.var 16)), (.int .u64 (.var 17)), (.int .u64 (.var 18)), (.int .u64 (.var 19)), (.int .u64 (.var 20)), (.int .u64 (.var 21)), (.int .u64 (.var 22)), (.int .u64 (.var 23)), (.int .u64 (.var 24))] 31)]
    groups := [((.var 0), [(0, .row (.ro (.var 0)) (.row 0) (.var 1) [(.int .u8), (.int .i8), (.int .u64), (.int .u64)] 35)])]
    next := 3 }

def u0 : Cut := { fn := 4, depth := 0, blk := 0, t := t0, ni := 25, nb := 2, nr := 1, key := [], sig := [], top := [6] }
def g0 : Ctx := { rng := [none, some (0, 9223372036854775807), some (0, 9223372036854775807), some (0, 80), some ((-9223372036854775808), 9223372036854775807), some (0, 18446744073709551615), some (0, 18446744073709551615), some (0, 18446744073709551615), some (0, 18446744073709551615), some (0, 18446744073709551615), some (0, 18446744073709551615), some (0, 18446744073709551615), some (0, 18446744073709551615), some (0, 18446744073709551615), some (0, 18446744073709551615), some (0, 18446744073709551615), some (0, 18446744073709551615), some (0, 18446744073709551615), some (0, 18446744073709551615), some (0, 18446744073709551615), some (0, 18446744073709551615), some (0, 18446744073709551615), some (0, 18446744073709551615), some (0, 18446744073709551615), some (0, 18446744073709551615)], asm := [] }

end
end Go.Proofs.Ytgfedkfokjobpaa.cellsKeep
