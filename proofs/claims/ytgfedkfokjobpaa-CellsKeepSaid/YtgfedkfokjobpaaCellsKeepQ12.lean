/- Parts of the plan for the law CellsKeep: each is one kernel run. -/
import Derived.Test.YtgfedkfokjobpaaCellsKeepPlan
namespace Go.Proofs.Ytgfedkfokjobpaa.cellsKeep
open Go Go.Ev
noncomputable section

def d0bba : List (List (SB × Bool) × Leaf) := [
  ([h72, h24, h11, h10, h9, h48, h7, h0], .cut 0 [(.var 0), (.var 1), (.var 2), (.add (.var 3) (.lit 1)), (.wrap .i64 (.add (.var 4) (.lit 1))), (.var 5), (.var 6), (.var 7), (.var 8), (.var 9), (.var 10), (.var 11), (.var 12), (.var 13), (.var 14), (.var 15), (.var 16), (.var 17), (.var 18), (.var 19), (.var 20), (.var 21), (.var 22), (.var 23), (.var 24)] [(.var 0), (.var 1)] [(.row 0)]),
  ([((.eql (.sel .i8 (.row 0) (.add (.mul (.var 3) (.lit 4)) (.lit 1))) (.lit 15)), true), h57, h24, h11, h10, h9, h48, h7, h0], .cut 0 [(.var 0), (.var 1), (.var 2), (.add (.var 3) (.lit 1)), (.wrap .i64 (.add (.var 4) (.lit 1))), (.var 5), (.var 6), (.var 7), (.var 8), (.var 9), (.var 10), (.var 11), (.var 12), (.var 13), (.var 14), (.var 15), (.var 16), (.var 17), (.var 18), (.var 19), (.var 20), (.var 21), (.var 22), (.var 23), (.var 24)] [(.var 0), (.var 1)] [(.row 0)]),
  ([h73, h85, h57, h24, h11, h10, h9, h48, h7, h0], .cut 0 [(.var 0), (.var 1), (.var 2), (.add (.var 3) (.lit 1)), (.wrap .i64 (.add (.var 4) (.lit 1))), (.var 5), (.var 6), (.var 7), (.var 8), (.var 9), (.var 10), (.var 11), (.var 12), (.var 13), (.var 14), (.var 15), (.var 16), (.var 17), (.var 18), (.var 19), (.var 20), (.var 21), (.var 22), (.var 23), (.var 24)] [(.var 0), (.var 1)] [(.row 0)]),
  ([h74, h35, h85, h57, h24, h11, h10, h9, h48, h7, h0], .cut 0 [(.var 0), (.var 1), (.var 2), (.add (.var 3) (.lit 1)), (.wrap .i64 (.add (.var 4) (.lit 1))), (.var 5), (.var 6), (.var 7), (.var 8), (.var 9), (.var 10), (.var 11), (.var 12), (.var 13), (.var 14), (.var 15), (.var 16), (.var 17), (.var 18), (.var 19), (.var 20), (.var 21), (.var 22), (.var 23), (.var 24)] [(.var 0), (.var 1)] [(.row 0)]),
  ([h75, h50, h35, h85, h57, h24, h11, h10, h9, h48, h7, h0], .cut 0 [(.var 0), (.var 1), (.var 2), (.add (.var 3) (.lit 1)), (.wrap .i64 (.add (.var 4) (.lit 1))), (.var 5), (.var 6), (.var 7), (.var 8), (.var 9), (.var 10), (.var 11), (.var 12), (.var 13), (.var 14), (.var 15), (.var 16), (.var 17), (.var 18), (.var 19), (.var 20), (.var 21), (.var 22), (.var 23), (.var 24)] [(.var 0), (.var 1)] [(.row 0)]),
  ([h66, h50, h35, h85, h57, h24, h11, h10, h9, h48, h7, h0], .cut 0 [(.var 0), (.var 1), (.var 2), (.add (.var 3) (.lit 1)), (.wrap .i64 (.add (.var 4) (.lit 1))), (.var 5), (.var 6), (.var 7), (.var 8), (.var 9), (.var 10), (.var 11), (.var 12), (.var 13), (.var 14), (.var 15), (.var 16), (.var 17), (.var 18), (.var 19), (.var 20), (.var 21), (.var 22), (.var 23), (.var 24)] [(.var 0), (.var 1)] [(.row 0)]),
  ([h86, h11, h10, h9, h48, h7, h0], .cut 0 [(.var 0), (.var 1), (.var 2), (.add (.var 3) (.lit 1)), (.var 4), (.var 5), (.var 6), (.var 7), (.var 8), (.var 9), (.var 10), (.var 11), (.var 12), (.var 13), (.var 14), (.var 15), (.var 16), (.var 17), (.var 18), (.var 19), (.var 20), (.var 21), (.var 22), (.var 23), (.var 24)] [(.var 0), (.var 1)] [(.row 0)]),
  ([h111, h10, h9, h48, h7, h0], .fin (.lit true)),
  ([h113, h9, h48, h7, h0], .fin (.lit true)),
  ([h114, h84, h48, h7, h0], .fin (.lit true)),
  ([h110, h84, h48, h7, h0], .fin (.lit true))]
theorem q0bba : PartOK Try.prog cuts 1 (some (3, 80)) true { rng := g0.rng, asm := [h48, h7, h0] } t0.cfg := ⟨1000000, d0bba, by kernel_rfl, by kernel_rfl⟩


end
end Go.Proofs.Ytgfedkfokjobpaa.cellsKeep
