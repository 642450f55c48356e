/- Parts of the plan for the law CellsKeep: each is one kernel run. -/
import Derived.Test.YtgfedkfokjobpaaCellsKeepPlan
namespace Go.Proofs.Ytgfedkfokjobpaa.cellsKeep
open Go Go.Ev
noncomputable section

def d0bbba : List (List (SB × Bool) × Leaf) := [
  ([h72, h25, h11, h10, h9, h47, h14, h7, h0], .cut 0 [(.var 0), (.var 1), (.var 2), (.add (.var 3) (.lit 1)), (.wrap .i64 (.add (.var 4) (.lit 1))), (.var 5), (.var 6), (.var 7), (.var 8), (.var 9), (.var 10), (.var 11), (.var 12), (.var 13), (.var 14), (.var 15), (.var 16), (.var 17), (.var 18), (.sel .u64 (.row 0) (.add (.mul (.var 3) (.lit 4)) (.lit 2))), (.var 20), (.var 21), (.var 22), (.var 23), (.var 24)] [(.var 0), (.var 1)] [(.row 0)]),
  ([h57, h25, h11, h10, h9, h47, h14, h7, h0], .cut 0 [(.var 0), (.var 1), (.var 2), (.add (.var 3) (.lit 1)), (.wrap .i64 (.add (.var 4) (.lit 1))), (.var 5), (.var 6), (.var 7), (.var 8), (.var 9), (.var 10), (.var 11), (.var 12), (.var 13), (.var 14), (.var 15), (.var 16), (.var 17), (.var 18), (.var 19), (.sel .u64 (.row 0) (.add (.mul (.var 3) (.lit 4)) (.lit 2))), (.var 21), (.var 22), (.var 23), (.var 24)] [(.var 0), (.var 1)] [(.row 0)]),
  ([((.eql (.var 19) (.sel .u64 (.row 0) (.add (.mul (.var 3) (.lit 4)) (.lit 2)))), true), h72, h12, h1, h11, h10, h9, h47, h14, h7, h0], .cut 0 [(.var 0), (.var 1), (.var 2), (.add (.var 3) (.lit 1)), (.wrap .i64 (.add (.var 4) (.lit 1))), (.var 5), (.var 6), (.var 7), (.var 8), (.var 9), (.var 10), (.var 11), (.var 12), (.var 13), (.var 14), (.var 15), (.var 16), (.var 17), (.var 18), (.sel .u64 (.row 0) (.add (.mul (.var 3) (.lit 4)) (.lit 3))), (.var 20), (.var 21), (.var 22), (.var 23), (.var 24)] [(.var 0), (.var 1)] [(.row 0)]),
  ([((.eql (.var 19) (.sel .u64 (.row 0) (.add (.mul (.var 3) (.lit 4)) (.lit 2)))), false), h72, h12, h1, h11, h10, h9, h47, h14, h7, h0], .cut 0 [(.var 0), (.var 1), (.var 2), (.add (.var 3) (.lit 1)), (.wrap .i64 (.add (.var 4) (.lit 1))), (.var 5), (.var 6), (.var 7), (.var 8), (.var 9), (.var 10), (.var 11), (.var 12), (.var 13), (.var 14), (.var 15), (.var 16), (.var 17), (.var 18), (.var 19), (.var 20), (.var 21), (.var 22), (.var 23), (.var 24)] [(.var 0), (.var 1)] [(.row 0)]),
  ([((.eql (.var 20) (.sel .u64 (.row 0) (.add (.mul (.var 3) (.lit 4)) (.lit 2)))), true), h57, h12, h1, h11, h10, h9, h47, h14, h7, h0], .cut 0 [(.var 0), (.var 1), (.var 2), (.add (.var 3) (.lit 1)), (.wrap .i64 (.add (.var 4) (.lit 1))), (.var 5), (.var 6), (.var 7), (.var 8), (.var 9), (.var 10), (.var 11), (.var 12), (.var 13), (.var 14), (.var 15), (.var 16), (.var 17), (.var 18), (.var 19), (.sel .u64 (.row 0) (.add (.mul (.var 3) (.lit 4)) (.lit 3))), (.var 21), (.var 22), (.var 23), (.var 24)] [(.var 0), (.var 1)] [(.row 0)]),
  ([((.eql (.var 20) (.sel .u64 (.row 0) (.add (.mul (.var 3) (.lit 4)) (.lit 2)))), false), h57, h12, h1, h11, h10, h9, h47, h14, h7, h0], .cut 0 [(.var 0), (.var 1), (.var 2), (.add (.var 3) (.lit 1)), (.wrap .i64 (.add (.var 4) (.lit 1))), (.var 5), (.var 6), (.var 7), (.var 8), (.var 9), (.var 10), (.var 11), (.var 12), (.var 13), (.var 14), (.var 15), (.var 16), (.var 17), (.var 18), (.var 19), (.var 20), (.var 21), (.var 22), (.var 23), (.var 24)] [(.var 0), (.var 1)] [(.row 0)]),
  ([h72, h23, h1, h11, h10, h9, h47, h14, h7, h0], .cut 0 [(.var 0), (.var 1), (.var 2), (.add (.var 3) (.lit 1)), (.wrap .i64 (.add (.var 4) (.lit 1))), (.var 5), (.var 6), (.var 7), (.var 8), (.var 9), (.var 10), (.var 11), (.var 12), (.var 13), (.var 14), (.var 15), (.var 16), (.var 17), (.var 18), (.wrap .u64 (.add (.var 19) (.sel .u64 (.row 0) (.add (.mul (.var 3) (.lit 4)) (.lit 2))))), (.var 20), (.var 21), (.var 22), (.var 23), (.var 24)] [(.var 0), (.var 1)] [(.row 0)]),
  ([h57, h23, h1, h11, h10, h9, h47, h14, h7, h0], .cut 0 [(.var 0), (.var 1), (.var 2), (.add (.var 3) (.lit 1)), (.wrap .i64 (.add (.var 4) (.lit 1))), (.var 5), (.var 6), (.var 7), (.var 8), (.var 9), (.var 10), (.var 11), (.var 12), (.var 13), (.var 14), (.var 15), (.var 16), (.var 17), (.var 18), (.var 19), (.wrap .u64 (.add (.var 20) (.sel .u64 (.row 0) (.add (.mul (.var 3) (.lit 4)) (.lit 2))))), (.var 21), (.var 22), (.var 23), (.var 24)] [(.var 0), (.var 1)] [(.row 0)]),
  ([h111, h10, h9, h47, h14, h7, h0], .fin (.lit true)),
  ([h113, h9, h47, h14, h7, h0], .fin (.lit true)),
  ([h114, h84, h47, h14, h7, h0], .fin (.lit true)),
  ([h110, h84, h47, h14, h7, h0], .fin (.lit true))]
theorem q0bbba : PartOK Try.prog cuts 1 (some (3, 80)) true { rng := g0.rng, asm := [h47, h14, h7, h0] } t0.cfg := ⟨1000000, d0bbba, by kernel_rfl, by kernel_rfl⟩


end
end Go.Proofs.Ytgfedkfokjobpaa.cellsKeep
