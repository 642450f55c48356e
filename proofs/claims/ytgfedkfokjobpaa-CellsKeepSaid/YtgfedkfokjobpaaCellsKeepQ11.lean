/- Parts of the plan for the law CellsKeep: each is one kernel run. -/
import Derived.Test.YtgfedkfokjobpaaCellsKeepPlan
namespace Go.Proofs.Ytgfedkfokjobpaa.cellsKeep
open Go Go.Ev
noncomputable section

def dsbba : List (List (SB × Bool) × Leaf) := [
  ([h95, h40, h13, h9, h58, h20, h8, h5], .cut 0 [(.var 0), (.var 1), (.var 2), (.lit 1), (.lit 1), (.lit 0), (.lit 0), (.lit 0), (.lit 0), (.lit 0), (.lit 0), (.lit 0), (.lit 0), (.lit 0), (.lit 0), (.lit 0), (.lit 0), (.lit 0), (.lit 0), (.lit 0), (.lit 0), (.lit 0), (.lit 0), (.lit 0), (.lit 0)] [(.var 0), (.var 1)] [(.row 0)]),
  ([((.eql (.sel .i8 (.row 0) (.lit 1)) (.lit 15)), true), h64, h40, h13, h9, h58, h20, h8, h5], .cut 0 [(.var 0), (.var 1), (.var 2), (.lit 1), (.lit 1), (.lit 0), (.lit 0), (.lit 0), (.lit 0), (.lit 0), (.lit 0), (.lit 0), (.lit 0), (.lit 0), (.lit 0), (.lit 0), (.lit 0), (.lit 0), (.lit 0), (.lit 0), (.lit 0), (.lit 0), (.lit 0), (.lit 0), (.lit 0)] [(.var 0), (.var 1)] [(.row 0)]),
  ([h96, h107, h64, h40, h13, h9, h58, h20, h8, h5], .cut 0 [(.var 0), (.var 1), (.var 2), (.lit 1), (.lit 1), (.lit 0), (.lit 0), (.lit 0), (.lit 0), (.lit 0), (.lit 0), (.lit 0), (.lit 0), (.lit 0), (.lit 0), (.lit 0), (.lit 0), (.lit 0), (.lit 0), (.lit 0), (.lit 0), (.lit 0), (.lit 0), (.lit 0), (.lit 0)] [(.var 0), (.var 1)] [(.row 0)]),
  ([h97, h54, h107, h64, h40, h13, h9, h58, h20, h8, h5], .cut 0 [(.var 0), (.var 1), (.var 2), (.lit 1), (.lit 1), (.lit 0), (.lit 0), (.lit 0), (.lit 0), (.lit 0), (.lit 0), (.lit 0), (.lit 0), (.lit 0), (.lit 0), (.lit 0), (.lit 0), (.lit 0), (.lit 0), (.lit 0), (.lit 0), (.lit 0), (.lit 0), (.lit 0), (.lit 0)] [(.var 0), (.var 1)] [(.row 0)]),
  ([h98, h61, h54, h107, h64, h40, h13, h9, h58, h20, h8, h5], .cut 0 [(.var 0), (.var 1), (.var 2), (.lit 1), (.lit 1), (.lit 0), (.lit 0), (.lit 0), (.lit 0), (.lit 0), (.lit 0), (.lit 0), (.lit 0), (.lit 0), (.lit 0), (.lit 0), (.lit 0), (.lit 0), (.lit 0), (.lit 0), (.lit 0), (.lit 0), (.lit 0), (.lit 0), (.lit 0)] [(.var 0), (.var 1)] [(.row 0)]),
  ([h89, h61, h54, h107, h64, h40, h13, h9, h58, h20, h8, h5], .cut 0 [(.var 0), (.var 1), (.var 2), (.lit 1), (.lit 1), (.lit 0), (.lit 0), (.lit 0), (.lit 0), (.lit 0), (.lit 0), (.lit 0), (.lit 0), (.lit 0), (.lit 0), (.lit 0), (.lit 0), (.lit 0), (.lit 0), (.lit 0), (.lit 0), (.lit 0), (.lit 0), (.lit 0), (.lit 0)] [(.var 0), (.var 1)] [(.row 0)]),
  ([h108, h13, h9, h58, h20, h8, h5], .cut 0 [(.var 0), (.var 1), (.var 2), (.lit 1), (.lit 0), (.lit 0), (.lit 0), (.lit 0), (.lit 0), (.lit 0), (.lit 0), (.lit 0), (.lit 0), (.lit 0), (.lit 0), (.lit 0), (.lit 0), (.lit 0), (.lit 0), (.lit 0), (.lit 0), (.lit 0), (.lit 0), (.lit 0), (.lit 0)] [(.var 0), (.var 1)] [(.row 0)]),
  ([h112, h9, h58, h20, h8, h5], .fin (.lit true)),
  ([h114, h84, h58, h20, h8, h5], .fin (.lit true)),
  ([h110, h84, h58, h20, h8, h5], .fin (.lit true))]
theorem qsbba : PartOK Try.prog cuts top none false { rng := (ctxP shape).rng, asm := [h58, h20, h8, h5] } (startP Try.prog 4 shape) := ⟨1000000, dsbba, by kernel_rfl, by kernel_rfl⟩


end
end Go.Proofs.Ytgfedkfokjobpaa.cellsKeep
