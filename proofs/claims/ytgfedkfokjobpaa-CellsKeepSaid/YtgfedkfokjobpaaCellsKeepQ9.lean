/- Parts of the plan for the law CellsKeep: each is one kernel run. -/
import Derived.Test.YtgfedkfokjobpaaCellsKeepPlan
namespace Go.Proofs.Ytgfedkfokjobpaa.cellsKeep
open Go Go.Ev
noncomputable section

def dsbbba : List (List (SB × Bool) × Leaf) := [
  ([h95, h30, h13, h9, h59, h21, h20, h8, h5], .cut 0 [(.var 0), (.var 1), (.var 2), (.lit 1), (.lit 1), (.lit 0), (.lit 0), (.lit 0), (.lit 0), (.lit 0), (.lit 0), (.lit 0), (.lit 0), (.lit 0), (.lit 0), (.lit 0), (.lit 0), (.lit 0), (.lit 0), (.sel .u64 (.row 0) (.lit 2)), (.lit 0), (.lit 0), (.lit 0), (.lit 0), (.lit 0)] [(.var 0), (.var 1)] [(.row 0)]),
  ([h64, h30, h13, h9, h59, h21, h20, h8, h5], .cut 0 [(.var 0), (.var 1), (.var 2), (.lit 1), (.lit 1), (.lit 0), (.lit 0), (.lit 0), (.lit 0), (.lit 0), (.lit 0), (.lit 0), (.lit 0), (.lit 0), (.lit 0), (.lit 0), (.lit 0), (.lit 0), (.lit 0), (.lit 0), (.sel .u64 (.row 0) (.lit 2)), (.lit 0), (.lit 0), (.lit 0), (.lit 0)] [(.var 0), (.var 1)] [(.row 0)]),
  ([h43, h95, h16, h4, h13, h9, h59, h21, h20, h8, h5], .cut 0 [(.var 0), (.var 1), (.var 2), (.lit 1), (.lit 1), (.lit 0), (.lit 0), (.lit 0), (.lit 0), (.lit 0), (.lit 0), (.lit 0), (.lit 0), (.lit 0), (.lit 0), (.lit 0), (.lit 0), (.lit 0), (.lit 0), (.sel .u64 (.row 0) (.lit 3)), (.lit 0), (.lit 0), (.lit 0), (.lit 0), (.lit 0)] [(.var 0), (.var 1)] [(.row 0)]),
  ([h41, h95, h16, h4, h13, h9, h59, h21, h20, h8, h5], .cut 0 [(.var 0), (.var 1), (.var 2), (.lit 1), (.lit 1), (.lit 0), (.lit 0), (.lit 0), (.lit 0), (.lit 0), (.lit 0), (.lit 0), (.lit 0), (.lit 0), (.lit 0), (.lit 0), (.lit 0), (.lit 0), (.lit 0), (.lit 0), (.lit 0), (.lit 0), (.lit 0), (.lit 0), (.lit 0)] [(.var 0), (.var 1)] [(.row 0)]),
  ([h43, h64, h16, h4, h13, h9, h59, h21, h20, h8, h5], .cut 0 [(.var 0), (.var 1), (.var 2), (.lit 1), (.lit 1), (.lit 0), (.lit 0), (.lit 0), (.lit 0), (.lit 0), (.lit 0), (.lit 0), (.lit 0), (.lit 0), (.lit 0), (.lit 0), (.lit 0), (.lit 0), (.lit 0), (.lit 0), (.sel .u64 (.row 0) (.lit 3)), (.lit 0), (.lit 0), (.lit 0), (.lit 0)] [(.var 0), (.var 1)] [(.row 0)]),
  ([h41, h64, h16, h4, h13, h9, h59, h21, h20, h8, h5], .cut 0 [(.var 0), (.var 1), (.var 2), (.lit 1), (.lit 1), (.lit 0), (.lit 0), (.lit 0), (.lit 0), (.lit 0), (.lit 0), (.lit 0), (.lit 0), (.lit 0), (.lit 0), (.lit 0), (.lit 0), (.lit 0), (.lit 0), (.lit 0), (.lit 0), (.lit 0), (.lit 0), (.lit 0), (.lit 0)] [(.var 0), (.var 1)] [(.row 0)]),
  ([h95, h29, h4, h13, h9, h59, h21, h20, h8, h5], .cut 0 [(.var 0), (.var 1), (.var 2), (.lit 1), (.lit 1), (.lit 0), (.lit 0), (.lit 0), (.lit 0), (.lit 0), (.lit 0), (.lit 0), (.lit 0), (.lit 0), (.lit 0), (.lit 0), (.lit 0), (.lit 0), (.lit 0), (.sel .u64 (.row 0) (.lit 2)), (.lit 0), (.lit 0), (.lit 0), (.lit 0), (.lit 0)] [(.var 0), (.var 1)] [(.row 0)]),
  ([h64, h29, h4, h13, h9, h59, h21, h20, h8, h5], .cut 0 [(.var 0), (.var 1), (.var 2), (.lit 1), (.lit 1), (.lit 0), (.lit 0), (.lit 0), (.lit 0), (.lit 0), (.lit 0), (.lit 0), (.lit 0), (.lit 0), (.lit 0), (.lit 0), (.lit 0), (.lit 0), (.lit 0), (.lit 0), (.sel .u64 (.row 0) (.lit 2)), (.lit 0), (.lit 0), (.lit 0), (.lit 0)] [(.var 0), (.var 1)] [(.row 0)]),
  ([h112, h9, h59, h21, h20, h8, h5], .fin (.lit true)),
  ([h114, h84, h59, h21, h20, h8, h5], .fin (.lit true)),
  ([h110, h84, h59, h21, h20, h8, h5], .fin (.lit true))]
theorem qsbbba : PartOK Try.prog cuts top none false { rng := (ctxP shape).rng, asm := [h59, h21, h20, h8, h5] } (startP Try.prog 4 shape) := ⟨1000000, dsbbba, by kernel_rfl, by kernel_rfl⟩


end
end Go.Proofs.Ytgfedkfokjobpaa.cellsKeep
