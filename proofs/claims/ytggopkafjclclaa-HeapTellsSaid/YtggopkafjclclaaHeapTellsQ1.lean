/- Parts of the plan for the law HeapTells: each is one kernel run. -/
import Derived.Test.YtggopkafjclclaaHeapTellsPlan
namespace Go.Proofs.Ytggopkafjclclaa.heapTells
open Go Go.Ev
noncomputable section

def ds : List (List (SB × Bool) × Leaf) := [
  ([((.lss (.lit 1) (.add (.rem (.var 0) (.lit 20)) (.lit 1))), true), ((.eql (.rem (.sel .u8 (.row 1) (.lit 0)) (.lit 3)) (.lit 0)), true), h26, h41, h18], .cut 0 [(.var 3), (.var 4), (.var 5), (.add (.rem (.var 0) (.lit 20)) (.lit 1)), (.lit 1), (.lit 0), (.lit 0), (.lit 1), (.lit 1), (.lit 1)] [(.var 2), (.var 3)] [(.row 1), (.con 0), (.upd (.con 0) (.lit 0) (.lit 1))]),
  ([((.lss (.lit 1) (.add (.rem (.var 0) (.lit 20)) (.lit 1))), false), ((.eql (.rem (.sel .u8 (.row 1) (.lit 0)) (.lit 3)) (.lit 0)), true), h26, h41, h18], .cut 0 [(.var 3), (.var 4), (.var 5), (.add (.rem (.var 0) (.lit 20)) (.lit 1)), (.lit 1), (.lit 0), (.lit 0), (.lit 1), (.lit 1), (.lit 1)] [(.var 2), (.var 3)] [(.row 1), (.con 0), (.upd (.con 0) (.lit 0) (.lit 1))]),
  ([((.lss (.sel .i8 (.row 1) (.lit 1)) (.lit 0)), true), h35, h13, h26, h41, h18], .cut 0 [(.var 3), (.var 4), (.var 5), (.add (.rem (.var 0) (.lit 20)) (.lit 1)), (.lit 0), (.lit 0), (.lit 0), (.lit 1), (.lit 0), (.lit 0)] [(.var 2), (.var 3)] [(.row 1), (.con 0), (.con 0)]),
  ([((.lss (.sel .i8 (.row 1) (.lit 2)) (.lit 0)), true), h17, h25, h35, h13, h26, h41, h18], .cut 0 [(.var 3), (.var 4), (.var 5), (.add (.rem (.var 0) (.lit 20)) (.lit 1)), (.lit 0), (.lit 0), (.lit 0), (.lit 1), (.lit 0), (.lit 0)] [(.var 2), (.var 3)] [(.row 1), (.con 0), (.con 0)]),
  ([h46, h39, h17, h25, h35, h13, h26, h41, h18], .cut 0 [(.var 3), (.var 4), (.var 5), (.add (.rem (.var 0) (.lit 20)) (.lit 1)), (.lit 1), (.lit 0), (.lit 0), (.lit 1), (.lit 0), (.lit 0)] [(.var 2), (.var 3)] [(.row 1), (.con 0), (.con 0)]),
  ([((.lss (.sel .i8 (.row 1) (.lit 2)) (.lit 8)), false), h39, h17, h25, h35, h13, h26, h41, h18], .cut 0 [(.var 3), (.var 4), (.var 5), (.add (.rem (.var 0) (.lit 20)) (.lit 1)), (.lit 0), (.lit 0), (.lit 0), (.lit 1), (.lit 0), (.lit 0)] [(.var 2), (.var 3)] [(.row 1), (.con 0), (.con 0)]),
  ([((.lss (.sel .i8 (.row 1) (.lit 1)) (.add (.rem (.var 0) (.lit 20)) (.lit 1))), false), h25, h35, h13, h26, h41, h18], .cut 0 [(.var 3), (.var 4), (.var 5), (.add (.rem (.var 0) (.lit 20)) (.lit 1)), (.lit 0), (.lit 0), (.lit 0), (.lit 1), (.lit 0), (.lit 0)] [(.var 2), (.var 3)] [(.row 1), (.con 0), (.con 0)]),
  ([((.lss (.sel .i8 (.row 1) (.lit 1)) (.lit 0)), true), h27, h13, h26, h41, h18], .cut 0 [(.var 3), (.var 4), (.var 5), (.add (.rem (.var 0) (.lit 20)) (.lit 1)), (.lit 0), (.lit 0), (.lit 0), (.lit 1), (.lit 0), (.lit 0)] [(.var 2), (.var 3)] [(.row 1), (.con 0), (.con 0)]),
  ([((.lss (.sel .i8 (.row 1) (.lit 2)) (.lit 0)), true), h17, h25, h27, h13, h26, h41, h18], .cut 0 [(.var 3), (.var 4), (.var 5), (.add (.rem (.var 0) (.lit 20)) (.lit 1)), (.lit 0), (.lit 0), (.lit 0), (.lit 1), (.lit 0), (.lit 0)] [(.var 2), (.var 3)] [(.row 1), (.con 0), (.con 0)]),
  ([((.eql (.lit 0) (.add (.mul (.sel .i8 (.row 1) (.lit 1)) (.lit 8)) (.sel .i8 (.row 1) (.lit 2)))), true), h46, h39, h17, h25, h27, h13, h26, h41, h18], .cut 0 [(.var 3), (.var 4), (.var 5), (.add (.rem (.var 0) (.lit 20)) (.lit 1)), (.lit 1), (.lit 0), (.lit 0), (.lit 1), (.lit 0), (.lit 0)] [(.var 2), (.var 3)] [(.row 1), (.con 0), (.upd (.con 0) (.add (.add (.mul (.sel .i8 (.row 1) (.lit 1)) (.lit 8)) (.sel .i8 (.row 1) (.lit 2))) (.lit 1)) (.sel .u64 (.row 1) (.lit 3)))]),
  ([((.eql (.lit 0) (.add (.mul (.sel .i8 (.row 1) (.lit 1)) (.lit 8)) (.sel .i8 (.row 1) (.lit 2)))), false), h46, h39, h17, h25, h27, h13, h26, h41, h18], .cut 0 [(.var 3), (.var 4), (.var 5), (.add (.rem (.var 0) (.lit 20)) (.lit 1)), (.lit 1), (.lit 0), (.lit 0), (.lit 1), (.lit 0), (.lit 0)] [(.var 2), (.var 3)] [(.row 1), (.con 0), (.upd (.con 0) (.add (.add (.mul (.sel .i8 (.row 1) (.lit 1)) (.lit 8)) (.sel .i8 (.row 1) (.lit 2))) (.lit 1)) (.sel .u64 (.row 1) (.lit 3)))]),
  ([((.lss (.sel .i8 (.row 1) (.lit 2)) (.lit 8)), false), h39, h17, h25, h27, h13, h26, h41, h18], .cut 0 [(.var 3), (.var 4), (.var 5), (.add (.rem (.var 0) (.lit 20)) (.lit 1)), (.lit 0), (.lit 0), (.lit 0), (.lit 1), (.lit 0), (.lit 0)] [(.var 2), (.var 3)] [(.row 1), (.con 0), (.con 0)]),
  ([((.lss (.sel .i8 (.row 1) (.lit 1)) (.add (.rem (.var 0) (.lit 20)) (.lit 1))), false), h25, h27, h13, h26, h41, h18], .cut 0 [(.var 3), (.var 4), (.var 5), (.add (.rem (.var 0) (.lit 20)) (.lit 1)), (.lit 0), (.lit 0), (.lit 0), (.lit 1), (.lit 0), (.lit 0)] [(.var 2), (.var 3)] [(.row 1), (.con 0), (.con 0)]),
  ([((.lss (.lit 0) (.var 4)), false), h41, h18], .fin (.lit true)),
  ([((.var 3), true), ((.var 2), false), h18], .fin (.lit true)),
  ([((.var 3), false), ((.var 2), false), h18], .fin (.lit true))]
theorem qs : PartOK Try.prog cuts { rank := top } false (Go.Ev.ctxP shape) (Go.Ev.startP Try.prog 4 shape) := ⟨1000000, ds, by kernel_rfl, by kernel_rfl⟩


end
end Go.Proofs.Ytggopkafjclclaa.heapTells
