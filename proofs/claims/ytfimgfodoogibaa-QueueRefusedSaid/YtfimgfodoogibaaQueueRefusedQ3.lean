/- Parts of the plan for the law QueueRefused: each is one kernel run. -/
import Derived.Test.YtfimgfodoogibaaQueueRefusedPlan
namespace Go.Proofs.Ytfimgfodoogibaa.queueRefused
open Go Go.Ev
noncomputable section

def d2 : List (List (SB × Bool) × Leaf) := [
  ([((.lss (.var 0) (.lit 0)), true)], .fin (.lit true)),
  ([((.lss (.wrap .i64 (.add (.var 0) (.lit 1))) (.lit 67)), true), h11, h6], .fin (.lit true)),
  ([((.lss (.wrap .i64 (.add (.var 0) (.lit 1))) (.lit 67)), false), h11, h6], .fin (.lit true)),
  ([((.lss (.var 1) (.lit 0)), true), h10, h9, h6], .fin (.lit true)),
  ([((.lss (.var 1) (.lit 8)), true), h12, h10, h9, h6], .fin (.lit true)),
  ([((.lss (.var 1) (.lit 8)), false), h12, h10, h9, h6], .fin (.lit true)),
  ([((.lss (.add (.var 0) (.lit 1)) (.lit 67)), false), h9, h6], .fin (.lit true))]
theorem q2 : PartOK Try.prog cuts ⟨1, none, 0, none, 0, none⟩ true g0 t2.cfg := ⟨1000000, d2, by kernel_rfl, by kernel_rfl⟩
theorem q0 : PartOK Try.prog cuts ⟨3, none, 0, none, 0, none⟩ true g0 t0.cfg := ⟨1000000, [ ([], .cut 1 [(.var 0), (.var 1), (.var 2), (.var 3), (.var 4)] [] [])], by kernel_rfl, by kernel_rfl⟩

end
end Go.Proofs.Ytfimgfodoogibaa.queueRefused
