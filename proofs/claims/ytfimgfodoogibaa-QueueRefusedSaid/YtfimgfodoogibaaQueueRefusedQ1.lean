/- Parts of the plan for the law QueueRefused: each is one kernel run. -/
import Derived.Test.YtfimgfodoogibaaQueueRefusedPlan
namespace Go.Proofs.Ytfimgfodoogibaa.queueRefused
open Go Go.Ev
noncomputable section

def d1b : List (List (SB × Bool) × Leaf) := [
  ([((.lss (.var 2) (.lit 1)), true), h0], .cut 2 [(.var 0), (.var 1), (.var 2), (.var 3), (.var 4)] [] []),
  ([((.lss (.lit 32766) (.var 2)), true), h3, h0], .cut 2 [(.var 0), (.var 1), (.var 2), (.var 3), (.var 4)] [] []),
  ([((.lss (.var 3) (.lit 1)), true), h2, h3, h0], .cut 2 [(.var 0), (.var 1), (.var 2), (.var 3), (.var 4)] [] []),
  ([((.lss (.lit 65536) (.var 3)), true), h4, h2, h3, h0], .cut 2 [(.var 0), (.var 1), (.var 2), (.var 3), (.var 4)] [] []),
  ([((.lss (.var 4) (.lit 0)), true), h5, h4, h2, h3, h0], .cut 2 [(.var 0), (.var 1), (.var 2), (.var 3), (.var 4)] [] []),
  ([((.lss (.lit 4096) (.var 4)), true), h7, h5, h4, h2, h3, h0], .cut 2 [(.var 0), (.var 1), (.var 2), (.var 3), (.var 4)] [] []),
  ([((.lss (.var 0) (.lit 0)), true), h8, h7, h5, h4, h2, h3, h0], .cut 2 [(.var 0), (.var 1), (.var 2), (.var 3), (.var 4)] [] []),
  ([((.lss (.wrap .i64 (.add (.var 0) (.lit 1))) (.lit 67)), true), h11, h6, h8, h7, h5, h4, h2, h3, h0], .cut 2 [(.var 0), (.var 1), (.var 2), (.var 3), (.var 4)] [] []),
  ([((.lss (.wrap .i64 (.add (.var 0) (.lit 1))) (.lit 67)), false), h11, h6, h8, h7, h5, h4, h2, h3, h0], .cut 2 [(.var 0), (.var 1), (.var 2), (.var 3), (.var 4)] [] []),
  ([((.lss (.var 1) (.lit 0)), true), h10, h9, h6, h8, h7, h5, h4, h2, h3, h0], .cut 2 [(.var 0), (.var 1), (.var 2), (.var 3), (.var 4)] [] []),
  ([((.lss (.var 1) (.var 2)), true), h12, h10, h9, h6, h8, h7, h5, h4, h2, h3, h0], .cut 2 [(.var 0), (.var 1), (.var 2), (.var 3), (.var 4)] [] []),
  ([((.lss (.var 1) (.var 2)), false), h12, h10, h9, h6, h8, h7, h5, h4, h2, h3, h0], .cut 2 [(.var 0), (.var 1), (.var 2), (.var 3), (.var 4)] [] []),
  ([((.lss (.add (.var 0) (.lit 1)) (.lit 67)), false), h9, h6, h8, h7, h5, h4, h2, h3, h0], .cut 2 [(.var 0), (.var 1), (.var 2), (.var 3), (.var 4)] [] [])]
theorem q1b : PartOK Try.prog cuts ⟨2, none, 0, none, 0, none⟩ true { rng := g0.rng, asm := [h0] } t1.cfg := ⟨1000000, d1b, by kernel_rfl, by kernel_rfl⟩

end
end Go.Proofs.Ytfimgfodoogibaa.queueRefused
