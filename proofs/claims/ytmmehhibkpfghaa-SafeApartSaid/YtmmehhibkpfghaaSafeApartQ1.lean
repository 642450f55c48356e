/- Parts of the plan for the law SafeApart: each is one kernel run. -/
import Derived.Test.YtmmehhibkpfghaaSafeApartPlan
namespace Go.Proofs.Ytmmehhibkpfghaa.safeApart
open Go Go.Ev
noncomputable section

def ds : List (List (SB × Bool) × Leaf) := [
  ([((.lss (.lit 0) (.rem (.var 0) (.lit 40))), true), ((.var 1), true)], .cut 0 [(.var 0), (.lit 1), (.lit 8)] [] []),
  ([((.lss (.lit 0) (.rem (.var 0) (.lit 40))), false), ((.var 1), true)], .fin (.lit true)),
  ([((.lss (.lit 0) (.rem (.var 0) (.lit 40))), true), ((.var 1), false)], .cut 1 [(.var 0), (.lit 1), (.lit 8)] [] []),
  ([((.lss (.lit 0) (.rem (.var 0) (.lit 40))), false), ((.var 1), false)], .fin (.lit true))]
theorem qs : PartOK Try.prog cuts top none false { rng := rngOf shape, asm := [] } (startCfg Try.prog 3 shape) := ⟨1000000, ds, by kernel_rfl, by kernel_rfl⟩

def d0 : List (List (SB × Bool) × Leaf) := [
  ([((.lss (.var 1) (.rem (.var 0) (.lit 40))), true)], .cut 0 [(.var 0), (.add (.var 1) (.lit 1)), (.wrap .i64 (.add (.wrap .i64 (.add (.var 2) (.lit 1))) (.lit 1)))] [] []),
  ([((.lss (.var 1) (.rem (.var 0) (.lit 40))), false)], .fin (.lit true))]
theorem q0 : PartOK Try.prog cuts 1 (some (1, 40)) true g0 t0.cfg := ⟨1000000, d0, by kernel_rfl, by kernel_rfl⟩

def d1 : List (List (SB × Bool) × Leaf) := [
  ([((.lss (.var 1) (.rem (.var 0) (.lit 40))), true)], .cut 1 [(.var 0), (.add (.var 1) (.lit 1)), (.wrap .i64 (.add (.wrap .i64 (.add (.var 2) (.lit 1))) (.lit 1)))] [] []),
  ([((.lss (.var 1) (.rem (.var 0) (.lit 40))), false)], .fin (.lit true))]
theorem q1 : PartOK Try.prog cuts 1 (some (1, 40)) true g1 t1.cfg := ⟨1000000, d1, by kernel_rfl, by kernel_rfl⟩


end
end Go.Proofs.Ytmmehhibkpfghaa.safeApart
