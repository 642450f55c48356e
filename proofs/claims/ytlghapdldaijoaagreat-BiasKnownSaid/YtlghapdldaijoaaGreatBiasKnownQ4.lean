/- Parts of the plan for the law BiasKnown: each is one kernel run. -/
import Derived.Test.YtlghapdldaijoaaGreatBiasKnownPlan
namespace Go.Proofs.YtlghapdldaijoaaGreat.biasKnown
open Go Go.Ev
noncomputable section

theorem q9 : PartOK Tryz.prog cuts ⟨4, none, 0, none, 0, none⟩ true g6 t9.cfg := ⟨1000000, [ ([h0], .cut 10 [(.var 0)] [] [])], by kernel_rfl, by kernel_rfl⟩
theorem qs : PartOK Tryz.prog cuts { rank := top } false (Go.Ev.ctxP shape) (Go.Ev.startP Tryz.prog 3 shape) := ⟨1000000, [ ([], .cut 0 [] [] [])], by kernel_rfl, by kernel_rfl⟩
theorem q7 : PartOK Tryz.prog cuts ⟨6, none, 0, none, 0, none⟩ true g6 t7.cfg := ⟨1000000, [ ([h0], .cut 8 [(.var 0)] [] [])], by kernel_rfl, by kernel_rfl⟩
theorem q0 : PartOK Tryz.prog cuts ⟨12, none, 0, none, 0, none⟩ true g0 t0.cfg := ⟨1000000, [ ([], .cut 2 [(.lit 0), (.lit 9)] [] [(.upd (.con 0) (.lit 0) (.lit 1))])], by kernel_rfl, by kernel_rfl⟩

end
end Go.Proofs.YtlghapdldaijoaaGreat.biasKnown
