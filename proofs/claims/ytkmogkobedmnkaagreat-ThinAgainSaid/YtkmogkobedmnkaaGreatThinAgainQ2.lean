/- Parts of the plan for the law ThinAgain: each is one kernel run. -/
import Derived.Test.YtkmogkobedmnkaaGreatThinAgainPlan
namespace Go.Proofs.YtkmogkobedmnkaaGreat.thinAgain
open Go Go.Ev
noncomputable section

theorem q3 : PartOK Tryz.prog cuts ⟨10, none, 0, none, 0, none⟩ true g0 t3.cfg := ⟨1000000, [ ([], .cut 4 [(.var 0)] [] [])], by kernel_rfl, by kernel_rfl⟩
theorem q6 : PartOK Tryz.prog cuts ⟨7, none, 0, none, 0, none⟩ true g0 t6.cfg := ⟨1000000, [ ([], .cut 7 [(.var 0)] [] [])], by kernel_rfl, by kernel_rfl⟩
theorem qs : PartOK Tryz.prog cuts { rank := top } false (Go.Ev.ctxP shape) (Go.Ev.startP Tryz.prog 4 shape) := ⟨1000000, [ ([], .cut 0 [(.var 0)] [] [])], by kernel_rfl, by kernel_rfl⟩
theorem q11 : PartOK Tryz.prog cuts ⟨3, none, 0, none, 0, none⟩ true g9 t11.cfg := ⟨1000000, [ ([h1], .cut 13 [(.var 0)] [] [])], by kernel_rfl, by kernel_rfl⟩
theorem q4 : PartOK Tryz.prog cuts ⟨9, none, 0, none, 0, none⟩ true g0 t4.cfg := ⟨1000000, [ ([], .cut 5 [(.var 0)] [] [])], by kernel_rfl, by kernel_rfl⟩
theorem q5 : PartOK Tryz.prog cuts ⟨8, none, 0, none, 0, none⟩ true g0 t5.cfg := ⟨1000000, [ ([], .cut 6 [(.var 0)] [] [])], by kernel_rfl, by kernel_rfl⟩

end
end Go.Proofs.YtkmogkobedmnkaaGreat.thinAgain
