/- Parts of the plan for the law BiasKnown: each is one kernel run. -/
import Derived.Test.YtlghapdldaijoaaGreatBiasKnownPlan
namespace Go.Proofs.YtlghapdldaijoaaGreat.biasKnown
open Go Go.Ev
noncomputable section

theorem q6 : PartOK Tryz.prog cuts ⟨7, none, 0, none, 0, none⟩ true g6 t6.cfg := ⟨1000000, [ ([h0], .cut 7 [(.var 0)] [] [])], by kernel_rfl, by kernel_rfl⟩
def d3 : List (List (SB × Bool) × Leaf) := [
  ([h0], .cut 4 [(.var 0), (.wrap .i64 (.add (.wrap .i64 (.add (.wrap .i64 (.add (.var 1) (.lit 1))) (.lit 1))) (.lit 1)))] [] [(.upd (.upd (.upd (.upd (.upd (.upd (.upd (.upd (.row 0) (.mul (.var 0) (.lit 8)) (.lit 1)) (.add (.mul (.var 0) (.lit 8)) (.lit 1)) (.lit 0)) (.add (.mul (.var 0) (.lit 8)) (.lit 2)) (.lit 0)) (.add (.mul (.var 0) (.lit 8)) (.lit 3)) (.lit 8)) (.add (.mul (.var 0) (.lit 8)) (.lit 4)) (.lit 1)) (.add (.mul (.var 0) (.lit 8)) (.lit 5)) (.lit 4)) (.add (.mul (.var 0) (.lit 8)) (.lit 6)) (.lit 0)) (.add (.mul (.var 0) (.lit 8)) (.lit 7)) (.lit 0))])]
theorem q3 : PartOK Tryz.prog cuts ⟨10, none, 0, none, 0, none⟩ true g3 t3.cfg := ⟨1000000, d3, by kernel_rfl, by kernel_rfl⟩
theorem q11 : PartOK Tryz.prog cuts ⟨2, none, 0, none, 0, none⟩ true g6 t11.cfg := ⟨1000000, [ ([h0], .cut 12 [(.var 0)] [] [])], by kernel_rfl, by kernel_rfl⟩

end
end Go.Proofs.YtlghapdldaijoaaGreat.biasKnown
