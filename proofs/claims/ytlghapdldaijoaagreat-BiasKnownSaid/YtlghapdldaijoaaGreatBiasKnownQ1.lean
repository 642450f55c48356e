/- Parts of the plan for the law BiasKnown: each is one kernel run. -/
import Derived.Test.YtlghapdldaijoaaGreatBiasKnownPlan
namespace Go.Proofs.YtlghapdldaijoaaGreat.biasKnown
open Go Go.Ev
noncomputable section

def d1 : List (List (SB × Bool) × Leaf) := [
  ([((.lss (.var 0) (.lit 255)), true)], .cut 2 [(.var 0), (.wrap .i64 (.add (.wrap .i64 (.add (.var 1) (.lit 1))) (.lit 1)))] [] [(.upd (.upd (.upd (.upd (.upd (.upd (.upd (.upd (.row 0) (.mul (.var 0) (.lit 8)) (.lit 1)) (.add (.mul (.var 0) (.lit 8)) (.lit 1)) (.lit 0)) (.add (.mul (.var 0) (.lit 8)) (.lit 2)) (.lit 0)) (.add (.mul (.var 0) (.lit 8)) (.lit 3)) (.lit 0)) (.add (.mul (.var 0) (.lit 8)) (.lit 4)) (.lit 0)) (.add (.mul (.var 0) (.lit 8)) (.lit 5)) (.lit 0)) (.add (.mul (.var 0) (.lit 8)) (.lit 6)) (.lit 0)) (.add (.mul (.var 0) (.lit 8)) (.lit 7)) (.lit 0))]),
  ([h0], .cut 3 [(.var 0), (.wrap .i64 (.add (.wrap .i64 (.add (.var 1) (.lit 1))) (.lit 1)))] [] [(.row 0)])]
theorem q1 : PartOK Tryz.prog cuts m1 true g1 t1.cfg := ⟨1000000, d1, by kernel_rfl, by kernel_rfl⟩
theorem q10 : PartOK Tryz.prog cuts ⟨3, none, 0, none, 0, none⟩ true g6 t10.cfg := ⟨1000000, [ ([h0], .cut 11 [(.var 0)] [] [])], by kernel_rfl, by kernel_rfl⟩
theorem q12 : PartOK Tryz.prog cuts ⟨1, none, 0, none, 0, none⟩ true g6 t12.cfg := ⟨1000000, [ ([h0], .fin (.eql (.var 0) (.lit 255)))], by kernel_rfl, by kernel_rfl⟩

end
end Go.Proofs.YtlghapdldaijoaaGreat.biasKnown
