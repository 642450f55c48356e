/- Parts of the plan for the law BiasKnown: each is one kernel run. -/
import Derived.Test.YtlghapdldaijoaaGreatBiasKnownPlan
namespace Go.Proofs.YtlghapdldaijoaaGreat.biasKnown
open Go Go.Ev
noncomputable section

theorem q5 : PartOK Tryz.prog cuts ⟨8, none, 0, none, 0, none⟩ true g3 t5.cfg := ⟨1000000, [ ([h0], .cut 6 [(.var 0)] [] [])], by kernel_rfl, by kernel_rfl⟩
theorem q8 : PartOK Tryz.prog cuts ⟨5, none, 0, none, 0, none⟩ true g6 t8.cfg := ⟨1000000, [ ([h0], .cut 9 [(.var 0)] [] [])], by kernel_rfl, by kernel_rfl⟩
def d4 : List (List (SB × Bool) × Leaf) := [
  ([h0], .cut 5 [(.var 0), (.wrap .i64 (.add (.wrap .i64 (.add (.var 1) (.lit 1))) (.lit 1)))] [] [(.upd (.upd (.upd (.upd (.upd (.upd (.upd (.upd (.row 0) (.lit 2048) (.lit 1)) (.lit 2049) (.lit 0)) (.lit 2050) (.lit 0)) (.lit 2051) (.lit 9)) (.lit 2052) (.lit 1)) (.lit 2053) (.lit 0)) (.lit 2054) (.lit 0)) (.lit 2055) (.lit 0))])]
theorem q4 : PartOK Tryz.prog cuts ⟨9, none, 0, none, 0, none⟩ true g3 t4.cfg := ⟨1000000, d4, by kernel_rfl, by kernel_rfl⟩
theorem q2 : PartOK Tryz.prog cuts m2 true g2 t2.cfg := ⟨1000000, [ ([((.lss (.var 0) (.lit 255)), true)], .cut 1 [(.add (.var 0) (.lit 1)), (.var 1)] [] [(.row 0)])], by kernel_rfl, by kernel_rfl⟩

end
end Go.Proofs.YtlghapdldaijoaaGreat.biasKnown
