/- Parts of the plan for the law ThinDeep: each is one kernel run. -/
import Derived.Test.YtkmogkobedmnkaaGreatThinDeepPlan
namespace Go.Proofs.YtkmogkobedmnkaaGreat.thinDeep
open Go Go.Ev
noncomputable section

theorem q3 : PartOK Tryz.prog cuts ⟨13, none, 0, none, 0, none⟩ true g0 t3.cfg := ⟨1000000, [ ([h0], .cut 4 [(.var 0), (.var 1), (.var 2), (.var 3)] [(.var 0), (.var 1)] [(.row 0)])], by kernel_rfl, by kernel_rfl⟩
theorem q6 : PartOK Tryz.prog cuts ⟨10, none, 0, none, 0, none⟩ true g0 t6.cfg := ⟨1000000, [ ([h0], .cut 7 [(.var 0), (.var 1), (.var 2), (.var 3)] [(.var 0), (.var 1)] [(.row 0)])], by kernel_rfl, by kernel_rfl⟩
theorem q8 : PartOK Tryz.prog cuts ⟨8, none, 0, none, 0, none⟩ true g0 t8.cfg := ⟨1000000, [ ([h5, h0], .cut 9 [(.var 0), (.var 1), (.var 2), (.var 3)] [(.var 0), (.var 1)] [(.row 0)]), ([((.lss (.lit 0) (.var 0)), false), h0], .cut 10 [] [] [])], by kernel_rfl, by kernel_rfl⟩
theorem q10 : PartOK Tryz.prog cuts ⟨2, none, 0, none, 0, none⟩ true g10 t10.cfg := ⟨1000000, [ ([], .cut 12 [] [] [])], by kernel_rfl, by kernel_rfl⟩
theorem q2 : PartOK Tryz.prog cuts ⟨14, none, 0, none, 0, none⟩ true g0 t2.cfg := ⟨1000000, [ ([h0], .cut 3 [(.var 0), (.var 1), (.var 2), (.var 3)] [(.var 0), (.var 1)] [(.row 0)])], by kernel_rfl, by kernel_rfl⟩
def d14 : List (List (SB × Bool) × Leaf) := [
  ([h5, ((.lss (.lit 1) (.var 0)), false), h3, h2], .cut 19 [(.add (.var 1) (.lit 1)), (.wrap .i64 (.add (.var 2) (.lit 1))), (.lit 0)] [] [(.upd (.upd (.upd (.upd (.upd (.upd (.upd (.upd (.row 0) (.mul (.var 1) (.lit 8)) (.lit 1)) (.add (.mul (.var 1) (.lit 8)) (.lit 1)) (.lit 0)) (.add (.mul (.var 1) (.lit 8)) (.lit 2)) (.lit 0)) (.add (.mul (.var 1) (.lit 8)) (.lit 3)) (.lit 1)) (.add (.mul (.var 1) (.lit 8)) (.lit 4)) (.lit 0)) (.add (.mul (.var 1) (.lit 8)) (.lit 5)) (.lit 0)) (.add (.mul (.var 1) (.lit 8)) (.lit 6)) (.lit 0)) (.add (.mul (.var 1) (.lit 8)) (.lit 7)) (.lit 0))])]
theorem q14 : PartOK Tryz.prog cuts ⟨2, none, 0, none, 0, none⟩ true g14 t14.cfg := ⟨1000000, d14, by kernel_rfl, by kernel_rfl⟩
theorem q12 : PartOK Tryz.prog cuts ⟨1, none, 0, none, 0, none⟩ true g10 t12.cfg := ⟨1000000, [ ([], .fin (.lit true))], by kernel_rfl, by kernel_rfl⟩

end
end Go.Proofs.YtkmogkobedmnkaaGreat.thinDeep
