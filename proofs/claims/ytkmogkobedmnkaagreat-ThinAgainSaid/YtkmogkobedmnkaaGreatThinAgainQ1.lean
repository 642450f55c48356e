/- Parts of the plan for the law ThinAgain: each is one kernel run. -/
import Derived.Test.YtkmogkobedmnkaaGreatThinAgainPlan
namespace Go.Proofs.YtkmogkobedmnkaaGreat.thinAgain
open Go Go.Ev
noncomputable section

def d15 : List (List (SB × Bool) × Leaf) := [
  ([((.lss (.var 1) (.rem (.var 0) (.lit 40))), true), h0], .cut 14 [(.var 0), (.add (.var 1) (.lit 1)), (.wrap .i64 (.add (.wrap .i64 (.add (.wrap .i64 (.add (.wrap .i64 (.add (.var 2) (.lit 1))) (.lit 1))) (.lit 1))) (.lit 1)))] [] [(.upd (.upd (.upd (.upd (.upd (.upd (.upd (.upd (.upd (.upd (.upd (.upd (.upd (.upd (.upd (.upd (.row 0) (.mul (.var 1) (.lit 16)) (.lit 1)) (.add (.mul (.var 1) (.lit 16)) (.lit 1)) (.lit 1)) (.add (.mul (.var 1) (.lit 16)) (.lit 2)) (.lit 0)) (.add (.mul (.var 1) (.lit 16)) (.lit 3)) (.lit 0)) (.add (.mul (.var 1) (.lit 16)) (.lit 4)) (.lit 0)) (.add (.mul (.var 1) (.lit 16)) (.lit 5)) (.lit 0)) (.add (.mul (.var 1) (.lit 16)) (.lit 6)) (.lit 0)) (.add (.mul (.var 1) (.lit 16)) (.lit 7)) (.lit 0)) (.add (.mul (.var 1) (.lit 16)) (.lit 8)) (.lit 1)) (.add (.mul (.var 1) (.lit 16)) (.lit 9)) (.lit 1)) (.add (.mul (.var 1) (.lit 16)) (.lit 10)) (.lit 0)) (.add (.mul (.var 1) (.lit 16)) (.lit 11)) (.lit 1)) (.add (.mul (.var 1) (.lit 16)) (.lit 12)) (.lit 0)) (.add (.mul (.var 1) (.lit 16)) (.lit 13)) (.lit 0)) (.add (.mul (.var 1) (.lit 16)) (.lit 14)) (.lit 0)) (.add (.mul (.var 1) (.lit 16)) (.lit 15)) (.lit 0))])]
theorem q15 : PartOK Tryz.prog cuts m15 true g15 t15.cfg := ⟨1000000, d15, by kernel_rfl, by kernel_rfl⟩
theorem q1 : PartOK Tryz.prog cuts ⟨12, none, 0, none, 0, none⟩ true g0 t1.cfg := ⟨1000000, [ ([], .cut 2 [(.var 0)] [] [])], by kernel_rfl, by kernel_rfl⟩
theorem q9 : PartOK Tryz.prog cuts ⟨4, none, 0, none, 0, none⟩ true g9 t9.cfg := ⟨1000000, [ ([h1], .cut 11 [(.var 0)] [] [])], by kernel_rfl, by kernel_rfl⟩
theorem q7 : PartOK Tryz.prog cuts ⟨6, none, 0, none, 0, none⟩ true g0 t7.cfg := ⟨1000000, [ ([], .cut 8 [(.var 0)] [] [])], by kernel_rfl, by kernel_rfl⟩
theorem q10 : PartOK Tryz.prog cuts ⟨2, none, 0, none, 0, none⟩ true g10 t10.cfg := ⟨1000000, [ ([((.lss (.lit 0) (.rem (.var 0) (.lit 40))), false)], .cut 12 [] [] [])], by kernel_rfl, by kernel_rfl⟩
theorem q13 : PartOK Tryz.prog cuts ⟨2, none, 0, none, 0, none⟩ true g9 t13.cfg := ⟨1000000, [ ([h1], .cut 14 [(.var 0), (.lit 1), (.lit 10)] [] [(.upd (.upd (.upd (.upd (.upd (.con 0) (.lit 0) (.lit 1)) (.lit 1) (.lit 1)) (.lit 8) (.lit 1)) (.lit 9) (.lit 1)) (.lit 11) (.lit 1))])], by kernel_rfl, by kernel_rfl⟩

end
end Go.Proofs.YtkmogkobedmnkaaGreat.thinAgain
