/- Parts of the plan for the law ThinDeep: each is one kernel run. -/
import Derived.Test.YtkmogkobedmnkaaGreatThinDeepPlan
namespace Go.Proofs.YtkmogkobedmnkaaGreat.thinDeep
open Go Go.Ev
noncomputable section

def d18 : List (List (SB × Bool) × Leaf) := [
  ([((.eql (.add (.var 0) (.lit (-1))) (.lit 0)), true), h3, h2], .cut 14 [(.var 0), (.var 1), (.wrap .i64 (.add (.var 2) (.lit 1))), (.add (.mul (.var 0) (.lit (-1))) (.lit 255))] [] [(.row 0)]),
  ([((.lss (.mul (.var 0) (.lit 2)) (.var 1)), true), h7, h3, h2], .cut 18 [(.add (.var 0) (.lit (-1))), (.add (.var 1) (.lit 1)), (.wrap .i64 (.add (.wrap .i64 (.add (.var 2) (.lit 1))) (.lit 1))), (.add (.mul (.var 0) (.lit (-1))) (.lit 256))] [] [(.upd (.upd (.upd (.upd (.upd (.upd (.upd (.upd (.row 0) (.mul (.var 1) (.lit 8)) (.lit 1)) (.add (.mul (.var 1) (.lit 8)) (.lit 1)) (.lit 0)) (.add (.mul (.var 1) (.lit 8)) (.lit 2)) (.lit 0)) (.add (.mul (.var 1) (.lit 8)) (.lit 3)) (.lit 1)) (.add (.mul (.var 1) (.lit 8)) (.lit 4)) (.lit 0)) (.add (.mul (.var 1) (.lit 8)) (.lit 5)) (.lit 0)) (.add (.mul (.var 1) (.lit 8)) (.lit 6)) (.lit 0)) (.add (.mul (.var 1) (.lit 8)) (.lit 7)) (.lit 0))]),
  ([((.lss (.mul (.var 0) (.lit 2)) (.var 1)), false), h7, h3, h2], .cut 17 [(.var 0), (.var 1), (.wrap .i64 (.add (.var 2) (.lit 1))), (.add (.mul (.var 0) (.lit (-1))) (.lit 255))] [] [(.row 0)])]
theorem q18 : PartOK Tryz.prog cuts m18 true g18 t18.cfg := ⟨1000000, d18, by kernel_rfl, by kernel_rfl⟩
theorem q1 : PartOK Tryz.prog cuts ⟨15, none, 0, none, 0, none⟩ true g0 t1.cfg := ⟨1000000, [ ([h0], .cut 2 [(.var 0), (.var 1), (.var 2), (.var 3)] [(.var 0), (.var 1)] [(.row 0)])], by kernel_rfl, by kernel_rfl⟩
theorem q13ba : PartOK Tryz.prog cuts m13 true { rng := g13.rng, asm := [((.eql (.var 0) (.lit 255)), true), h9, h1, h4] } t13.cfg := ⟨1000000, [ ([((.eql (.var 0) (.lit 255)), true), h9, h1, h4], .cut 16 [(.var 4), (.var 0), (.var 5), (.wrap .i64 (.add (.var 6) (.lit 1)))] [] [(.row 1)])], by kernel_rfl, by kernel_rfl⟩
theorem q4 : PartOK Tryz.prog cuts ⟨12, none, 0, none, 0, none⟩ true g0 t4.cfg := ⟨1000000, [ ([h0], .cut 5 [(.var 0), (.var 1), (.var 2), (.var 3)] [(.var 0), (.var 1)] [(.row 0)])], by kernel_rfl, by kernel_rfl⟩
theorem q5 : PartOK Tryz.prog cuts ⟨11, none, 0, none, 0, none⟩ true g0 t5.cfg := ⟨1000000, [ ([h0], .cut 6 [(.var 0), (.var 1), (.var 2), (.var 3)] [(.var 0), (.var 1)] [(.row 0)])], by kernel_rfl, by kernel_rfl⟩
def d17 : List (List (SB × Bool) × Leaf) := [
  ([h7, h8, ((.lss (.var 0) (.var 0)), false), ((.lss (.mul (.var 0) (.lit 2)) (.var 1)), false), ((.lss (.var 0) (.var 0)), false), h3, h2], .cut 18 [(.add (.var 0) (.lit (-1))), (.add (.var 1) (.lit 1)), (.wrap .i64 (.add (.var 2) (.lit 1))), (.add (.mul (.var 0) (.lit (-1))) (.lit 256))] [] [(.upd (.upd (.upd (.upd (.upd (.upd (.upd (.upd (.row 0) (.mul (.var 1) (.lit 8)) (.lit 1)) (.add (.mul (.var 1) (.lit 8)) (.lit 1)) (.lit 0)) (.add (.mul (.var 1) (.lit 8)) (.lit 2)) (.lit 0)) (.add (.mul (.var 1) (.lit 8)) (.lit 3)) (.lit 1)) (.add (.mul (.var 1) (.lit 8)) (.lit 4)) (.lit 0)) (.add (.mul (.var 1) (.lit 8)) (.lit 5)) (.lit 0)) (.add (.mul (.var 1) (.lit 8)) (.lit 6)) (.lit 0)) (.add (.mul (.var 1) (.lit 8)) (.lit 7)) (.lit 0))])]
theorem q17 : PartOK Tryz.prog cuts m17 true g17 t17.cfg := ⟨1000000, d17, by kernel_rfl, by kernel_rfl⟩

end
end Go.Proofs.YtkmogkobedmnkaaGreat.thinDeep
