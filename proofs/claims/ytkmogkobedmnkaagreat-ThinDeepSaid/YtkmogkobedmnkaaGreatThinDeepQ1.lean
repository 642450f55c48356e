/- Parts of the plan for the law ThinDeep: each is one kernel run. -/
import Derived.Test.YtkmogkobedmnkaaGreatThinDeepPlan
namespace Go.Proofs.YtkmogkobedmnkaaGreat.thinDeep
open Go Go.Ev
noncomputable section

def d13bb : List (List (SB × Bool) × Leaf) := [
  ([((.eql (.add (.var 4) (.lit (-1))) (.lit 0)), true), h8, h9, h1, h4], .cut 14 [(.var 0), (.var 5), (.wrap .i64 (.add (.var 6) (.lit 1))), (.add (.mul (.var 0) (.lit (-1))) (.lit 255))] [] [(.row 1)]),
  ([((.lss (.mul (.var 0) (.lit 2)) (.var 5)), true), ((.eql (.add (.var 4) (.lit (-1))) (.lit 0)), false), h8, h9, h1, h4], .cut 18 [(.add (.var 0) (.lit (-1))), (.add (.var 5) (.lit 1)), (.wrap .i64 (.add (.wrap .i64 (.add (.var 6) (.lit 1))) (.lit 1))), (.add (.mul (.var 0) (.lit (-1))) (.lit 256))] [] [(.upd (.upd (.upd (.upd (.upd (.upd (.upd (.upd (.row 1) (.mul (.var 5) (.lit 8)) (.lit 1)) (.add (.mul (.var 5) (.lit 8)) (.lit 1)) (.lit 0)) (.add (.mul (.var 5) (.lit 8)) (.lit 2)) (.lit 0)) (.add (.mul (.var 5) (.lit 8)) (.lit 3)) (.lit 1)) (.add (.mul (.var 5) (.lit 8)) (.lit 4)) (.lit 0)) (.add (.mul (.var 5) (.lit 8)) (.lit 5)) (.lit 0)) (.add (.mul (.var 5) (.lit 8)) (.lit 6)) (.lit 0)) (.add (.mul (.var 5) (.lit 8)) (.lit 7)) (.lit 0))]),
  ([((.lss (.mul (.var 0) (.lit 2)) (.var 5)), false), ((.eql (.add (.var 4) (.lit (-1))) (.lit 0)), false), h8, h9, h1, h4], .cut 17 [(.var 0), (.var 5), (.wrap .i64 (.add (.var 6) (.lit 1))), (.add (.mul (.var 0) (.lit (-1))) (.lit 255))] [] [(.row 1)])]
theorem q13bb : PartOK Tryz.prog cuts m13 true { rng := g13.rng, asm := [h8, h9, h1, h4] } t13.cfg := ⟨1000000, d13bb, by kernel_rfl, by kernel_rfl⟩
theorem qs : PartOK Tryz.prog cuts { rank := top } false (Go.Ev.ctxP shape) (Go.Ev.startP Tryz.prog 3 shape) := ⟨1000000, [ ([((.lss (.var 5) (.var 4)), false)], .cut 0 [(.var 0), (.var 3), (.var 4), (.var 5)] [(.var 2), (.var 3)] [(.row 1)])], by kernel_rfl, by kernel_rfl⟩
def d16 : List (List (SB × Bool) × Leaf) := [
  ([((.eql (.var 1) (.lit 255)), true), ((.lss (.var 0) (.var 1)), false), ((.lss (.mul (.var 0) (.lit 2)) (.var 2)), false), ((.lss (.var 1) (.var 0)), false)], .cut 18 [(.add (.var 1) (.lit (-1))), (.add (.var 2) (.lit 1)), (.wrap .i64 (.add (.wrap .i64 (.add (.var 3) (.lit 1))) (.lit 1))), (.add (.mul (.var 1) (.lit (-1))) (.lit 256))] [] [(.upd (.upd (.upd (.upd (.upd (.upd (.upd (.upd (.row 0) (.mul (.var 2) (.lit 8)) (.lit 1)) (.add (.mul (.var 2) (.lit 8)) (.lit 1)) (.lit 0)) (.add (.mul (.var 2) (.lit 8)) (.lit 2)) (.lit 0)) (.add (.mul (.var 2) (.lit 8)) (.lit 3)) (.lit 1)) (.add (.mul (.var 2) (.lit 8)) (.lit 4)) (.lit 0)) (.add (.mul (.var 2) (.lit 8)) (.lit 5)) (.lit 0)) (.add (.mul (.var 2) (.lit 8)) (.lit 6)) (.lit 0)) (.add (.mul (.var 2) (.lit 8)) (.lit 7)) (.lit 0))])]
theorem q16 : PartOK Tryz.prog cuts ⟨4, none, 0, none, 0, none⟩ true g16 t16.cfg := ⟨1000000, d16, by kernel_rfl, by kernel_rfl⟩
theorem q0 : PartOK Tryz.prog cuts ⟨16, none, 0, none, 0, none⟩ true g0 t0.cfg := ⟨1000000, [ ([h0], .cut 1 [(.var 0), (.var 1), (.var 2), (.var 3)] [(.var 0), (.var 1)] [(.row 0)])], by kernel_rfl, by kernel_rfl⟩
theorem q13a : PartOK Tryz.prog cuts m13 true { rng := g13.rng, asm := [h6, h1, h4] } t13.cfg := ⟨1000000, [ ([h6, h1, h4], .cut 15 [(.var 0), (.var 1), (.var 2), (.var 3), (.var 4), (.var 5), (.wrap .i64 (.add (.var 6) (.lit 1))), (.lit 0)] [(.var 0), (.var 1)] [(.row 0), (.row 1)])], by kernel_rfl, by kernel_rfl⟩

end
end Go.Proofs.YtkmogkobedmnkaaGreat.thinDeep
