/- Parts of the plan for the law ThinAgain: each is one kernel run. -/
import Derived.Test.YtkmogkobedmnkaaGreatThinAgainPlan
namespace Go.Proofs.YtkmogkobedmnkaaGreat.thinAgain
open Go Go.Ev
noncomputable section

theorem q14ba : PartOK Tryz.prog cuts m14 true { rng := g14.rng, asm := [((.eql (.mul (.var 1) (.lit 2)) (.lit 0)), true), ((.lss (.var 1) (.rem (.var 0) (.lit 40))), false), h0] } t14.cfg := ⟨1000000, [ ([((.eql (.mul (.var 1) (.lit 2)) (.lit 0)), true), ((.lss (.var 1) (.rem (.var 0) (.lit 40))), false), h0], .fin (.lit true))], by kernel_rfl, by kernel_rfl⟩
theorem q14bb : PartOK Tryz.prog cuts m14 true { rng := g14.rng, asm := [((.eql (.mul (.var 1) (.lit 2)) (.lit 0)), false), ((.lss (.var 1) (.rem (.var 0) (.lit 40))), false), h0] } t14.cfg := ⟨1000000, [ ([((.eql (.mul (.var 1) (.lit 2)) (.lit 0)), false), ((.lss (.var 1) (.rem (.var 0) (.lit 40))), false), h0], .fin (.lit true))], by kernel_rfl, by kernel_rfl⟩
theorem q14a : PartOK Tryz.prog cuts m14 true { rng := g14.rng, asm := [((.lss (.var 1) (.rem (.var 0) (.lit 40))), true), h0] } t14.cfg := ⟨1000000, [ ([((.lss (.var 1) (.rem (.var 0) (.lit 40))), true), h0], .cut 15 [(.var 0), (.var 1), (.wrap .i64 (.add (.wrap .i64 (.add (.var 2) (.lit 1))) (.lit 1)))] [] [(.row 0)])], by kernel_rfl, by kernel_rfl⟩
theorem q8 : PartOK Tryz.prog cuts ⟨5, none, 0, none, 0, none⟩ true g0 t8.cfg := ⟨1000000, [ ([h1], .cut 9 [(.var 0)] [] []), ([((.lss (.lit 0) (.rem (.var 0) (.lit 40))), false)], .cut 10 [(.var 0)] [] [])], by kernel_rfl, by kernel_rfl⟩
theorem q0 : PartOK Tryz.prog cuts ⟨13, none, 0, none, 0, none⟩ true g0 t0.cfg := ⟨1000000, [ ([], .cut 1 [(.var 0)] [] [])], by kernel_rfl, by kernel_rfl⟩
theorem q2 : PartOK Tryz.prog cuts ⟨11, none, 0, none, 0, none⟩ true g0 t2.cfg := ⟨1000000, [ ([], .cut 3 [(.var 0)] [] [])], by kernel_rfl, by kernel_rfl⟩
theorem q12 : PartOK Tryz.prog cuts ⟨1, none, 0, none, 0, none⟩ true g12 t12.cfg := ⟨1000000, [ ([], .fin (.lit true))], by kernel_rfl, by kernel_rfl⟩

end
end Go.Proofs.YtkmogkobedmnkaaGreat.thinAgain
