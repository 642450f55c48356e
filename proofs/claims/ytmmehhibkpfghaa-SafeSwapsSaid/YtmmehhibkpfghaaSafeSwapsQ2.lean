/- Parts of the plan for the law SafeSwaps: each is one kernel run. -/
import Derived.Test.YtmmehhibkpfghaaSafeSwapsPlan
namespace Go.Proofs.Ytmmehhibkpfghaa.safeSwaps
open Go Go.Ev
noncomputable section

theorem qsabaaa : PartOK Try.prog cuts { rank := top } false { rng := (Go.Ev.ctxP shape).rng, asm := [h82, h70, h66, h53, h51] } (Go.Ev.startP Try.prog 4 shape) := ⟨1000000, [ ([h82, h70, h66, h53, h51], .cut 4 [(.var 0), (.rem (.var 0) (.lit 4))] [(.var 4)] [])], by kernel_rfl, by kernel_rfl⟩
theorem qsbbbaba : PartOK Try.prog cuts { rank := top } false { rng := (Go.Ev.ctxP shape).rng, asm := [h82, h69, h66, h54, h50, h44] } (Go.Ev.startP Try.prog 4 shape) := ⟨1000000, [ ([h82, h69, h66, h54, h50, h44], .cut 22 [(.var 0), (.rem (.var 0) (.lit 4))] [(.var 4)] [])], by kernel_rfl, by kernel_rfl⟩
theorem qsbbaba : PartOK Try.prog cuts { rank := top } false { rng := (Go.Ev.ctxP shape).rng, asm := [h76, h81, h84, h50, h44] } (Go.Ev.startP Try.prog 4 shape) := ⟨1000000, [ ([h76, h81, h84, h50, h44], .cut 17 [(.rem (.var 0) (.lit 4))] [(.var 4)] [])], by kernel_rfl, by kernel_rfl⟩
theorem qsabbbab : PartOK Try.prog cuts { rank := top } false { rng := (Go.Ev.ctxP shape).rng, asm := [h81, h65, h67, h62, h53, h51] } (Go.Ev.startP Try.prog 4 shape) := ⟨1000000, [ ([h81, h65, h67, h62, h53, h51], .cut 7 [(.var 0), (.rem (.var 0) (.lit 4))] [(.var 4)] [])], by kernel_rfl, by kernel_rfl⟩
theorem qsbbbabbb : PartOK Try.prog cuts { rank := top } false { rng := (Go.Ev.ctxP shape).rng, asm := [h73, h81, h69, h66, h54, h50, h44] } (Go.Ev.startP Try.prog 4 shape) := ⟨1000000, [ ([h73, h81, h69, h66, h54, h50, h44], .cut 22 [(.var 0), (.rem (.var 0) (.lit 4))] [(.var 4)] [])], by kernel_rfl, by kernel_rfl⟩
def d34ba : List (List (SB × Bool) × Leaf) := [
  ([h78, h61, h58, h43], .cut 26 [(.lit 1), (.lit 1), (.var 0), (.var 1), (.var 2), (.var 1), (.wrap .i64 (.add (.wrap .i64 (.add (.var 3) (.lit 1))) (.lit 1)))] [(.var 0)] []),
  ([h3, h61, h58, h43], .cut 26 [(.var 1), (.lit 1), (.var 0), (.var 1), (.var 2), (.var 1), (.wrap .i64 (.add (.wrap .i64 (.add (.var 3) (.lit 1))) (.lit 1)))] [(.var 0)] []),
  ([h77, h60, h58, h43], .cut 26 [(.lit 2), (.lit 1), (.var 0), (.var 1), (.var 2), (.var 1), (.wrap .i64 (.add (.wrap .i64 (.add (.var 3) (.lit 1))) (.lit 1)))] [(.var 0)] []),
  ([h2, h60, h58, h43], .cut 26 [(.var 1), (.lit 1), (.var 0), (.var 1), (.var 2), (.var 1), (.wrap .i64 (.add (.wrap .i64 (.add (.var 3) (.lit 1))) (.lit 1)))] [(.var 0)] [])]
theorem q34ba : PartOK Try.prog cuts m34 true { rng := g32.rng, asm := [h58, h43] } t34.cfg := ⟨1000000, d34ba, by kernel_rfl, by kernel_rfl⟩
def d39ba : List (List (SB × Bool) × Leaf) := [
  ([h78, h61, h58, h43], .cut 31 [(.lit 1), (.lit 1), (.var 0), (.var 1), (.var 2), (.var 1), (.wrap .i64 (.add (.wrap .i64 (.add (.var 3) (.lit 1))) (.lit 1)))] [(.var 0)] []),
  ([h3, h61, h58, h43], .cut 31 [(.var 1), (.lit 1), (.var 0), (.var 1), (.var 2), (.var 1), (.wrap .i64 (.add (.wrap .i64 (.add (.var 3) (.lit 1))) (.lit 1)))] [(.var 0)] []),
  ([h77, h60, h58, h43], .cut 31 [(.lit 2), (.lit 1), (.var 0), (.var 1), (.var 2), (.var 1), (.wrap .i64 (.add (.wrap .i64 (.add (.var 3) (.lit 1))) (.lit 1)))] [(.var 0)] []),
  ([h2, h60, h58, h43], .cut 31 [(.var 1), (.lit 1), (.var 0), (.var 1), (.var 2), (.var 1), (.wrap .i64 (.add (.wrap .i64 (.add (.var 3) (.lit 1))) (.lit 1)))] [(.var 0)] [])]
theorem q39ba : PartOK Try.prog cuts m39 true { rng := g32.rng, asm := [h58, h43] } t39.cfg := ⟨1000000, d39ba, by kernel_rfl, by kernel_rfl⟩
def d37bbb : List (List (SB × Bool) × Leaf) := [
  ([h79, h59, h60, h49, h43], .cut 29 [(.lit 2), (.lit 1), (.var 0), (.var 1), (.var 2), (.lit 1), (.wrap .i64 (.add (.wrap .i64 (.add (.var 3) (.lit 1))) (.lit 1)))] [(.var 0)] []),
  ([h74, h59, h60, h49, h43], .cut 29 [(.lit 2), (.lit 1), (.var 0), (.var 1), (.var 2), (.lit 2), (.wrap .i64 (.add (.wrap .i64 (.add (.var 3) (.lit 1))) (.lit 1)))] [(.var 0)] []),
  ([h75, h60, h49, h43], .fin (.lit true))]
theorem q37bbb : PartOK Try.prog cuts m37 true { rng := g32.rng, asm := [h60, h49, h43] } t37.cfg := ⟨1000000, d37bbb, by kernel_rfl, by kernel_rfl⟩
theorem q1 : PartOK Try.prog cuts ⟨2, none, 0, none, 0, none⟩ true g1 t1.cfg := ⟨1000000, [ ([], .cut 24 [(.var 0), (.lit 1), (.var 0), (.var 1), (.lit 0), (.var 0), (.lit 12)] [(.var 0)] [])], by kernel_rfl, by kernel_rfl⟩
theorem q4 : PartOK Try.prog cuts ⟨2, none, 0, none, 0, none⟩ true g1 t4.cfg := ⟨1000000, [ ([], .cut 25 [(.var 0), (.lit 1), (.var 0), (.var 1), (.lit 0), (.var 0), (.lit 12)] [(.var 0)] [])], by kernel_rfl, by kernel_rfl⟩
theorem q7 : PartOK Try.prog cuts ⟨2, none, 0, none, 0, none⟩ true g1 t7.cfg := ⟨1000000, [ ([], .cut 26 [(.var 0), (.lit 1), (.var 0), (.var 1), (.lit 0), (.var 0), (.lit 12)] [(.var 0)] [])], by kernel_rfl, by kernel_rfl⟩
theorem q19 : PartOK Try.prog cuts ⟨2, none, 0, none, 0, none⟩ true g1 t19.cfg := ⟨1000000, [ ([], .cut 30 [(.var 0), (.lit 1), (.var 0), (.var 1), (.lit 0), (.var 0), (.lit 12)] [(.var 0)] [])], by kernel_rfl, by kernel_rfl⟩
theorem q17 : PartOK Try.prog cuts ⟨2, none, 0, none, 0, none⟩ true g0 t17.cfg := ⟨1000000, [ ([], .cut 29 [(.lit 2), (.lit 1), (.lit 1), (.var 0), (.lit 0), (.lit 1), (.lit 12)] [(.var 0)] [])], by kernel_rfl, by kernel_rfl⟩

end
end Go.Proofs.Ytmmehhibkpfghaa.safeSwaps
