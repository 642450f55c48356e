/- Parts of the plan for the law SafeSwaps: each is one kernel run. -/
import Derived.Test.YtmmehhibkpfghaaSafeSwapsPlan
namespace Go.Proofs.Ytmmehhibkpfghaa.safeSwaps
open Go Go.Ev
noncomputable section

theorem qsaaab : PartOK Try.prog cuts { rank := top } false { rng := (Go.Ev.ctxP shape).rng, asm := [h64, h82, h83, h51] } (Go.Ev.startP Try.prog 4 shape) := ⟨1000000, [ ([h64, h82, h83, h51], .cut 1 [(.var 0), (.rem (.var 0) (.lit 4))] [(.var 4)] [])], by kernel_rfl, by kernel_rfl⟩
theorem qsbbbaaa : PartOK Try.prog cuts { rank := top } false { rng := (Go.Ev.ctxP shape).rng, asm := [h82, h72, h66, h54, h50, h44] } (Go.Ev.startP Try.prog 4 shape) := ⟨1000000, [ ([h82, h72, h66, h54, h50, h44], .cut 19 [(.var 0), (.rem (.var 0) (.lit 4))] [(.var 4)] [])], by kernel_rfl, by kernel_rfl⟩
theorem qsbaabba : PartOK Try.prog cuts { rank := top } false { rng := (Go.Ev.ctxP shape).rng, asm := [h76, h81, h68, h66, h55, h44] } (Go.Ev.startP Try.prog 4 shape) := ⟨1000000, [ ([h76, h81, h68, h66, h55, h44], .cut 14 [(.rem (.var 0) (.lit 4))] [(.var 4)] [])], by kernel_rfl, by kernel_rfl⟩
theorem qsabbabb : PartOK Try.prog cuts { rank := top } false { rng := (Go.Ev.ctxP shape).rng, asm := [h81, h64, h70, h62, h53, h51] } (Go.Ev.startP Try.prog 4 shape) := ⟨1000000, [ ([h81, h64, h70, h62, h53, h51], .cut 4 [(.var 0), (.rem (.var 0) (.lit 4))] [(.var 4)] [])], by kernel_rfl, by kernel_rfl⟩
theorem qsbbbaabb : PartOK Try.prog cuts { rank := top } false { rng := (Go.Ev.ctxP shape).rng, asm := [h73, h81, h72, h66, h54, h50, h44] } (Go.Ev.startP Try.prog 4 shape) := ⟨1000000, [ ([h73, h81, h72, h66, h54, h50, h44], .cut 19 [(.var 0), (.rem (.var 0) (.lit 4))] [(.var 4)] [])], by kernel_rfl, by kernel_rfl⟩
def d34a : List (List (SB × Bool) × Leaf) := [
  ([h65, h61, h57], .cut 26 [(.lit 1), (.lit 1), (.var 0), (.var 1), (.var 2), (.var 0), (.wrap .i64 (.add (.wrap .i64 (.add (.var 3) (.lit 1))) (.lit 1)))] [(.var 0)] []),
  ([h64, h61, h57], .cut 26 [(.var 0), (.lit 1), (.var 0), (.var 1), (.var 2), (.var 0), (.wrap .i64 (.add (.wrap .i64 (.add (.var 3) (.lit 1))) (.lit 1)))] [(.var 0)] []),
  ([h76, h60, h57], .cut 26 [(.lit 2), (.lit 1), (.var 0), (.var 1), (.var 2), (.var 0), (.wrap .i64 (.add (.wrap .i64 (.add (.var 3) (.lit 1))) (.lit 1)))] [(.var 0)] []),
  ([h73, h60, h57], .cut 26 [(.var 0), (.lit 1), (.var 0), (.var 1), (.var 2), (.var 0), (.wrap .i64 (.add (.wrap .i64 (.add (.var 3) (.lit 1))) (.lit 1)))] [(.var 0)] [])]
theorem q34a : PartOK Try.prog cuts m34 true { rng := g32.rng, asm := [h57] } t34.cfg := ⟨1000000, d34a, by kernel_rfl, by kernel_rfl⟩
def d39a : List (List (SB × Bool) × Leaf) := [
  ([h65, h61, h57], .cut 31 [(.lit 1), (.lit 1), (.var 0), (.var 1), (.var 2), (.var 0), (.wrap .i64 (.add (.wrap .i64 (.add (.var 3) (.lit 1))) (.lit 1)))] [(.var 0)] []),
  ([h64, h61, h57], .cut 31 [(.var 0), (.lit 1), (.var 0), (.var 1), (.var 2), (.var 0), (.wrap .i64 (.add (.wrap .i64 (.add (.var 3) (.lit 1))) (.lit 1)))] [(.var 0)] []),
  ([h76, h60, h57], .cut 31 [(.lit 2), (.lit 1), (.var 0), (.var 1), (.var 2), (.var 0), (.wrap .i64 (.add (.wrap .i64 (.add (.var 3) (.lit 1))) (.lit 1)))] [(.var 0)] []),
  ([h73, h60, h57], .cut 31 [(.var 0), (.lit 1), (.var 0), (.var 1), (.var 2), (.var 0), (.wrap .i64 (.add (.wrap .i64 (.add (.var 3) (.lit 1))) (.lit 1)))] [(.var 0)] [])]
theorem q39a : PartOK Try.prog cuts m39 true { rng := g32.rng, asm := [h57] } t39.cfg := ⟨1000000, d39a, by kernel_rfl, by kernel_rfl⟩
def d36bbb : List (List (SB × Bool) × Leaf) := [
  ([h79, h59, h60, h49, h43], .cut 28 [(.lit 2), (.lit 1), (.var 0), (.var 1), (.var 2), (.lit 1), (.wrap .i64 (.add (.wrap .i64 (.add (.var 3) (.lit 1))) (.lit 1)))] [(.var 0)] []),
  ([h74, h59, h60, h49, h43], .cut 28 [(.lit 2), (.lit 1), (.var 0), (.var 1), (.var 2), (.lit 2), (.wrap .i64 (.add (.wrap .i64 (.add (.var 3) (.lit 1))) (.lit 1)))] [(.var 0)] []),
  ([h75, h60, h49, h43], .fin (.lit true))]
theorem q36bbb : PartOK Try.prog cuts m36 true { rng := g32.rng, asm := [h60, h49, h43] } t36.cfg := ⟨1000000, d36bbb, by kernel_rfl, by kernel_rfl⟩
theorem q0 : PartOK Try.prog cuts ⟨2, none, 0, none, 0, none⟩ true g0 t0.cfg := ⟨1000000, [ ([], .cut 24 [(.lit 1), (.lit 1), (.lit 2), (.var 0), (.lit 0), (.lit 2), (.lit 12)] [(.var 0)] [])], by kernel_rfl, by kernel_rfl⟩
theorem q3 : PartOK Try.prog cuts ⟨2, none, 0, none, 0, none⟩ true g0 t3.cfg := ⟨1000000, [ ([], .cut 25 [(.lit 1), (.lit 1), (.lit 2), (.var 0), (.lit 0), (.lit 2), (.lit 12)] [(.var 0)] [])], by kernel_rfl, by kernel_rfl⟩
theorem q6 : PartOK Try.prog cuts ⟨2, none, 0, none, 0, none⟩ true g0 t6.cfg := ⟨1000000, [ ([], .cut 26 [(.lit 1), (.lit 1), (.lit 2), (.var 0), (.lit 0), (.lit 2), (.lit 12)] [(.var 0)] [])], by kernel_rfl, by kernel_rfl⟩
theorem q18 : PartOK Try.prog cuts ⟨2, none, 0, none, 0, none⟩ true g0 t18.cfg := ⟨1000000, [ ([], .cut 30 [(.lit 1), (.lit 1), (.lit 2), (.var 0), (.lit 0), (.lit 2), (.lit 12)] [(.var 0)] [])], by kernel_rfl, by kernel_rfl⟩
theorem q14 : PartOK Try.prog cuts ⟨2, none, 0, none, 0, none⟩ true g0 t14.cfg := ⟨1000000, [ ([], .cut 28 [(.lit 2), (.lit 1), (.lit 1), (.var 0), (.lit 0), (.lit 1), (.lit 12)] [(.var 0)] [])], by kernel_rfl, by kernel_rfl⟩

end
end Go.Proofs.Ytmmehhibkpfghaa.safeSwaps
