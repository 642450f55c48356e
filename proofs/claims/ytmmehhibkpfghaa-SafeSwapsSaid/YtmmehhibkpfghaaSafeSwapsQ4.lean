/- Parts of the plan for the law SafeSwaps: each is one kernel run. -/
import Derived.Test.YtmmehhibkpfghaaSafeSwapsPlan
namespace Go.Proofs.Ytmmehhibkpfghaa.safeSwaps
open Go Go.Ev
noncomputable section

theorem qsabbaba : PartOK Try.prog cuts { rank := top } false { rng := (Go.Ev.ctxP shape).rng, asm := [h82, h64, h70, h62, h53, h51] } (Go.Ev.startP Try.prog 4 shape) := ⟨1000000, [ ([h82, h64, h70, h62, h53, h51], .cut 4 [(.var 0), (.rem (.var 0) (.lit 4))] [(.var 4)] [])], by kernel_rfl, by kernel_rfl⟩
theorem qsbbbbbba : PartOK Try.prog cuts { rank := top } false { rng := (Go.Ev.ctxP shape).rng, asm := [h82, h64, h69, h62, h54, h50, h44] } (Go.Ev.startP Try.prog 4 shape) := ⟨1000000, [ ([h82, h64, h69, h62, h54, h50, h44], .cut 22 [(.var 0), (.rem (.var 0) (.lit 4))] [(.var 4)] [])], by kernel_rfl, by kernel_rfl⟩
theorem qsbbbabba : PartOK Try.prog cuts { rank := top } false { rng := (Go.Ev.ctxP shape).rng, asm := [h76, h81, h69, h66, h54, h50, h44] } (Go.Ev.startP Try.prog 4 shape) := ⟨1000000, [ ([h76, h81, h69, h66, h54, h50, h44], .cut 23 [(.rem (.var 0) (.lit 4))] [(.var 4)] [])], by kernel_rfl, by kernel_rfl⟩
theorem qsbaaabb : PartOK Try.prog cuts { rank := top } false { rng := (Go.Ev.ctxP shape).rng, asm := [h73, h81, h71, h66, h55, h44] } (Go.Ev.startP Try.prog 4 shape) := ⟨1000000, [ ([h73, h81, h71, h66, h55, h44], .cut 10 [(.var 0), (.rem (.var 0) (.lit 4))] [(.var 4)] [])], by kernel_rfl, by kernel_rfl⟩
theorem qsbbbbabb : PartOK Try.prog cuts { rank := top } false { rng := (Go.Ev.ctxP shape).rng, asm := [h81, h64, h72, h62, h54, h50, h44] } (Go.Ev.startP Try.prog 4 shape) := ⟨1000000, [ ([h81, h64, h72, h62, h54, h50, h44], .cut 19 [(.var 0), (.rem (.var 0) (.lit 4))] [(.var 4)] [])], by kernel_rfl, by kernel_rfl⟩
def d35ba : List (List (SB × Bool) × Leaf) := [
  ([h78, h61, h58, h43], .cut 27 [(.lit 1), (.lit 1), (.var 0), (.var 1), (.var 2), (.var 1), (.wrap .i64 (.add (.wrap .i64 (.add (.var 3) (.lit 1))) (.lit 1)))] [(.var 0)] []),
  ([h3, h61, h58, h43], .cut 27 [(.var 1), (.lit 1), (.var 0), (.var 1), (.var 2), (.var 1), (.wrap .i64 (.add (.wrap .i64 (.add (.var 3) (.lit 1))) (.lit 1)))] [(.var 0)] []),
  ([h77, h60, h58, h43], .cut 27 [(.lit 2), (.lit 1), (.var 0), (.var 1), (.var 2), (.var 1), (.wrap .i64 (.add (.wrap .i64 (.add (.var 3) (.lit 1))) (.lit 1)))] [(.var 0)] []),
  ([h2, h60, h58, h43], .cut 27 [(.var 1), (.lit 1), (.var 0), (.var 1), (.var 2), (.var 1), (.wrap .i64 (.add (.wrap .i64 (.add (.var 3) (.lit 1))) (.lit 1)))] [(.var 0)] [])]
theorem q35ba : PartOK Try.prog cuts m35 true { rng := g32.rng, asm := [h58, h43] } t35.cfg := ⟨1000000, d35ba, by kernel_rfl, by kernel_rfl⟩
def d33bba : List (List (SB × Bool) × Leaf) := [
  ([h79, h59, h61, h49, h43], .cut 25 [(.lit 1), (.lit 1), (.var 0), (.var 1), (.var 2), (.lit 1), (.wrap .i64 (.add (.wrap .i64 (.add (.var 3) (.lit 1))) (.lit 1)))] [(.var 0)] []),
  ([h74, h59, h61, h49, h43], .cut 25 [(.lit 1), (.lit 1), (.var 0), (.var 1), (.var 2), (.lit 2), (.wrap .i64 (.add (.wrap .i64 (.add (.var 3) (.lit 1))) (.lit 1)))] [(.var 0)] []),
  ([h75, h61, h49, h43], .fin (.lit true))]
theorem q33bba : PartOK Try.prog cuts m33 true { rng := g32.rng, asm := [h61, h49, h43] } t33.cfg := ⟨1000000, d33bba, by kernel_rfl, by kernel_rfl⟩
def d37bba : List (List (SB × Bool) × Leaf) := [
  ([h79, h59, h61, h49, h43], .cut 29 [(.lit 1), (.lit 1), (.var 0), (.var 1), (.var 2), (.lit 1), (.wrap .i64 (.add (.wrap .i64 (.add (.var 3) (.lit 1))) (.lit 1)))] [(.var 0)] []),
  ([h74, h59, h61, h49, h43], .cut 29 [(.lit 1), (.lit 1), (.var 0), (.var 1), (.var 2), (.lit 2), (.wrap .i64 (.add (.wrap .i64 (.add (.var 3) (.lit 1))) (.lit 1)))] [(.var 0)] []),
  ([h75, h61, h49, h43], .fin (.lit true))]
theorem q37bba : PartOK Try.prog cuts m37 true { rng := g32.rng, asm := [h61, h49, h43] } t37.cfg := ⟨1000000, d37bba, by kernel_rfl, by kernel_rfl⟩
def d39bbb : List (List (SB × Bool) × Leaf) := [
  ([h79, h59, h60, h49, h43], .cut 31 [(.lit 2), (.lit 1), (.var 0), (.var 1), (.var 2), (.lit 1), (.wrap .i64 (.add (.wrap .i64 (.add (.var 3) (.lit 1))) (.lit 1)))] [(.var 0)] []),
  ([h74, h59, h60, h49, h43], .cut 31 [(.lit 2), (.lit 1), (.var 0), (.var 1), (.var 2), (.lit 2), (.wrap .i64 (.add (.wrap .i64 (.add (.var 3) (.lit 1))) (.lit 1)))] [(.var 0)] []),
  ([h75, h60, h49, h43], .fin (.lit true))]
theorem q39bbb : PartOK Try.prog cuts m39 true { rng := g32.rng, asm := [h60, h49, h43] } t39.cfg := ⟨1000000, d39bbb, by kernel_rfl, by kernel_rfl⟩

end
end Go.Proofs.Ytmmehhibkpfghaa.safeSwaps
