/- Parts of the plan for the law SafeSwaps: each is one kernel run. -/
import Derived.Test.YtmmehhibkpfghaaSafeSwapsPlan
namespace Go.Proofs.Ytmmehhibkpfghaa.safeSwaps
open Go Go.Ev
noncomputable section

theorem qsababa : PartOK Try.prog cuts { rank := top } false { rng := (Go.Ev.ctxP shape).rng, asm := [h82, h67, h66, h53, h51] } (Go.Ev.startP Try.prog 4 shape) := ⟨1000000, [ ([h82, h67, h66, h53, h51], .cut 7 [(.var 0), (.rem (.var 0) (.lit 4))] [(.var 4)] [])], by kernel_rfl, by kernel_rfl⟩
theorem qsbbbbaba : PartOK Try.prog cuts { rank := top } false { rng := (Go.Ev.ctxP shape).rng, asm := [h82, h64, h72, h62, h54, h50, h44] } (Go.Ev.startP Try.prog 4 shape) := ⟨1000000, [ ([h82, h64, h72, h62, h54, h50, h44], .cut 19 [(.var 0), (.rem (.var 0) (.lit 4))] [(.var 4)] [])], by kernel_rfl, by kernel_rfl⟩
theorem qsbbbaaba : PartOK Try.prog cuts { rank := top } false { rng := (Go.Ev.ctxP shape).rng, asm := [h76, h81, h72, h66, h54, h50, h44] } (Go.Ev.startP Try.prog 4 shape) := ⟨1000000, [ ([h76, h81, h72, h66, h54, h50, h44], .cut 20 [(.rem (.var 0) (.lit 4))] [(.var 4)] [])], by kernel_rfl, by kernel_rfl⟩
theorem qsabbbbb : PartOK Try.prog cuts { rank := top } false { rng := (Go.Ev.ctxP shape).rng, asm := [h81, h64, h67, h62, h53, h51] } (Go.Ev.startP Try.prog 4 shape) := ⟨1000000, [ ([h81, h64, h67, h62, h53, h51], .cut 7 [(.var 0), (.rem (.var 0) (.lit 4))] [(.var 4)] [])], by kernel_rfl, by kernel_rfl⟩
theorem qsbbbbaab : PartOK Try.prog cuts { rank := top } false { rng := (Go.Ev.ctxP shape).rng, asm := [h81, h65, h72, h62, h54, h50, h44] } (Go.Ev.startP Try.prog 4 shape) := ⟨1000000, [ ([h81, h65, h72, h62, h54, h50, h44], .cut 19 [(.var 0), (.rem (.var 0) (.lit 4))] [(.var 4)] [])], by kernel_rfl, by kernel_rfl⟩
def d35a : List (List (SB × Bool) × Leaf) := [
  ([h65, h61, h57], .cut 27 [(.lit 1), (.lit 1), (.var 0), (.var 1), (.var 2), (.var 0), (.wrap .i64 (.add (.wrap .i64 (.add (.var 3) (.lit 1))) (.lit 1)))] [(.var 0)] []),
  ([h64, h61, h57], .cut 27 [(.var 0), (.lit 1), (.var 0), (.var 1), (.var 2), (.var 0), (.wrap .i64 (.add (.wrap .i64 (.add (.var 3) (.lit 1))) (.lit 1)))] [(.var 0)] []),
  ([h76, h60, h57], .cut 27 [(.lit 2), (.lit 1), (.var 0), (.var 1), (.var 2), (.var 0), (.wrap .i64 (.add (.wrap .i64 (.add (.var 3) (.lit 1))) (.lit 1)))] [(.var 0)] []),
  ([h73, h60, h57], .cut 27 [(.var 0), (.lit 1), (.var 0), (.var 1), (.var 2), (.var 0), (.wrap .i64 (.add (.wrap .i64 (.add (.var 3) (.lit 1))) (.lit 1)))] [(.var 0)] [])]
theorem q35a : PartOK Try.prog cuts m35 true { rng := g32.rng, asm := [h57] } t35.cfg := ⟨1000000, d35a, by kernel_rfl, by kernel_rfl⟩
def d32bba : List (List (SB × Bool) × Leaf) := [
  ([h79, h59, h61, h49, h43], .cut 24 [(.lit 1), (.lit 1), (.var 0), (.var 1), (.var 2), (.lit 1), (.wrap .i64 (.add (.wrap .i64 (.add (.var 3) (.lit 1))) (.lit 1)))] [(.var 0)] []),
  ([h74, h59, h61, h49, h43], .cut 24 [(.lit 1), (.lit 1), (.var 0), (.var 1), (.var 2), (.lit 2), (.wrap .i64 (.add (.wrap .i64 (.add (.var 3) (.lit 1))) (.lit 1)))] [(.var 0)] []),
  ([h75, h61, h49, h43], .fin (.lit true))]
theorem q32bba : PartOK Try.prog cuts m32 true { rng := g32.rng, asm := [h61, h49, h43] } t32.cfg := ⟨1000000, d32bba, by kernel_rfl, by kernel_rfl⟩
def d36bba : List (List (SB × Bool) × Leaf) := [
  ([h79, h59, h61, h49, h43], .cut 28 [(.lit 1), (.lit 1), (.var 0), (.var 1), (.var 2), (.lit 1), (.wrap .i64 (.add (.wrap .i64 (.add (.var 3) (.lit 1))) (.lit 1)))] [(.var 0)] []),
  ([h74, h59, h61, h49, h43], .cut 28 [(.lit 1), (.lit 1), (.var 0), (.var 1), (.var 2), (.lit 2), (.wrap .i64 (.add (.wrap .i64 (.add (.var 3) (.lit 1))) (.lit 1)))] [(.var 0)] []),
  ([h75, h61, h49, h43], .fin (.lit true))]
theorem q36bba : PartOK Try.prog cuts m36 true { rng := g32.rng, asm := [h61, h49, h43] } t36.cfg := ⟨1000000, d36bba, by kernel_rfl, by kernel_rfl⟩
def d38bbb : List (List (SB × Bool) × Leaf) := [
  ([h79, h59, h60, h49, h43], .cut 30 [(.lit 2), (.lit 1), (.var 0), (.var 1), (.var 2), (.lit 1), (.wrap .i64 (.add (.wrap .i64 (.add (.var 3) (.lit 1))) (.lit 1)))] [(.var 0)] []),
  ([h74, h59, h60, h49, h43], .cut 30 [(.lit 2), (.lit 1), (.var 0), (.var 1), (.var 2), (.lit 2), (.wrap .i64 (.add (.wrap .i64 (.add (.var 3) (.lit 1))) (.lit 1)))] [(.var 0)] []),
  ([h75, h60, h49, h43], .fin (.lit true))]
theorem q38bbb : PartOK Try.prog cuts m38 true { rng := g32.rng, asm := [h60, h49, h43] } t38.cfg := ⟨1000000, d38bbb, by kernel_rfl, by kernel_rfl⟩

end
end Go.Proofs.Ytmmehhibkpfghaa.safeSwaps
