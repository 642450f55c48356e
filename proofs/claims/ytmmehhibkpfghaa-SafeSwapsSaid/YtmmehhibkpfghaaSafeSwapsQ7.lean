/- Parts of the plan for the law SafeSwaps: each is one kernel run. -/
import Derived.Test.YtmmehhibkpfghaaSafeSwapsPlan
namespace Go.Proofs.Ytmmehhibkpfghaa.safeSwaps
open Go Go.Ev
noncomputable section

theorem qsbaaba : PartOK Try.prog cuts { rank := top } false { rng := (Go.Ev.ctxP shape).rng, asm := [h82, h68, h66, h55, h44] } (Go.Ev.startP Try.prog 4 shape) := ⟨1000000, [ ([h82, h68, h66, h55, h44], .cut 13 [(.var 0), (.rem (.var 0) (.lit 4))] [(.var 4)] [])], by kernel_rfl, by kernel_rfl⟩
theorem qsabbbaa : PartOK Try.prog cuts { rank := top } false { rng := (Go.Ev.ctxP shape).rng, asm := [h82, h65, h67, h62, h53, h51] } (Go.Ev.startP Try.prog 4 shape) := ⟨1000000, [ ([h82, h65, h67, h62, h53, h51], .cut 6 [(.rem (.var 0) (.lit 4))] [(.var 4)] [])], by kernel_rfl, by kernel_rfl⟩
theorem qsaaba : PartOK Try.prog cuts { rank := top } false { rng := (Go.Ev.ctxP shape).rng, asm := [h76, h81, h83, h51] } (Go.Ev.startP Try.prog 4 shape) := ⟨1000000, [ ([h76, h81, h83, h51], .cut 2 [(.rem (.var 0) (.lit 4))] [(.var 4)] [])], by kernel_rfl, by kernel_rfl⟩
theorem qsaabb : PartOK Try.prog cuts { rank := top } false { rng := (Go.Ev.ctxP shape).rng, asm := [h73, h81, h83, h51] } (Go.Ev.startP Try.prog 4 shape) := ⟨1000000, [ ([h73, h81, h83, h51], .cut 1 [(.var 0), (.rem (.var 0) (.lit 4))] [(.var 4)] [])], by kernel_rfl, by kernel_rfl⟩
theorem qsbababb : PartOK Try.prog cuts { rank := top } false { rng := (Go.Ev.ctxP shape).rng, asm := [h81, h64, h71, h62, h55, h44] } (Go.Ev.startP Try.prog 4 shape) := ⟨1000000, [ ([h81, h64, h71, h62, h55, h44], .cut 10 [(.var 0), (.rem (.var 0) (.lit 4))] [(.var 4)] [])], by kernel_rfl, by kernel_rfl⟩
def d32a : List (List (SB × Bool) × Leaf) := [
  ([h65, h61, h57], .cut 24 [(.lit 1), (.lit 1), (.var 0), (.var 1), (.var 2), (.var 0), (.wrap .i64 (.add (.wrap .i64 (.add (.var 3) (.lit 1))) (.lit 1)))] [(.var 0)] []),
  ([h64, h61, h57], .cut 24 [(.var 0), (.lit 1), (.var 0), (.var 1), (.var 2), (.var 0), (.wrap .i64 (.add (.wrap .i64 (.add (.var 3) (.lit 1))) (.lit 1)))] [(.var 0)] []),
  ([h76, h60, h57], .cut 24 [(.lit 2), (.lit 1), (.var 0), (.var 1), (.var 2), (.var 0), (.wrap .i64 (.add (.wrap .i64 (.add (.var 3) (.lit 1))) (.lit 1)))] [(.var 0)] []),
  ([h73, h60, h57], .cut 24 [(.var 0), (.lit 1), (.var 0), (.var 1), (.var 2), (.var 0), (.wrap .i64 (.add (.wrap .i64 (.add (.var 3) (.lit 1))) (.lit 1)))] [(.var 0)] [])]
theorem q32a : PartOK Try.prog cuts m32 true { rng := g32.rng, asm := [h57] } t32.cfg := ⟨1000000, d32a, by kernel_rfl, by kernel_rfl⟩
def d37a : List (List (SB × Bool) × Leaf) := [
  ([h65, h61, h57], .cut 29 [(.lit 1), (.lit 1), (.var 0), (.var 1), (.var 2), (.var 0), (.wrap .i64 (.add (.wrap .i64 (.add (.var 3) (.lit 1))) (.lit 1)))] [(.var 0)] []),
  ([h64, h61, h57], .cut 29 [(.var 0), (.lit 1), (.var 0), (.var 1), (.var 2), (.var 0), (.wrap .i64 (.add (.wrap .i64 (.add (.var 3) (.lit 1))) (.lit 1)))] [(.var 0)] []),
  ([h76, h60, h57], .cut 29 [(.lit 2), (.lit 1), (.var 0), (.var 1), (.var 2), (.var 0), (.wrap .i64 (.add (.wrap .i64 (.add (.var 3) (.lit 1))) (.lit 1)))] [(.var 0)] []),
  ([h73, h60, h57], .cut 29 [(.var 0), (.lit 1), (.var 0), (.var 1), (.var 2), (.var 0), (.wrap .i64 (.add (.wrap .i64 (.add (.var 3) (.lit 1))) (.lit 1)))] [(.var 0)] [])]
theorem q37a : PartOK Try.prog cuts m37 true { rng := g32.rng, asm := [h57] } t37.cfg := ⟨1000000, d37a, by kernel_rfl, by kernel_rfl⟩
def d32bbb : List (List (SB × Bool) × Leaf) := [
  ([h79, h59, h60, h49, h43], .cut 24 [(.lit 2), (.lit 1), (.var 0), (.var 1), (.var 2), (.lit 1), (.wrap .i64 (.add (.wrap .i64 (.add (.var 3) (.lit 1))) (.lit 1)))] [(.var 0)] []),
  ([h74, h59, h60, h49, h43], .cut 24 [(.lit 2), (.lit 1), (.var 0), (.var 1), (.var 2), (.lit 2), (.wrap .i64 (.add (.wrap .i64 (.add (.var 3) (.lit 1))) (.lit 1)))] [(.var 0)] []),
  ([h75, h60, h49, h43], .fin (.lit true))]
theorem q32bbb : PartOK Try.prog cuts m32 true { rng := g32.rng, asm := [h60, h49, h43] } t32.cfg := ⟨1000000, d32bbb, by kernel_rfl, by kernel_rfl⟩
def d28 : List (List (SB × Bool) × Leaf) := [
  ([h107, h0], .cut 28 [(.var 0), (.add (.var 1) (.lit 1)), (.var 2), (.var 3), (.var 4), (.var 5), (.var 6)] [(.var 0)] []),
  ([h127, h29, h0], .cut 28 [(.var 0), (.add (.var 1) (.lit 1)), (.var 2), (.var 3), (.var 4), (.var 5), (.var 6)] [(.var 0)] []),
  ([h77, h1, h29, h0], .cut 28 [(.var 0), (.add (.var 1) (.lit 1)), (.var 2), (.var 3), (.var 4), (.var 5), (.var 6)] [(.var 0)] []),
  ([h78, h2, h1, h29, h0], .cut 28 [(.var 0), (.add (.var 1) (.lit 1)), (.var 2), (.var 3), (.var 4), (.var 5), (.var 6)] [(.var 0)] []),
  ([h128, h3, h2, h1, h29, h0], .cut 28 [(.var 0), (.add (.var 1) (.lit 1)), (.var 2), (.var 3), (.var 4), (.var 5), (.var 6)] [(.var 0)] []),
  ([h129, h4, h3, h2, h1, h29, h0], .cut 28 [(.var 0), (.add (.var 1) (.lit 1)), (.var 2), (.var 3), (.var 4), (.var 5), (.var 6)] [(.var 0)] []),
  ([h130, h5, h4, h3, h2, h1, h29, h0], .cut 28 [(.var 0), (.add (.var 1) (.lit 1)), (.var 2), (.var 3), (.var 4), (.var 5), (.var 6)] [(.var 0)] []),
  ([h131, h6, h5, h4, h3, h2, h1, h29, h0], .cut 28 [(.var 0), (.add (.var 1) (.lit 1)), (.var 2), (.var 3), (.var 4), (.var 5), (.var 6)] [(.var 0)] []),
  ([h126, h8, h6, h5, h4, h3, h2, h1, h29, h0], .cut 28 [(.var 0), (.add (.var 1) (.lit 1)), (.var 2), (.var 3), (.var 4), (.var 5), (.var 6)] [(.var 0)] []),
  ([h132, h7, h8, h6, h5, h4, h3, h2, h1, h29, h0], .cut 28 [(.var 0), (.add (.var 1) (.lit 1)), (.var 2), (.var 3), (.var 4), (.var 5), (.var 6)] [(.var 0)] []),
  ([h133, h9, h7, h8, h6, h5, h4, h3, h2, h1, h29, h0], .cut 28 [(.var 0), (.add (.var 1) (.lit 1)), (.var 2), (.var 3), (.var 4), (.var 5), (.var 6)] [(.var 0)] []),
  ([h86, h11, h9, h7, h8, h6, h5, h4, h3, h2, h1, h29, h0], .cut 28 [(.var 0), (.add (.var 1) (.lit 1)), (.var 2), (.var 3), (.var 4), (.var 5), (.var 6)] [(.var 0)] []),
  ([h87, h10, h11, h9, h7, h8, h6, h5, h4, h3, h2, h1, h29, h0], .cut 28 [(.var 0), (.add (.var 1) (.lit 1)), (.var 2), (.var 3), (.var 4), (.var 5), (.var 6)] [(.var 0)] []),
  ([h88, h12, h10, h11, h9, h7, h8, h6, h5, h4, h3, h2, h1, h29, h0], .cut 28 [(.var 0), (.add (.var 1) (.lit 1)), (.var 2), (.var 3), (.var 4), (.var 5), (.var 6)] [(.var 0)] []),
  ([h89, h14, h12, h10, h11, h9, h7, h8, h6, h5, h4, h3, h2, h1, h29, h0], .cut 28 [(.var 0), (.add (.var 1) (.lit 1)), (.var 2), (.var 3), (.var 4), (.var 5), (.var 6)] [(.var 0)] []),
  ([h90, h13, h14, h12, h10, h11, h9, h7, h8, h6, h5, h4, h3, h2, h1, h29, h0], .cut 28 [(.var 0), (.add (.var 1) (.lit 1)), (.var 2), (.var 3), (.var 4), (.var 5), (.var 6)] [(.var 0)] []),
  ([h91, h15, h13, h14, h12, h10, h11, h9, h7, h8, h6, h5, h4, h3, h2, h1, h29, h0], .cut 28 [(.var 0), (.add (.var 1) (.lit 1)), (.var 2), (.var 3), (.var 4), (.var 5), (.var 6)] [(.var 0)] []),
  ([h92, h16, h15, h13, h14, h12, h10, h11, h9, h7, h8, h6, h5, h4, h3, h2, h1, h29, h0], .cut 28 [(.var 0), (.add (.var 1) (.lit 1)), (.var 2), (.var 3), (.var 4), (.var 5), (.var 6)] [(.var 0)] []),
  ([h93, h17, h16, h15, h13, h14, h12, h10, h11, h9, h7, h8, h6, h5, h4, h3, h2, h1, h29, h0], .cut 28 [(.var 0), (.add (.var 1) (.lit 1)), (.var 2), (.var 3), (.var 4), (.var 5), (.var 6)] [(.var 0)] []),
  ([h94, h19, h17, h16, h15, h13, h14, h12, h10, h11, h9, h7, h8, h6, h5, h4, h3, h2, h1, h29, h0], .cut 28 [(.var 0), (.add (.var 1) (.lit 1)), (.var 2), (.var 3), (.var 4), (.var 5), (.var 6)] [(.var 0)] []),
  ([h95, h20, h19, h17, h16, h15, h13, h14, h12, h10, h11, h9, h7, h8, h6, h5, h4, h3, h2, h1, h29, h0], .cut 28 [(.var 0), (.add (.var 1) (.lit 1)), (.var 2), (.var 3), (.var 4), (.var 5), (.var 6)] [(.var 0)] []),
  ([h96, h18, h20, h19, h17, h16, h15, h13, h14, h12, h10, h11, h9, h7, h8, h6, h5, h4, h3, h2, h1, h29, h0], .cut 28 [(.var 0), (.add (.var 1) (.lit 1)), (.var 2), (.var 3), (.var 4), (.var 5), (.var 6)] [(.var 0)] []),
  ([h97, h21, h18, h20, h19, h17, h16, h15, h13, h14, h12, h10, h11, h9, h7, h8, h6, h5, h4, h3, h2, h1, h29, h0], .cut 28 [(.var 0), (.add (.var 1) (.lit 1)), (.var 2), (.var 3), (.var 4), (.var 5), (.var 6)] [(.var 0)] []),
  ([h98, h22, h21, h18, h20, h19, h17, h16, h15, h13, h14, h12, h10, h11, h9, h7, h8, h6, h5, h4, h3, h2, h1, h29, h0], .cut 28 [(.var 0), (.add (.var 1) (.lit 1)), (.var 2), (.var 3), (.var 4), (.var 5), (.var 6)] [(.var 0)] []),
  ([h99, h24, h22, h21, h18, h20, h19, h17, h16, h15, h13, h14, h12, h10, h11, h9, h7, h8, h6, h5, h4, h3, h2, h1, h29, h0], .cut 28 [(.var 0), (.add (.var 1) (.lit 1)), (.var 2), (.var 3), (.var 4), (.var 5), (.var 6)] [(.var 0)] []),
  ([h100, h25, h24, h22, h21, h18, h20, h19, h17, h16, h15, h13, h14, h12, h10, h11, h9, h7, h8, h6, h5, h4, h3, h2, h1, h29, h0], .cut 28 [(.var 0), (.add (.var 1) (.lit 1)), (.var 2), (.var 3), (.var 4), (.var 5), (.var 6)] [(.var 0)] []),
  ([h101, h26, h25, h24, h22, h21, h18, h20, h19, h17, h16, h15, h13, h14, h12, h10, h11, h9, h7, h8, h6, h5, h4, h3, h2, h1, h29, h0], .cut 28 [(.var 0), (.add (.var 1) (.lit 1)), (.var 2), (.var 3), (.var 4), (.var 5), (.var 6)] [(.var 0)] []),
  ([h102, h23, h26, h25, h24, h22, h21, h18, h20, h19, h17, h16, h15, h13, h14, h12, h10, h11, h9, h7, h8, h6, h5, h4, h3, h2, h1, h29, h0], .cut 28 [(.var 0), (.add (.var 1) (.lit 1)), (.var 2), (.var 3), (.var 4), (.var 5), (.var 6)] [(.var 0)] []),
  ([h103, h27, h23, h26, h25, h24, h22, h21, h18, h20, h19, h17, h16, h15, h13, h14, h12, h10, h11, h9, h7, h8, h6, h5, h4, h3, h2, h1, h29, h0], .cut 28 [(.var 0), (.add (.var 1) (.lit 1)), (.var 2), (.var 3), (.var 4), (.var 5), (.var 6)] [(.var 0)] []),
  ([h104, h28, h27, h23, h26, h25, h24, h22, h21, h18, h20, h19, h17, h16, h15, h13, h14, h12, h10, h11, h9, h7, h8, h6, h5, h4, h3, h2, h1, h29, h0], .cut 28 [(.var 0), (.add (.var 1) (.lit 1)), (.var 2), (.var 3), (.var 4), (.var 5), (.var 6)] [(.var 0)] []),
  ([h105, h30, h28, h27, h23, h26, h25, h24, h22, h21, h18, h20, h19, h17, h16, h15, h13, h14, h12, h10, h11, h9, h7, h8, h6, h5, h4, h3, h2, h1, h29, h0], .cut 28 [(.var 0), (.add (.var 1) (.lit 1)), (.var 2), (.var 3), (.var 4), (.var 5), (.var 6)] [(.var 0)] []),
  ([h106, h31, h30, h28, h27, h23, h26, h25, h24, h22, h21, h18, h20, h19, h17, h16, h15, h13, h14, h12, h10, h11, h9, h7, h8, h6, h5, h4, h3, h2, h1, h29, h0], .cut 28 [(.var 0), (.add (.var 1) (.lit 1)), (.var 2), (.var 3), (.var 4), (.var 5), (.var 6)] [(.var 0)] []),
  ([h108, h32, h31, h30, h28, h27, h23, h26, h25, h24, h22, h21, h18, h20, h19, h17, h16, h15, h13, h14, h12, h10, h11, h9, h7, h8, h6, h5, h4, h3, h2, h1, h29, h0], .cut 28 [(.var 0), (.add (.var 1) (.lit 1)), (.var 2), (.var 3), (.var 4), (.var 5), (.var 6)] [(.var 0)] []),
  ([h109, h33, h32, h31, h30, h28, h27, h23, h26, h25, h24, h22, h21, h18, h20, h19, h17, h16, h15, h13, h14, h12, h10, h11, h9, h7, h8, h6, h5, h4, h3, h2, h1, h29, h0], .cut 28 [(.var 0), (.add (.var 1) (.lit 1)), (.var 2), (.var 3), (.var 4), (.var 5), (.var 6)] [(.var 0)] []),
  ([h110, h35, h33, h32, h31, h30, h28, h27, h23, h26, h25, h24, h22, h21, h18, h20, h19, h17, h16, h15, h13, h14, h12, h10, h11, h9, h7, h8, h6, h5, h4, h3, h2, h1, h29, h0], .cut 28 [(.var 0), (.add (.var 1) (.lit 1)), (.var 2), (.var 3), (.var 4), (.var 5), (.var 6)] [(.var 0)] []),
  ([h111, h36, h35, h33, h32, h31, h30, h28, h27, h23, h26, h25, h24, h22, h21, h18, h20, h19, h17, h16, h15, h13, h14, h12, h10, h11, h9, h7, h8, h6, h5, h4, h3, h2, h1, h29, h0], .cut 28 [(.var 0), (.add (.var 1) (.lit 1)), (.var 2), (.var 3), (.var 4), (.var 5), (.var 6)] [(.var 0)] []),
  ([h112, h37, h36, h35, h33, h32, h31, h30, h28, h27, h23, h26, h25, h24, h22, h21, h18, h20, h19, h17, h16, h15, h13, h14, h12, h10, h11, h9, h7, h8, h6, h5, h4, h3, h2, h1, h29, h0], .cut 28 [(.var 0), (.add (.var 1) (.lit 1)), (.var 2), (.var 3), (.var 4), (.var 5), (.var 6)] [(.var 0)] []),
  ([h113, h38, h37, h36, h35, h33, h32, h31, h30, h28, h27, h23, h26, h25, h24, h22, h21, h18, h20, h19, h17, h16, h15, h13, h14, h12, h10, h11, h9, h7, h8, h6, h5, h4, h3, h2, h1, h29, h0], .cut 28 [(.var 0), (.add (.var 1) (.lit 1)), (.var 2), (.var 3), (.var 4), (.var 5), (.var 6)] [(.var 0)] []),
  ([h114, h34, h38, h37, h36, h35, h33, h32, h31, h30, h28, h27, h23, h26, h25, h24, h22, h21, h18, h20, h19, h17, h16, h15, h13, h14, h12, h10, h11, h9, h7, h8, h6, h5, h4, h3, h2, h1, h29, h0], .cut 28 [(.var 0), (.add (.var 1) (.lit 1)), (.var 2), (.var 3), (.var 4), (.var 5), (.var 6)] [(.var 0)] []),
  ([h115, h40, h34, h38, h37, h36, h35, h33, h32, h31, h30, h28, h27, h23, h26, h25, h24, h22, h21, h18, h20, h19, h17, h16, h15, h13, h14, h12, h10, h11, h9, h7, h8, h6, h5, h4, h3, h2, h1, h29, h0], .cut 28 [(.var 0), (.add (.var 1) (.lit 1)), (.var 2), (.var 3), (.var 4), (.var 5), (.var 6)] [(.var 0)] []),
  ([h116, h41, h40, h34, h38, h37, h36, h35, h33, h32, h31, h30, h28, h27, h23, h26, h25, h24, h22, h21, h18, h20, h19, h17, h16, h15, h13, h14, h12, h10, h11, h9, h7, h8, h6, h5, h4, h3, h2, h1, h29, h0], .cut 28 [(.var 0), (.add (.var 1) (.lit 1)), (.var 2), (.var 3), (.var 4), (.var 5), (.var 6)] [(.var 0)] []),
  ([h117, h42, h41, h40, h34, h38, h37, h36, h35, h33, h32, h31, h30, h28, h27, h23, h26, h25, h24, h22, h21, h18, h20, h19, h17, h16, h15, h13, h14, h12, h10, h11, h9, h7, h8, h6, h5, h4, h3, h2, h1, h29, h0], .cut 28 [(.var 0), (.add (.var 1) (.lit 1)), (.var 2), (.var 3), (.var 4), (.var 5), (.var 6)] [(.var 0)] []),
  ([h118, h45, h42, h41, h40, h34, h38, h37, h36, h35, h33, h32, h31, h30, h28, h27, h23, h26, h25, h24, h22, h21, h18, h20, h19, h17, h16, h15, h13, h14, h12, h10, h11, h9, h7, h8, h6, h5, h4, h3, h2, h1, h29, h0], .cut 28 [(.var 0), (.add (.var 1) (.lit 1)), (.var 2), (.var 3), (.var 4), (.var 5), (.var 6)] [(.var 0)] []),
  ([h119, h46, h45, h42, h41, h40, h34, h38, h37, h36, h35, h33, h32, h31, h30, h28, h27, h23, h26, h25, h24, h22, h21, h18, h20, h19, h17, h16, h15, h13, h14, h12, h10, h11, h9, h7, h8, h6, h5, h4, h3, h2, h1, h29, h0], .cut 28 [(.var 0), (.add (.var 1) (.lit 1)), (.var 2), (.var 3), (.var 4), (.var 5), (.var 6)] [(.var 0)] []),
  ([h120, h39, h46, h45, h42, h41, h40, h34, h38, h37, h36, h35, h33, h32, h31, h30, h28, h27, h23, h26, h25, h24, h22, h21, h18, h20, h19, h17, h16, h15, h13, h14, h12, h10, h11, h9, h7, h8, h6, h5, h4, h3, h2, h1, h29, h0], .cut 28 [(.var 0), (.add (.var 1) (.lit 1)), (.var 2), (.var 3), (.var 4), (.var 5), (.var 6)] [(.var 0)] []),
  ([h121, h48, h39, h46, h45, h42, h41, h40, h34, h38, h37, h36, h35, h33, h32, h31, h30, h28, h27, h23, h26, h25, h24, h22, h21, h18, h20, h19, h17, h16, h15, h13, h14, h12, h10, h11, h9, h7, h8, h6, h5, h4, h3, h2, h1, h29, h0], .cut 28 [(.var 0), (.add (.var 1) (.lit 1)), (.var 2), (.var 3), (.var 4), (.var 5), (.var 6)] [(.var 0)] []),
  ([h122, h52, h48, h39, h46, h45, h42, h41, h40, h34, h38, h37, h36, h35, h33, h32, h31, h30, h28, h27, h23, h26, h25, h24, h22, h21, h18, h20, h19, h17, h16, h15, h13, h14, h12, h10, h11, h9, h7, h8, h6, h5, h4, h3, h2, h1, h29, h0], .cut 28 [(.var 0), (.add (.var 1) (.lit 1)), (.var 2), (.var 3), (.var 4), (.var 5), (.var 6)] [(.var 0)] []),
  ([h123, h56, h52, h48, h39, h46, h45, h42, h41, h40, h34, h38, h37, h36, h35, h33, h32, h31, h30, h28, h27, h23, h26, h25, h24, h22, h21, h18, h20, h19, h17, h16, h15, h13, h14, h12, h10, h11, h9, h7, h8, h6, h5, h4, h3, h2, h1, h29, h0], .cut 28 [(.var 0), (.add (.var 1) (.lit 1)), (.var 2), (.var 3), (.var 4), (.var 5), (.var 6)] [(.var 0)] []),
  ([h124, h63, h56, h52, h48, h39, h46, h45, h42, h41, h40, h34, h38, h37, h36, h35, h33, h32, h31, h30, h28, h27, h23, h26, h25, h24, h22, h21, h18, h20, h19, h17, h16, h15, h13, h14, h12, h10, h11, h9, h7, h8, h6, h5, h4, h3, h2, h1, h29, h0], .cut 28 [(.var 0), (.add (.var 1) (.lit 1)), (.var 2), (.var 3), (.var 4), (.var 5), (.var 6)] [(.var 0)] []),
  ([h125, h80, h63, h56, h52, h48, h39, h46, h45, h42, h41, h40, h34, h38, h37, h36, h35, h33, h32, h31, h30, h28, h27, h23, h26, h25, h24, h22, h21, h18, h20, h19, h17, h16, h15, h13, h14, h12, h10, h11, h9, h7, h8, h6, h5, h4, h3, h2, h1, h29, h0], .cut 28 [(.var 0), (.add (.var 1) (.lit 1)), (.var 2), (.var 3), (.var 4), (.var 5), (.var 6)] [(.var 0)] []),
  ([h47, h80, h63, h56, h52, h48, h39, h46, h45, h42, h41, h40, h34, h38, h37, h36, h35, h33, h32, h31, h30, h28, h27, h23, h26, h25, h24, h22, h21, h18, h20, h19, h17, h16, h15, h13, h14, h12, h10, h11, h9, h7, h8, h6, h5, h4, h3, h2, h1, h29, h0], .cut 28 [(.var 0), (.add (.var 1) (.lit 1)), (.var 2), (.var 3), (.var 4), (.var 5), (.var 6)] [(.var 0)] []),
  ([h85], .cut 36 [(.var 2), (.var 3), (.add (.var 4) (.lit 1)), (.var 6), (.var 0)] [(.var 0)] [])]
theorem q28 : PartOK Try.prog cuts m28 true g24 t28.cfg := ⟨1000000, d28, by kernel_rfl, by kernel_rfl⟩
theorem q12 : PartOK Try.prog cuts ⟨2, none, 0, none, 0, none⟩ true g0 t12.cfg := ⟨1000000, [ ([], .cut 28 [(.lit 1), (.lit 1), (.lit 2), (.var 0), (.lit 0), (.lit 2), (.lit 12)] [(.var 0)] [])], by kernel_rfl, by kernel_rfl⟩
theorem q2 : PartOK Try.prog cuts ⟨2, none, 0, none, 0, none⟩ true g0 t2.cfg := ⟨1000000, [ ([], .cut 24 [(.lit 2), (.lit 1), (.lit 1), (.var 0), (.lit 0), (.lit 1), (.lit 12)] [(.var 0)] [])], by kernel_rfl, by kernel_rfl⟩

end
end Go.Proofs.Ytmmehhibkpfghaa.safeSwaps
