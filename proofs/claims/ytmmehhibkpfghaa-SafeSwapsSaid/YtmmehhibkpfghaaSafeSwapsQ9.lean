/- Parts of the plan for the law SafeSwaps: each is one kernel run. -/
import Derived.Test.YtmmehhibkpfghaaSafeSwapsPlan
namespace Go.Proofs.Ytmmehhibkpfghaa.safeSwaps
open Go Go.Ev
noncomputable section

theorem qsbabbba : PartOK Try.prog cuts { rank := top } false { rng := (Go.Ev.ctxP shape).rng, asm := [h82, h64, h68, h62, h55, h44] } (Go.Ev.startP Try.prog 4 shape) := ⟨1000000, [ ([h82, h64, h68, h62, h55, h44], .cut 13 [(.var 0), (.rem (.var 0) (.lit 4))] [(.var 4)] [])], by kernel_rfl, by kernel_rfl⟩
theorem qsbabbaa : PartOK Try.prog cuts { rank := top } false { rng := (Go.Ev.ctxP shape).rng, asm := [h82, h65, h68, h62, h55, h44] } (Go.Ev.startP Try.prog 4 shape) := ⟨1000000, [ ([h82, h65, h68, h62, h55, h44], .cut 12 [(.rem (.var 0) (.lit 4))] [(.var 4)] [])], by kernel_rfl, by kernel_rfl⟩
theorem qsababba : PartOK Try.prog cuts { rank := top } false { rng := (Go.Ev.ctxP shape).rng, asm := [h76, h81, h67, h66, h53, h51] } (Go.Ev.startP Try.prog 4 shape) := ⟨1000000, [ ([h76, h81, h67, h66, h53, h51], .cut 8 [(.rem (.var 0) (.lit 4))] [(.var 4)] [])], by kernel_rfl, by kernel_rfl⟩
theorem qsababbb : PartOK Try.prog cuts { rank := top } false { rng := (Go.Ev.ctxP shape).rng, asm := [h73, h81, h67, h66, h53, h51] } (Go.Ev.startP Try.prog 4 shape) := ⟨1000000, [ ([h73, h81, h67, h66, h53, h51], .cut 7 [(.var 0), (.rem (.var 0) (.lit 4))] [(.var 4)] [])], by kernel_rfl, by kernel_rfl⟩
theorem qsbabbbb : PartOK Try.prog cuts { rank := top } false { rng := (Go.Ev.ctxP shape).rng, asm := [h81, h64, h68, h62, h55, h44] } (Go.Ev.startP Try.prog 4 shape) := ⟨1000000, [ ([h81, h64, h68, h62, h55, h44], .cut 13 [(.var 0), (.rem (.var 0) (.lit 4))] [(.var 4)] [])], by kernel_rfl, by kernel_rfl⟩
def d33a : List (List (SB × Bool) × Leaf) := [
  ([h65, h61, h57], .cut 25 [(.lit 1), (.lit 1), (.var 0), (.var 1), (.var 2), (.var 0), (.wrap .i64 (.add (.wrap .i64 (.add (.var 3) (.lit 1))) (.lit 1)))] [(.var 0)] []),
  ([h64, h61, h57], .cut 25 [(.var 0), (.lit 1), (.var 0), (.var 1), (.var 2), (.var 0), (.wrap .i64 (.add (.wrap .i64 (.add (.var 3) (.lit 1))) (.lit 1)))] [(.var 0)] []),
  ([h76, h60, h57], .cut 25 [(.lit 2), (.lit 1), (.var 0), (.var 1), (.var 2), (.var 0), (.wrap .i64 (.add (.wrap .i64 (.add (.var 3) (.lit 1))) (.lit 1)))] [(.var 0)] []),
  ([h73, h60, h57], .cut 25 [(.var 0), (.lit 1), (.var 0), (.var 1), (.var 2), (.var 0), (.wrap .i64 (.add (.wrap .i64 (.add (.var 3) (.lit 1))) (.lit 1)))] [(.var 0)] [])]
theorem q33a : PartOK Try.prog cuts m33 true { rng := g32.rng, asm := [h57] } t33.cfg := ⟨1000000, d33a, by kernel_rfl, by kernel_rfl⟩
def d38a : List (List (SB × Bool) × Leaf) := [
  ([h65, h61, h57], .cut 30 [(.lit 1), (.lit 1), (.var 0), (.var 1), (.var 2), (.var 0), (.wrap .i64 (.add (.wrap .i64 (.add (.var 3) (.lit 1))) (.lit 1)))] [(.var 0)] []),
  ([h64, h61, h57], .cut 30 [(.var 0), (.lit 1), (.var 0), (.var 1), (.var 2), (.var 0), (.wrap .i64 (.add (.wrap .i64 (.add (.var 3) (.lit 1))) (.lit 1)))] [(.var 0)] []),
  ([h76, h60, h57], .cut 30 [(.lit 2), (.lit 1), (.var 0), (.var 1), (.var 2), (.var 0), (.wrap .i64 (.add (.wrap .i64 (.add (.var 3) (.lit 1))) (.lit 1)))] [(.var 0)] []),
  ([h73, h60, h57], .cut 30 [(.var 0), (.lit 1), (.var 0), (.var 1), (.var 2), (.var 0), (.wrap .i64 (.add (.wrap .i64 (.add (.var 3) (.lit 1))) (.lit 1)))] [(.var 0)] [])]
theorem q38a : PartOK Try.prog cuts m38 true { rng := g32.rng, asm := [h57] } t38.cfg := ⟨1000000, d38a, by kernel_rfl, by kernel_rfl⟩
def d34bbb : List (List (SB × Bool) × Leaf) := [
  ([h79, h59, h60, h49, h43], .cut 26 [(.lit 2), (.lit 1), (.var 0), (.var 1), (.var 2), (.lit 1), (.wrap .i64 (.add (.wrap .i64 (.add (.var 3) (.lit 1))) (.lit 1)))] [(.var 0)] []),
  ([h74, h59, h60, h49, h43], .cut 26 [(.lit 2), (.lit 1), (.var 0), (.var 1), (.var 2), (.lit 2), (.wrap .i64 (.add (.wrap .i64 (.add (.var 3) (.lit 1))) (.lit 1)))] [(.var 0)] []),
  ([h75, h60, h49, h43], .fin (.lit true))]
theorem q34bbb : PartOK Try.prog cuts m34 true { rng := g32.rng, asm := [h60, h49, h43] } t34.cfg := ⟨1000000, d34bbb, by kernel_rfl, by kernel_rfl⟩
def d30 : List (List (SB × Bool) × Leaf) := [
  ([h119, h0], .cut 30 [(.var 0), (.add (.var 1) (.lit 1)), (.var 2), (.var 3), (.var 4), (.var 5), (.var 6)] [(.var 0)] []),
  ([h127, h39, h0], .cut 30 [(.var 0), (.add (.var 1) (.lit 1)), (.var 2), (.var 3), (.var 4), (.var 5), (.var 6)] [(.var 0)] []),
  ([h77, h1, h39, h0], .cut 30 [(.var 0), (.add (.var 1) (.lit 1)), (.var 2), (.var 3), (.var 4), (.var 5), (.var 6)] [(.var 0)] []),
  ([h78, h2, h1, h39, h0], .cut 30 [(.var 0), (.add (.var 1) (.lit 1)), (.var 2), (.var 3), (.var 4), (.var 5), (.var 6)] [(.var 0)] []),
  ([h128, h3, h2, h1, h39, h0], .cut 30 [(.var 0), (.add (.var 1) (.lit 1)), (.var 2), (.var 3), (.var 4), (.var 5), (.var 6)] [(.var 0)] []),
  ([h129, h4, h3, h2, h1, h39, h0], .cut 30 [(.var 0), (.add (.var 1) (.lit 1)), (.var 2), (.var 3), (.var 4), (.var 5), (.var 6)] [(.var 0)] []),
  ([h130, h5, h4, h3, h2, h1, h39, h0], .cut 30 [(.var 0), (.add (.var 1) (.lit 1)), (.var 2), (.var 3), (.var 4), (.var 5), (.var 6)] [(.var 0)] []),
  ([h131, h6, h5, h4, h3, h2, h1, h39, h0], .cut 30 [(.var 0), (.add (.var 1) (.lit 1)), (.var 2), (.var 3), (.var 4), (.var 5), (.var 6)] [(.var 0)] []),
  ([h126, h8, h6, h5, h4, h3, h2, h1, h39, h0], .cut 30 [(.var 0), (.add (.var 1) (.lit 1)), (.var 2), (.var 3), (.var 4), (.var 5), (.var 6)] [(.var 0)] []),
  ([h132, h7, h8, h6, h5, h4, h3, h2, h1, h39, h0], .cut 30 [(.var 0), (.add (.var 1) (.lit 1)), (.var 2), (.var 3), (.var 4), (.var 5), (.var 6)] [(.var 0)] []),
  ([h133, h9, h7, h8, h6, h5, h4, h3, h2, h1, h39, h0], .cut 30 [(.var 0), (.add (.var 1) (.lit 1)), (.var 2), (.var 3), (.var 4), (.var 5), (.var 6)] [(.var 0)] []),
  ([h86, h11, h9, h7, h8, h6, h5, h4, h3, h2, h1, h39, h0], .cut 30 [(.var 0), (.add (.var 1) (.lit 1)), (.var 2), (.var 3), (.var 4), (.var 5), (.var 6)] [(.var 0)] []),
  ([h87, h10, h11, h9, h7, h8, h6, h5, h4, h3, h2, h1, h39, h0], .cut 30 [(.var 0), (.add (.var 1) (.lit 1)), (.var 2), (.var 3), (.var 4), (.var 5), (.var 6)] [(.var 0)] []),
  ([h88, h12, h10, h11, h9, h7, h8, h6, h5, h4, h3, h2, h1, h39, h0], .cut 30 [(.var 0), (.add (.var 1) (.lit 1)), (.var 2), (.var 3), (.var 4), (.var 5), (.var 6)] [(.var 0)] []),
  ([h89, h14, h12, h10, h11, h9, h7, h8, h6, h5, h4, h3, h2, h1, h39, h0], .cut 30 [(.var 0), (.add (.var 1) (.lit 1)), (.var 2), (.var 3), (.var 4), (.var 5), (.var 6)] [(.var 0)] []),
  ([h90, h13, h14, h12, h10, h11, h9, h7, h8, h6, h5, h4, h3, h2, h1, h39, h0], .cut 30 [(.var 0), (.add (.var 1) (.lit 1)), (.var 2), (.var 3), (.var 4), (.var 5), (.var 6)] [(.var 0)] []),
  ([h91, h15, h13, h14, h12, h10, h11, h9, h7, h8, h6, h5, h4, h3, h2, h1, h39, h0], .cut 30 [(.var 0), (.add (.var 1) (.lit 1)), (.var 2), (.var 3), (.var 4), (.var 5), (.var 6)] [(.var 0)] []),
  ([h92, h16, h15, h13, h14, h12, h10, h11, h9, h7, h8, h6, h5, h4, h3, h2, h1, h39, h0], .cut 30 [(.var 0), (.add (.var 1) (.lit 1)), (.var 2), (.var 3), (.var 4), (.var 5), (.var 6)] [(.var 0)] []),
  ([h93, h17, h16, h15, h13, h14, h12, h10, h11, h9, h7, h8, h6, h5, h4, h3, h2, h1, h39, h0], .cut 30 [(.var 0), (.add (.var 1) (.lit 1)), (.var 2), (.var 3), (.var 4), (.var 5), (.var 6)] [(.var 0)] []),
  ([h94, h19, h17, h16, h15, h13, h14, h12, h10, h11, h9, h7, h8, h6, h5, h4, h3, h2, h1, h39, h0], .cut 30 [(.var 0), (.add (.var 1) (.lit 1)), (.var 2), (.var 3), (.var 4), (.var 5), (.var 6)] [(.var 0)] []),
  ([h95, h20, h19, h17, h16, h15, h13, h14, h12, h10, h11, h9, h7, h8, h6, h5, h4, h3, h2, h1, h39, h0], .cut 30 [(.var 0), (.add (.var 1) (.lit 1)), (.var 2), (.var 3), (.var 4), (.var 5), (.var 6)] [(.var 0)] []),
  ([h96, h18, h20, h19, h17, h16, h15, h13, h14, h12, h10, h11, h9, h7, h8, h6, h5, h4, h3, h2, h1, h39, h0], .cut 30 [(.var 0), (.add (.var 1) (.lit 1)), (.var 2), (.var 3), (.var 4), (.var 5), (.var 6)] [(.var 0)] []),
  ([h97, h21, h18, h20, h19, h17, h16, h15, h13, h14, h12, h10, h11, h9, h7, h8, h6, h5, h4, h3, h2, h1, h39, h0], .cut 30 [(.var 0), (.add (.var 1) (.lit 1)), (.var 2), (.var 3), (.var 4), (.var 5), (.var 6)] [(.var 0)] []),
  ([h98, h22, h21, h18, h20, h19, h17, h16, h15, h13, h14, h12, h10, h11, h9, h7, h8, h6, h5, h4, h3, h2, h1, h39, h0], .cut 30 [(.var 0), (.add (.var 1) (.lit 1)), (.var 2), (.var 3), (.var 4), (.var 5), (.var 6)] [(.var 0)] []),
  ([h99, h24, h22, h21, h18, h20, h19, h17, h16, h15, h13, h14, h12, h10, h11, h9, h7, h8, h6, h5, h4, h3, h2, h1, h39, h0], .cut 30 [(.var 0), (.add (.var 1) (.lit 1)), (.var 2), (.var 3), (.var 4), (.var 5), (.var 6)] [(.var 0)] []),
  ([h100, h25, h24, h22, h21, h18, h20, h19, h17, h16, h15, h13, h14, h12, h10, h11, h9, h7, h8, h6, h5, h4, h3, h2, h1, h39, h0], .cut 30 [(.var 0), (.add (.var 1) (.lit 1)), (.var 2), (.var 3), (.var 4), (.var 5), (.var 6)] [(.var 0)] []),
  ([h101, h26, h25, h24, h22, h21, h18, h20, h19, h17, h16, h15, h13, h14, h12, h10, h11, h9, h7, h8, h6, h5, h4, h3, h2, h1, h39, h0], .cut 30 [(.var 0), (.add (.var 1) (.lit 1)), (.var 2), (.var 3), (.var 4), (.var 5), (.var 6)] [(.var 0)] []),
  ([h102, h23, h26, h25, h24, h22, h21, h18, h20, h19, h17, h16, h15, h13, h14, h12, h10, h11, h9, h7, h8, h6, h5, h4, h3, h2, h1, h39, h0], .cut 30 [(.var 0), (.add (.var 1) (.lit 1)), (.var 2), (.var 3), (.var 4), (.var 5), (.var 6)] [(.var 0)] []),
  ([h103, h27, h23, h26, h25, h24, h22, h21, h18, h20, h19, h17, h16, h15, h13, h14, h12, h10, h11, h9, h7, h8, h6, h5, h4, h3, h2, h1, h39, h0], .cut 30 [(.var 0), (.add (.var 1) (.lit 1)), (.var 2), (.var 3), (.var 4), (.var 5), (.var 6)] [(.var 0)] []),
  ([h104, h28, h27, h23, h26, h25, h24, h22, h21, h18, h20, h19, h17, h16, h15, h13, h14, h12, h10, h11, h9, h7, h8, h6, h5, h4, h3, h2, h1, h39, h0], .cut 30 [(.var 0), (.add (.var 1) (.lit 1)), (.var 2), (.var 3), (.var 4), (.var 5), (.var 6)] [(.var 0)] []),
  ([h105, h30, h28, h27, h23, h26, h25, h24, h22, h21, h18, h20, h19, h17, h16, h15, h13, h14, h12, h10, h11, h9, h7, h8, h6, h5, h4, h3, h2, h1, h39, h0], .cut 30 [(.var 0), (.add (.var 1) (.lit 1)), (.var 2), (.var 3), (.var 4), (.var 5), (.var 6)] [(.var 0)] []),
  ([h106, h31, h30, h28, h27, h23, h26, h25, h24, h22, h21, h18, h20, h19, h17, h16, h15, h13, h14, h12, h10, h11, h9, h7, h8, h6, h5, h4, h3, h2, h1, h39, h0], .cut 30 [(.var 0), (.add (.var 1) (.lit 1)), (.var 2), (.var 3), (.var 4), (.var 5), (.var 6)] [(.var 0)] []),
  ([h107, h32, h31, h30, h28, h27, h23, h26, h25, h24, h22, h21, h18, h20, h19, h17, h16, h15, h13, h14, h12, h10, h11, h9, h7, h8, h6, h5, h4, h3, h2, h1, h39, h0], .cut 30 [(.var 0), (.add (.var 1) (.lit 1)), (.var 2), (.var 3), (.var 4), (.var 5), (.var 6)] [(.var 0)] []),
  ([h108, h29, h32, h31, h30, h28, h27, h23, h26, h25, h24, h22, h21, h18, h20, h19, h17, h16, h15, h13, h14, h12, h10, h11, h9, h7, h8, h6, h5, h4, h3, h2, h1, h39, h0], .cut 30 [(.var 0), (.add (.var 1) (.lit 1)), (.var 2), (.var 3), (.var 4), (.var 5), (.var 6)] [(.var 0)] []),
  ([h109, h33, h29, h32, h31, h30, h28, h27, h23, h26, h25, h24, h22, h21, h18, h20, h19, h17, h16, h15, h13, h14, h12, h10, h11, h9, h7, h8, h6, h5, h4, h3, h2, h1, h39, h0], .cut 30 [(.var 0), (.add (.var 1) (.lit 1)), (.var 2), (.var 3), (.var 4), (.var 5), (.var 6)] [(.var 0)] []),
  ([h110, h35, h33, h29, h32, h31, h30, h28, h27, h23, h26, h25, h24, h22, h21, h18, h20, h19, h17, h16, h15, h13, h14, h12, h10, h11, h9, h7, h8, h6, h5, h4, h3, h2, h1, h39, h0], .cut 30 [(.var 0), (.add (.var 1) (.lit 1)), (.var 2), (.var 3), (.var 4), (.var 5), (.var 6)] [(.var 0)] []),
  ([h111, h36, h35, h33, h29, h32, h31, h30, h28, h27, h23, h26, h25, h24, h22, h21, h18, h20, h19, h17, h16, h15, h13, h14, h12, h10, h11, h9, h7, h8, h6, h5, h4, h3, h2, h1, h39, h0], .cut 30 [(.var 0), (.add (.var 1) (.lit 1)), (.var 2), (.var 3), (.var 4), (.var 5), (.var 6)] [(.var 0)] []),
  ([h112, h37, h36, h35, h33, h29, h32, h31, h30, h28, h27, h23, h26, h25, h24, h22, h21, h18, h20, h19, h17, h16, h15, h13, h14, h12, h10, h11, h9, h7, h8, h6, h5, h4, h3, h2, h1, h39, h0], .cut 30 [(.var 0), (.add (.var 1) (.lit 1)), (.var 2), (.var 3), (.var 4), (.var 5), (.var 6)] [(.var 0)] []),
  ([h113, h38, h37, h36, h35, h33, h29, h32, h31, h30, h28, h27, h23, h26, h25, h24, h22, h21, h18, h20, h19, h17, h16, h15, h13, h14, h12, h10, h11, h9, h7, h8, h6, h5, h4, h3, h2, h1, h39, h0], .cut 30 [(.var 0), (.add (.var 1) (.lit 1)), (.var 2), (.var 3), (.var 4), (.var 5), (.var 6)] [(.var 0)] []),
  ([h114, h34, h38, h37, h36, h35, h33, h29, h32, h31, h30, h28, h27, h23, h26, h25, h24, h22, h21, h18, h20, h19, h17, h16, h15, h13, h14, h12, h10, h11, h9, h7, h8, h6, h5, h4, h3, h2, h1, h39, h0], .cut 30 [(.var 0), (.add (.var 1) (.lit 1)), (.var 2), (.var 3), (.var 4), (.var 5), (.var 6)] [(.var 0)] []),
  ([h115, h40, h34, h38, h37, h36, h35, h33, h29, h32, h31, h30, h28, h27, h23, h26, h25, h24, h22, h21, h18, h20, h19, h17, h16, h15, h13, h14, h12, h10, h11, h9, h7, h8, h6, h5, h4, h3, h2, h1, h39, h0], .cut 30 [(.var 0), (.add (.var 1) (.lit 1)), (.var 2), (.var 3), (.var 4), (.var 5), (.var 6)] [(.var 0)] []),
  ([h116, h41, h40, h34, h38, h37, h36, h35, h33, h29, h32, h31, h30, h28, h27, h23, h26, h25, h24, h22, h21, h18, h20, h19, h17, h16, h15, h13, h14, h12, h10, h11, h9, h7, h8, h6, h5, h4, h3, h2, h1, h39, h0], .cut 30 [(.var 0), (.add (.var 1) (.lit 1)), (.var 2), (.var 3), (.var 4), (.var 5), (.var 6)] [(.var 0)] []),
  ([h117, h42, h41, h40, h34, h38, h37, h36, h35, h33, h29, h32, h31, h30, h28, h27, h23, h26, h25, h24, h22, h21, h18, h20, h19, h17, h16, h15, h13, h14, h12, h10, h11, h9, h7, h8, h6, h5, h4, h3, h2, h1, h39, h0], .cut 30 [(.var 0), (.add (.var 1) (.lit 1)), (.var 2), (.var 3), (.var 4), (.var 5), (.var 6)] [(.var 0)] []),
  ([h118, h45, h42, h41, h40, h34, h38, h37, h36, h35, h33, h29, h32, h31, h30, h28, h27, h23, h26, h25, h24, h22, h21, h18, h20, h19, h17, h16, h15, h13, h14, h12, h10, h11, h9, h7, h8, h6, h5, h4, h3, h2, h1, h39, h0], .cut 30 [(.var 0), (.add (.var 1) (.lit 1)), (.var 2), (.var 3), (.var 4), (.var 5), (.var 6)] [(.var 0)] []),
  ([h120, h46, h45, h42, h41, h40, h34, h38, h37, h36, h35, h33, h29, h32, h31, h30, h28, h27, h23, h26, h25, h24, h22, h21, h18, h20, h19, h17, h16, h15, h13, h14, h12, h10, h11, h9, h7, h8, h6, h5, h4, h3, h2, h1, h39, h0], .cut 30 [(.var 0), (.add (.var 1) (.lit 1)), (.var 2), (.var 3), (.var 4), (.var 5), (.var 6)] [(.var 0)] []),
  ([h121, h48, h46, h45, h42, h41, h40, h34, h38, h37, h36, h35, h33, h29, h32, h31, h30, h28, h27, h23, h26, h25, h24, h22, h21, h18, h20, h19, h17, h16, h15, h13, h14, h12, h10, h11, h9, h7, h8, h6, h5, h4, h3, h2, h1, h39, h0], .cut 30 [(.var 0), (.add (.var 1) (.lit 1)), (.var 2), (.var 3), (.var 4), (.var 5), (.var 6)] [(.var 0)] []),
  ([h122, h52, h48, h46, h45, h42, h41, h40, h34, h38, h37, h36, h35, h33, h29, h32, h31, h30, h28, h27, h23, h26, h25, h24, h22, h21, h18, h20, h19, h17, h16, h15, h13, h14, h12, h10, h11, h9, h7, h8, h6, h5, h4, h3, h2, h1, h39, h0], .cut 30 [(.var 0), (.add (.var 1) (.lit 1)), (.var 2), (.var 3), (.var 4), (.var 5), (.var 6)] [(.var 0)] []),
  ([h123, h56, h52, h48, h46, h45, h42, h41, h40, h34, h38, h37, h36, h35, h33, h29, h32, h31, h30, h28, h27, h23, h26, h25, h24, h22, h21, h18, h20, h19, h17, h16, h15, h13, h14, h12, h10, h11, h9, h7, h8, h6, h5, h4, h3, h2, h1, h39, h0], .cut 30 [(.var 0), (.add (.var 1) (.lit 1)), (.var 2), (.var 3), (.var 4), (.var 5), (.var 6)] [(.var 0)] []),
  ([h124, h63, h56, h52, h48, h46, h45, h42, h41, h40, h34, h38, h37, h36, h35, h33, h29, h32, h31, h30, h28, h27, h23, h26, h25, h24, h22, h21, h18, h20, h19, h17, h16, h15, h13, h14, h12, h10, h11, h9, h7, h8, h6, h5, h4, h3, h2, h1, h39, h0], .cut 30 [(.var 0), (.add (.var 1) (.lit 1)), (.var 2), (.var 3), (.var 4), (.var 5), (.var 6)] [(.var 0)] []),
  ([h125, h80, h63, h56, h52, h48, h46, h45, h42, h41, h40, h34, h38, h37, h36, h35, h33, h29, h32, h31, h30, h28, h27, h23, h26, h25, h24, h22, h21, h18, h20, h19, h17, h16, h15, h13, h14, h12, h10, h11, h9, h7, h8, h6, h5, h4, h3, h2, h1, h39, h0], .cut 30 [(.var 0), (.add (.var 1) (.lit 1)), (.var 2), (.var 3), (.var 4), (.var 5), (.var 6)] [(.var 0)] []),
  ([h47, h80, h63, h56, h52, h48, h46, h45, h42, h41, h40, h34, h38, h37, h36, h35, h33, h29, h32, h31, h30, h28, h27, h23, h26, h25, h24, h22, h21, h18, h20, h19, h17, h16, h15, h13, h14, h12, h10, h11, h9, h7, h8, h6, h5, h4, h3, h2, h1, h39, h0], .cut 30 [(.var 0), (.add (.var 1) (.lit 1)), (.var 2), (.var 3), (.var 4), (.var 5), (.var 6)] [(.var 0)] []),
  ([h85], .cut 38 [(.var 2), (.var 3), (.add (.var 4) (.lit 1)), (.var 6), (.var 0)] [(.var 0)] [])]
theorem q30 : PartOK Try.prog cuts m30 true g24 t30.cfg := ⟨1000000, d30, by kernel_rfl, by kernel_rfl⟩
theorem q15 : PartOK Try.prog cuts ⟨2, none, 0, none, 0, none⟩ true g0 t15.cfg := ⟨1000000, [ ([], .cut 29 [(.lit 1), (.lit 1), (.lit 2), (.var 0), (.lit 0), (.lit 2), (.lit 12)] [(.var 0)] [])], by kernel_rfl, by kernel_rfl⟩
theorem q8 : PartOK Try.prog cuts ⟨2, none, 0, none, 0, none⟩ true g0 t8.cfg := ⟨1000000, [ ([], .cut 26 [(.lit 2), (.lit 1), (.lit 1), (.var 0), (.lit 0), (.lit 1), (.lit 12)] [(.var 0)] [])], by kernel_rfl, by kernel_rfl⟩

end
end Go.Proofs.Ytmmehhibkpfghaa.safeSwaps
