/- Parts of the plan for the law LatchOne: each is one kernel run. -/
import Derived.Test.YtkiodlgicjlbaaaLatchOnePlan
set_option linter.unusedVariables false
namespace Go.Proofs.Ytkiodlgicjlbaaa.latchOne
open Go Go.Ev
noncomputable section

def d26 : List (List (SB × Bool) × Leaf) := [
  ([h100, h3, h1, h4, h0], .cut 26 [(.var 0), (.add (.var 1) (.lit 1)), (.var 2), (.var 3), (.var 4), (.var 5), (.var 6), (.var 7), (.var 8), (.var 9), (.var 10), (.var 11)] [(.var 0)] [(.row 0), (.row 1)]),
  ([h40, h71, h6, h3, h1, h4, h0], .cut 26 [(.var 0), (.add (.var 1) (.lit 1)), (.var 2), (.var 3), (.var 4), (.add (.var 5) (.lit 1)), (.lit 1), (.var 7), (.var 8), (.var 9), (.var 10), (.var 11)] [(.var 0)] [(.row 0), (.row 1)]),
  ([h39, h71, h6, h3, h1, h4, h0], .cut 26 [(.var 0), (.add (.var 1) (.lit 1)), (.var 2), (.var 3), (.var 4), (.add (.var 5) (.lit 1)), (.lit 1), (.var 7), (.var 8), (.var 9), (.var 10), (.var 11)] [(.var 0)] [(.row 0), (.row 1)]),
  ([h43, h72, h14, h6, h3, h1, h4, h0], .cut 26 [(.var 0), (.add (.var 1) (.lit 1)), (.var 2), (.var 3), (.var 4), (.add (.var 5) (.lit 1)), (.var 6), (.lit 1), (.var 8), (.var 9), (.var 10), (.var 11)] [(.var 0)] [(.row 0), (.row 1)]),
  ([h41, h72, h14, h6, h3, h1, h4, h0], .cut 26 [(.var 0), (.add (.var 1) (.lit 1)), (.var 2), (.var 3), (.var 4), (.add (.var 5) (.lit 1)), (.var 6), (.lit 1), (.var 8), (.var 9), (.var 10), (.var 11)] [(.var 0)] [(.row 0), (.row 1)]),
  ([h50, h73, h16, h14, h6, h3, h1, h4, h0], .cut 26 [(.var 0), (.add (.var 1) (.lit 1)), (.var 2), (.var 3), (.var 4), (.add (.var 5) (.lit 1)), (.var 6), (.var 7), (.lit 1), (.var 9), (.var 10), (.var 11)] [(.var 0)] [(.row 0), (.row 1)]),
  ([h48, h73, h16, h14, h6, h3, h1, h4, h0], .cut 26 [(.var 0), (.add (.var 1) (.lit 1)), (.var 2), (.var 3), (.var 4), (.add (.var 5) (.lit 1)), (.var 6), (.var 7), (.lit 1), (.var 9), (.var 10), (.var 11)] [(.var 0)] [(.row 0), (.row 1)]),
  ([h61, h74, h26, h16, h14, h6, h3, h1, h4, h0], .cut 26 [(.var 0), (.add (.var 1) (.lit 1)), (.var 2), (.var 3), (.var 4), (.add (.var 5) (.lit 1)), (.var 6), (.var 7), (.var 8), (.lit 1), (.var 10), (.var 11)] [(.var 0)] [(.row 0), (.row 1)]),
  ([h57, h74, h26, h16, h14, h6, h3, h1, h4, h0], .cut 26 [(.var 0), (.add (.var 1) (.lit 1)), (.var 2), (.var 3), (.var 4), (.add (.var 5) (.lit 1)), (.var 6), (.var 7), (.var 8), (.lit 1), (.var 10), (.var 11)] [(.var 0)] [(.row 0), (.row 1)]),
  ([h75, h38, h26, h16, h14, h6, h3, h1, h4, h0], .cut 33 [(.var 0), (.add (.var 1) (.lit 1)), (.var 2), (.var 3), (.var 4), (.add (.var 5) (.lit 1)), (.var 6), (.var 7), (.var 8), (.var 9), (.lit 0), (.var 10), (.var 11)] [(.var 0)] [(.upd (.row 0) (.rem (.add (.var 1) (.lit 1)) (.lit 6)) (.wrap .i64 (.add (.sel .i64 (.row 0) (.rem (.add (.var 1) (.lit 1)) (.lit 6))) (.lit 1)))), (.row 1)]),
  ([h108, h69, h38, h26, h16, h14, h6, h3, h1, h4, h0], .cut 26 [(.var 0), (.add (.var 1) (.lit 1)), (.var 2), (.var 3), (.var 4), (.add (.var 5) (.lit 1)), (.var 6), (.var 7), (.var 8), (.var 9), (.lit 1), (.var 11)] [(.var 0)] [(.row 0), (.row 1)]),
  ([h106, h69, h38, h26, h16, h14, h6, h3, h1, h4, h0], .cut 26 [(.var 0), (.add (.var 1) (.lit 1)), (.var 2), (.var 3), (.var 4), (.add (.var 5) (.lit 1)), (.var 6), (.var 7), (.var 8), (.var 9), (.lit 1), (.var 11)] [(.var 0)] [(.row 0), (.row 1)]),
  ([h95, h2, h1, h4, h0], .cut 26 [(.var 0), (.add (.var 1) (.lit 1)), (.var 2), (.var 3), (.var 4), (.var 5), (.var 6), (.var 7), (.var 8), (.var 9), (.var 10), (.var 11)] [(.lit false)] [(.row 0), (.row 1)]),
  ([h40, h63, h5, h2, h1, h4, h0], .cut 26 [(.var 0), (.add (.var 1) (.lit 1)), (.var 2), (.var 3), (.var 4), (.add (.var 5) (.lit 1)), (.lit 1), (.var 7), (.var 8), (.var 9), (.var 10), (.var 11)] [(.lit false)] [(.row 0), (.row 1)]),
  ([h39, h63, h5, h2, h1, h4, h0], .cut 26 [(.var 0), (.add (.var 1) (.lit 1)), (.var 2), (.var 3), (.var 4), (.add (.var 5) (.lit 1)), (.lit 1), (.var 7), (.var 8), (.var 9), (.var 10), (.var 11)] [(.lit false)] [(.row 0), (.row 1)]),
  ([h43, h64, h13, h5, h2, h1, h4, h0], .cut 26 [(.var 0), (.add (.var 1) (.lit 1)), (.var 2), (.var 3), (.var 4), (.add (.var 5) (.lit 1)), (.var 6), (.lit 1), (.var 8), (.var 9), (.var 10), (.var 11)] [(.lit false)] [(.row 0), (.row 1)]),
  ([h41, h64, h13, h5, h2, h1, h4, h0], .cut 26 [(.var 0), (.add (.var 1) (.lit 1)), (.var 2), (.var 3), (.var 4), (.add (.var 5) (.lit 1)), (.var 6), (.lit 1), (.var 8), (.var 9), (.var 10), (.var 11)] [(.lit false)] [(.row 0), (.row 1)]),
  ([h50, h65, h15, h13, h5, h2, h1, h4, h0], .cut 26 [(.var 0), (.add (.var 1) (.lit 1)), (.var 2), (.var 3), (.var 4), (.add (.var 5) (.lit 1)), (.var 6), (.var 7), (.lit 1), (.var 9), (.var 10), (.var 11)] [(.lit false)] [(.row 0), (.row 1)]),
  ([h48, h65, h15, h13, h5, h2, h1, h4, h0], .cut 26 [(.var 0), (.add (.var 1) (.lit 1)), (.var 2), (.var 3), (.var 4), (.add (.var 5) (.lit 1)), (.var 6), (.var 7), (.lit 1), (.var 9), (.var 10), (.var 11)] [(.lit false)] [(.row 0), (.row 1)]),
  ([h61, h66, h24, h15, h13, h5, h2, h1, h4, h0], .cut 26 [(.var 0), (.add (.var 1) (.lit 1)), (.var 2), (.var 3), (.var 4), (.add (.var 5) (.lit 1)), (.var 6), (.var 7), (.var 8), (.lit 1), (.var 10), (.var 11)] [(.lit false)] [(.row 0), (.row 1)]),
  ([h57, h66, h24, h15, h13, h5, h2, h1, h4, h0], .cut 26 [(.var 0), (.add (.var 1) (.lit 1)), (.var 2), (.var 3), (.var 4), (.add (.var 5) (.lit 1)), (.var 6), (.var 7), (.var 8), (.lit 1), (.var 10), (.var 11)] [(.lit false)] [(.row 0), (.row 1)]),
  ([h67, h36, h24, h15, h13, h5, h2, h1, h4, h0], .cut 33 [(.var 0), (.add (.var 1) (.lit 1)), (.var 2), (.var 3), (.var 4), (.add (.var 5) (.lit 1)), (.var 6), (.var 7), (.var 8), (.var 9), (.lit 0), (.var 10), (.var 11)] [(.lit false)] [(.upd (.row 0) (.rem (.sel .u8 (.row 1) (.var 1)) (.lit 6)) (.wrap .i64 (.add (.sel .i64 (.row 0) (.rem (.sel .u8 (.row 1) (.var 1)) (.lit 6))) (.lit 1)))), (.row 1)]),
  ([h108, h60, h36, h24, h15, h13, h5, h2, h1, h4, h0], .cut 26 [(.var 0), (.add (.var 1) (.lit 1)), (.var 2), (.var 3), (.var 4), (.add (.var 5) (.lit 1)), (.var 6), (.var 7), (.var 8), (.var 9), (.lit 1), (.var 11)] [(.lit false)] [(.row 0), (.row 1)]),
  ([h106, h60, h36, h24, h15, h13, h5, h2, h1, h4, h0], .cut 26 [(.var 0), (.add (.var 1) (.lit 1)), (.var 2), (.var 3), (.var 4), (.add (.var 5) (.lit 1)), (.var 6), (.var 7), (.var 8), (.var 9), (.lit 1), (.var 11)] [(.lit false)] [(.row 0), (.row 1)]),
  ([h124, h54, h29, h20, h12, h7, h9, h4, h0], .fin (.lit false)),
  ([h123, h54, h29, h20, h12, h7, h9, h4, h0], .fin (.lit false)),
  ([h87, h29, h20, h12, h7, h9, h4, h0], .fin (.lit false)),
  ([h55, h20, h12, h7, h9, h4, h0], .fin (.lit false)),
  ([h51, h12, h7, h9, h4, h0], .fin (.lit false)),
  ([h46, h7, h9, h4, h0], .fin (.lit false)),
  ([h44, h9, h4, h0], .fin (.lit false))]
theorem q26 : PartΦ Try.prog cuts φ 26 m26 true g22 t26.cfg := .chk chk 1000000 d26 (by kernel_rfl) (by kernel_rfl) (by kernel_rfl)
def d31 : List (List (SB × Bool) × Leaf) := [
  ([h117, h3, h1, h8, h0], .cut 31 [(.var 0), (.add (.var 1) (.lit 1)), (.var 2), (.var 3), (.var 4), (.var 5), (.var 6), (.var 7), (.var 8), (.var 9), (.var 10)] [(.var 0)] [(.row 0), (.row 1)]),
  ([h40, h103, h21, h3, h1, h8, h0], .cut 14 [(.var 0), (.add (.var 1) (.lit 1)), (.var 2), (.var 3), (.var 4), (.add (.var 5) (.lit 1)), (.var 7), (.var 8), (.var 9), (.var 10)] [(.var 0)] [(.row 0), (.row 1)]),
  ([h39, h103, h21, h3, h1, h8, h0], .cut 14 [(.var 0), (.add (.var 1) (.lit 1)), (.var 2), (.var 3), (.var 4), (.add (.var 5) (.lit 1)), (.var 7), (.var 8), (.var 9), (.var 10)] [(.var 0)] [(.row 0), (.row 1)]),
  ([h43, h104, h37, h21, h3, h1, h8, h0], .cut 13 [(.var 0), (.add (.var 1) (.lit 1)), (.var 2), (.var 3), (.var 4), (.add (.var 5) (.lit 1)), (.var 6), (.var 8), (.var 9), (.var 10)] [(.var 0)] [(.row 0), (.row 1)]),
  ([h41, h104, h37, h21, h3, h1, h8, h0], .cut 13 [(.var 0), (.add (.var 1) (.lit 1)), (.var 2), (.var 3), (.var 4), (.add (.var 5) (.lit 1)), (.var 6), (.var 8), (.var 9), (.var 10)] [(.var 0)] [(.row 0), (.row 1)]),
  ([h50, h105, h52, h37, h21, h3, h1, h8, h0], .cut 15 [(.var 0), (.add (.var 1) (.lit 1)), (.var 2), (.var 3), (.var 4), (.add (.var 5) (.lit 1)), (.var 6), (.var 7), (.var 9), (.var 10)] [(.var 0)] [(.row 0), (.row 1)]),
  ([h48, h105, h52, h37, h21, h3, h1, h8, h0], .cut 15 [(.var 0), (.add (.var 1) (.lit 1)), (.var 2), (.var 3), (.var 4), (.add (.var 5) (.lit 1)), (.var 6), (.var 7), (.var 9), (.var 10)] [(.var 0)] [(.row 0), (.row 1)]),
  ([h61, h101, h52, h37, h21, h3, h1, h8, h0], .cut 16 [(.var 0), (.add (.var 1) (.lit 1)), (.var 2), (.var 3), (.var 4), (.add (.var 5) (.lit 1)), (.var 6), (.var 7), (.var 8), (.var 10)] [(.var 0)] [(.row 0), (.row 1)]),
  ([h57, h101, h52, h37, h21, h3, h1, h8, h0], .cut 16 [(.var 0), (.add (.var 1) (.lit 1)), (.var 2), (.var 3), (.var 4), (.add (.var 5) (.lit 1)), (.var 6), (.var 7), (.var 8), (.var 10)] [(.var 0)] [(.row 0), (.row 1)]),
  ([h116, h2, h1, h8, h0], .cut 31 [(.var 0), (.add (.var 1) (.lit 1)), (.var 2), (.var 3), (.var 4), (.var 5), (.var 6), (.var 7), (.var 8), (.var 9), (.var 10)] [(.lit false)] [(.row 0), (.row 1)]),
  ([h40, h97, h19, h2, h1, h8, h0], .cut 14 [(.var 0), (.add (.var 1) (.lit 1)), (.var 2), (.var 3), (.var 4), (.add (.var 5) (.lit 1)), (.var 7), (.var 8), (.var 9), (.var 10)] [(.lit false)] [(.row 0), (.row 1)]),
  ([h39, h97, h19, h2, h1, h8, h0], .cut 14 [(.var 0), (.add (.var 1) (.lit 1)), (.var 2), (.var 3), (.var 4), (.add (.var 5) (.lit 1)), (.var 7), (.var 8), (.var 9), (.var 10)] [(.lit false)] [(.row 0), (.row 1)]),
  ([h43, h98, h34, h19, h2, h1, h8, h0], .cut 13 [(.var 0), (.add (.var 1) (.lit 1)), (.var 2), (.var 3), (.var 4), (.add (.var 5) (.lit 1)), (.var 6), (.var 8), (.var 9), (.var 10)] [(.lit false)] [(.row 0), (.row 1)]),
  ([h41, h98, h34, h19, h2, h1, h8, h0], .cut 13 [(.var 0), (.add (.var 1) (.lit 1)), (.var 2), (.var 3), (.var 4), (.add (.var 5) (.lit 1)), (.var 6), (.var 8), (.var 9), (.var 10)] [(.lit false)] [(.row 0), (.row 1)]),
  ([h50, h99, h49, h34, h19, h2, h1, h8, h0], .cut 15 [(.var 0), (.add (.var 1) (.lit 1)), (.var 2), (.var 3), (.var 4), (.add (.var 5) (.lit 1)), (.var 6), (.var 7), (.var 9), (.var 10)] [(.lit false)] [(.row 0), (.row 1)]),
  ([h48, h99, h49, h34, h19, h2, h1, h8, h0], .cut 15 [(.var 0), (.add (.var 1) (.lit 1)), (.var 2), (.var 3), (.var 4), (.add (.var 5) (.lit 1)), (.var 6), (.var 7), (.var 9), (.var 10)] [(.lit false)] [(.row 0), (.row 1)]),
  ([h61, h96, h49, h34, h19, h2, h1, h8, h0], .cut 16 [(.var 0), (.add (.var 1) (.lit 1)), (.var 2), (.var 3), (.var 4), (.add (.var 5) (.lit 1)), (.var 6), (.var 7), (.var 8), (.var 10)] [(.lit false)] [(.row 0), (.row 1)]),
  ([h57, h96, h49, h34, h19, h2, h1, h8, h0], .cut 16 [(.var 0), (.add (.var 1) (.lit 1)), (.var 2), (.var 3), (.var 4), (.add (.var 5) (.lit 1)), (.var 6), (.var 7), (.var 8), (.var 10)] [(.lit false)] [(.row 0), (.row 1)]),
  ([h29, h20, h12, h7, h9, h8, h0], .fin (.lit true)),
  ([h55, h20, h12, h7, h9, h8, h0], .fin (.lit false)),
  ([h51, h12, h7, h9, h8, h0], .fin (.lit false)),
  ([h46, h7, h9, h8, h0], .fin (.lit false)),
  ([h44, h9, h8, h0], .fin (.lit false))]
theorem q31 : PartΦ Try.prog cuts φ 31 m31 true g17 t31.cfg := .chk chk 1000000 d31 (by kernel_rfl) (by kernel_rfl) (by kernel_rfl)
def d16 : List (List (SB × Bool) × Leaf) := [
  ([h117, h3, h1, h17, h0], .cut 16 [(.var 0), (.add (.var 1) (.lit 1)), (.var 2), (.var 3), (.var 4), (.var 5), (.var 6), (.var 7), (.var 8), (.var 9)] [(.var 0)] [(.row 0), (.row 1)]),
  ([h40, h103, h21, h3, h1, h17, h0], .cut 16 [(.var 0), (.add (.var 1) (.lit 1)), (.var 2), (.var 3), (.var 4), (.add (.var 5) (.lit 1)), (.lit 1), (.var 7), (.var 8), (.var 9)] [(.var 0)] [(.row 0), (.row 1)]),
  ([h39, h103, h21, h3, h1, h17, h0], .cut 16 [(.var 0), (.add (.var 1) (.lit 1)), (.var 2), (.var 3), (.var 4), (.add (.var 5) (.lit 1)), (.lit 1), (.var 7), (.var 8), (.var 9)] [(.var 0)] [(.row 0), (.row 1)]),
  ([h43, h104, h37, h21, h3, h1, h17, h0], .cut 16 [(.var 0), (.add (.var 1) (.lit 1)), (.var 2), (.var 3), (.var 4), (.add (.var 5) (.lit 1)), (.var 6), (.lit 1), (.var 8), (.var 9)] [(.var 0)] [(.row 0), (.row 1)]),
  ([h41, h104, h37, h21, h3, h1, h17, h0], .cut 16 [(.var 0), (.add (.var 1) (.lit 1)), (.var 2), (.var 3), (.var 4), (.add (.var 5) (.lit 1)), (.var 6), (.lit 1), (.var 8), (.var 9)] [(.var 0)] [(.row 0), (.row 1)]),
  ([h50, h105, h52, h37, h21, h3, h1, h17, h0], .cut 16 [(.var 0), (.add (.var 1) (.lit 1)), (.var 2), (.var 3), (.var 4), (.add (.var 5) (.lit 1)), (.var 6), (.var 7), (.lit 1), (.var 9)] [(.var 0)] [(.row 0), (.row 1)]),
  ([h48, h105, h52, h37, h21, h3, h1, h17, h0], .cut 16 [(.var 0), (.add (.var 1) (.lit 1)), (.var 2), (.var 3), (.var 4), (.add (.var 5) (.lit 1)), (.var 6), (.var 7), (.lit 1), (.var 9)] [(.var 0)] [(.row 0), (.row 1)]),
  ([h101, h52, h37, h21, h3, h1, h17, h0], .cut 31 [(.var 0), (.add (.var 1) (.lit 1)), (.var 2), (.var 3), (.var 4), (.add (.var 5) (.lit 1)), (.var 6), (.var 7), (.var 8), (.lit 0), (.var 9)] [(.var 0)] [(.upd (.row 0) (.rem (.add (.var 1) (.lit 1)) (.lit 4)) (.wrap .i64 (.add (.sel .i64 (.row 0) (.rem (.add (.var 1) (.lit 1)) (.lit 4))) (.lit 1)))), (.row 1)]),
  ([h116, h2, h1, h17, h0], .cut 16 [(.var 0), (.add (.var 1) (.lit 1)), (.var 2), (.var 3), (.var 4), (.var 5), (.var 6), (.var 7), (.var 8), (.var 9)] [(.lit false)] [(.row 0), (.row 1)]),
  ([h40, h97, h19, h2, h1, h17, h0], .cut 16 [(.var 0), (.add (.var 1) (.lit 1)), (.var 2), (.var 3), (.var 4), (.add (.var 5) (.lit 1)), (.lit 1), (.var 7), (.var 8), (.var 9)] [(.lit false)] [(.row 0), (.row 1)]),
  ([h39, h97, h19, h2, h1, h17, h0], .cut 16 [(.var 0), (.add (.var 1) (.lit 1)), (.var 2), (.var 3), (.var 4), (.add (.var 5) (.lit 1)), (.lit 1), (.var 7), (.var 8), (.var 9)] [(.lit false)] [(.row 0), (.row 1)]),
  ([h43, h98, h34, h19, h2, h1, h17, h0], .cut 16 [(.var 0), (.add (.var 1) (.lit 1)), (.var 2), (.var 3), (.var 4), (.add (.var 5) (.lit 1)), (.var 6), (.lit 1), (.var 8), (.var 9)] [(.lit false)] [(.row 0), (.row 1)]),
  ([h41, h98, h34, h19, h2, h1, h17, h0], .cut 16 [(.var 0), (.add (.var 1) (.lit 1)), (.var 2), (.var 3), (.var 4), (.add (.var 5) (.lit 1)), (.var 6), (.lit 1), (.var 8), (.var 9)] [(.lit false)] [(.row 0), (.row 1)]),
  ([h50, h99, h49, h34, h19, h2, h1, h17, h0], .cut 16 [(.var 0), (.add (.var 1) (.lit 1)), (.var 2), (.var 3), (.var 4), (.add (.var 5) (.lit 1)), (.var 6), (.var 7), (.lit 1), (.var 9)] [(.lit false)] [(.row 0), (.row 1)]),
  ([h48, h99, h49, h34, h19, h2, h1, h17, h0], .cut 16 [(.var 0), (.add (.var 1) (.lit 1)), (.var 2), (.var 3), (.var 4), (.add (.var 5) (.lit 1)), (.var 6), (.var 7), (.lit 1), (.var 9)] [(.lit false)] [(.row 0), (.row 1)]),
  ([h96, h49, h34, h19, h2, h1, h17, h0], .cut 31 [(.var 0), (.add (.var 1) (.lit 1)), (.var 2), (.var 3), (.var 4), (.add (.var 5) (.lit 1)), (.var 6), (.var 7), (.var 8), (.lit 0), (.var 9)] [(.lit false)] [(.upd (.row 0) (.rem (.sel .u8 (.row 1) (.var 1)) (.lit 4)) (.wrap .i64 (.add (.sel .i64 (.row 0) (.rem (.sel .u8 (.row 1) (.var 1)) (.lit 4))) (.lit 1)))), (.row 1)]),
  ([h29, h20, h12, h7, h9, h17, h0], .fin (.lit false)),
  ([h55, h20, h12, h7, h9, h17, h0], .fin (.lit false)),
  ([h51, h12, h7, h9, h17, h0], .fin (.lit false)),
  ([h46, h7, h9, h17, h0], .fin (.lit false)),
  ([h44, h9, h17, h0], .fin (.lit false))]
theorem q16 : PartΦ Try.prog cuts φ 16 m16 true g13 t16.cfg := .chk chk 1000000 d16 (by kernel_rfl) (by kernel_rfl) (by kernel_rfl)
def d28 : List (List (SB × Bool) × Leaf) := [
  ([((.eql (.sel .i64 (.row 0) (.rem (.add (.var 1) (.lit 1)) (.lit 1))) (.var 0)), true), h3, h1, h121, h0], .cut 28 [(.var 0), (.add (.var 1) (.lit 1)), (.var 2), (.var 3), (.var 4), (.var 5), (.var 6)] [(.var 0)] [(.row 0), (.row 1)]),
  ([((.eql (.sel .i64 (.row 0) (.rem (.add (.var 1) (.lit 1)) (.lit 1))) (.var 0)), false), h3, h1, h121, h0], .cut 7 [(.var 0), (.add (.var 1) (.lit 1)), (.var 2), (.var 3), (.var 4), (.add (.var 5) (.lit 1)), (.var 6)] [(.var 0)] [(.row 0), (.row 1)]),
  ([((.eql (.sel .i64 (.row 0) (.rem (.sel .u8 (.row 1) (.var 1)) (.lit 1))) (.var 0)), true), h2, h1, h121, h0], .cut 28 [(.var 0), (.add (.var 1) (.lit 1)), (.var 2), (.var 3), (.var 4), (.var 5), (.var 6)] [(.lit false)] [(.row 0), (.row 1)]),
  ([((.eql (.sel .i64 (.row 0) (.rem (.sel .u8 (.row 1) (.var 1)) (.lit 1))) (.var 0)), false), h2, h1, h121, h0], .cut 7 [(.var 0), (.add (.var 1) (.lit 1)), (.var 2), (.var 3), (.var 4), (.add (.var 5) (.lit 1)), (.var 6)] [(.lit false)] [(.row 0), (.row 1)]),
  ([h7, h9, h121, h0], .fin (.lit true)),
  ([h44, h9, h121, h0], .fin (.lit false))]
theorem q28 : PartΦ Try.prog cuts φ 28 m28 true g7 t28.cfg := .chk chk 1000000 d28 (by kernel_rfl) (by kernel_rfl) (by kernel_rfl)

end
end Go.Proofs.Ytkiodlgicjlbaaa.latchOne
