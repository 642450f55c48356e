/- Parts of the plan for the law LatchOne: each is one kernel run. -/
import Derived.Test.YtkiodlgicjlbaaaLatchOnePlan
set_option linter.unusedVariables false
namespace Go.Proofs.Ytkiodlgicjlbaaa.latchOne
open Go Go.Ev
noncomputable section

def d27 : List (List (SB × Bool) × Leaf) := [
  ([h100, h3, h1, h4, h0], .cut 27 [(.var 0), (.add (.var 1) (.lit 1)), (.var 2), (.var 3), (.var 4), (.var 5), (.var 6), (.var 7), (.var 8), (.var 9), (.var 10), (.var 11)] [(.var 0)] [(.row 0), (.row 1)]),
  ([h40, h71, h6, h3, h1, h4, h0], .cut 27 [(.var 0), (.add (.var 1) (.lit 1)), (.var 2), (.var 3), (.var 4), (.add (.var 5) (.lit 1)), (.lit 1), (.var 7), (.var 8), (.var 9), (.var 10), (.var 11)] [(.var 0)] [(.row 0), (.row 1)]),
  ([h39, h71, h6, h3, h1, h4, h0], .cut 27 [(.var 0), (.add (.var 1) (.lit 1)), (.var 2), (.var 3), (.var 4), (.add (.var 5) (.lit 1)), (.lit 1), (.var 7), (.var 8), (.var 9), (.var 10), (.var 11)] [(.var 0)] [(.row 0), (.row 1)]),
  ([h43, h72, h14, h6, h3, h1, h4, h0], .cut 27 [(.var 0), (.add (.var 1) (.lit 1)), (.var 2), (.var 3), (.var 4), (.add (.var 5) (.lit 1)), (.var 6), (.lit 1), (.var 8), (.var 9), (.var 10), (.var 11)] [(.var 0)] [(.row 0), (.row 1)]),
  ([h41, h72, h14, h6, h3, h1, h4, h0], .cut 27 [(.var 0), (.add (.var 1) (.lit 1)), (.var 2), (.var 3), (.var 4), (.add (.var 5) (.lit 1)), (.var 6), (.lit 1), (.var 8), (.var 9), (.var 10), (.var 11)] [(.var 0)] [(.row 0), (.row 1)]),
  ([h50, h73, h16, h14, h6, h3, h1, h4, h0], .cut 27 [(.var 0), (.add (.var 1) (.lit 1)), (.var 2), (.var 3), (.var 4), (.add (.var 5) (.lit 1)), (.var 6), (.var 7), (.lit 1), (.var 9), (.var 10), (.var 11)] [(.var 0)] [(.row 0), (.row 1)]),
  ([h48, h73, h16, h14, h6, h3, h1, h4, h0], .cut 27 [(.var 0), (.add (.var 1) (.lit 1)), (.var 2), (.var 3), (.var 4), (.add (.var 5) (.lit 1)), (.var 6), (.var 7), (.lit 1), (.var 9), (.var 10), (.var 11)] [(.var 0)] [(.row 0), (.row 1)]),
  ([h61, h74, h26, h16, h14, h6, h3, h1, h4, h0], .cut 27 [(.var 0), (.add (.var 1) (.lit 1)), (.var 2), (.var 3), (.var 4), (.add (.var 5) (.lit 1)), (.var 6), (.var 7), (.var 8), (.lit 1), (.var 10), (.var 11)] [(.var 0)] [(.row 0), (.row 1)]),
  ([h57, h74, h26, h16, h14, h6, h3, h1, h4, h0], .cut 27 [(.var 0), (.add (.var 1) (.lit 1)), (.var 2), (.var 3), (.var 4), (.add (.var 5) (.lit 1)), (.var 6), (.var 7), (.var 8), (.lit 1), (.var 10), (.var 11)] [(.var 0)] [(.row 0), (.row 1)]),
  ([h108, h75, h38, h26, h16, h14, h6, h3, h1, h4, h0], .cut 27 [(.var 0), (.add (.var 1) (.lit 1)), (.var 2), (.var 3), (.var 4), (.add (.var 5) (.lit 1)), (.var 6), (.var 7), (.var 8), (.var 9), (.lit 1), (.var 11)] [(.var 0)] [(.row 0), (.row 1)]),
  ([h106, h75, h38, h26, h16, h14, h6, h3, h1, h4, h0], .cut 27 [(.var 0), (.add (.var 1) (.lit 1)), (.var 2), (.var 3), (.var 4), (.add (.var 5) (.lit 1)), (.var 6), (.var 7), (.var 8), (.var 9), (.lit 1), (.var 11)] [(.var 0)] [(.row 0), (.row 1)]),
  ([h69, h38, h26, h16, h14, h6, h3, h1, h4, h0], .cut 33 [(.var 0), (.add (.var 1) (.lit 1)), (.var 2), (.var 3), (.var 4), (.add (.var 5) (.lit 1)), (.var 6), (.var 7), (.var 8), (.var 9), (.var 10), (.lit 0), (.var 11)] [(.var 0)] [(.upd (.row 0) (.rem (.add (.var 1) (.lit 1)) (.lit 6)) (.wrap .i64 (.add (.sel .i64 (.row 0) (.rem (.add (.var 1) (.lit 1)) (.lit 6))) (.lit 1)))), (.row 1)]),
  ([h95, h2, h1, h4, h0], .cut 27 [(.var 0), (.add (.var 1) (.lit 1)), (.var 2), (.var 3), (.var 4), (.var 5), (.var 6), (.var 7), (.var 8), (.var 9), (.var 10), (.var 11)] [(.lit false)] [(.row 0), (.row 1)]),
  ([h40, h63, h5, h2, h1, h4, h0], .cut 27 [(.var 0), (.add (.var 1) (.lit 1)), (.var 2), (.var 3), (.var 4), (.add (.var 5) (.lit 1)), (.lit 1), (.var 7), (.var 8), (.var 9), (.var 10), (.var 11)] [(.lit false)] [(.row 0), (.row 1)]),
  ([h39, h63, h5, h2, h1, h4, h0], .cut 27 [(.var 0), (.add (.var 1) (.lit 1)), (.var 2), (.var 3), (.var 4), (.add (.var 5) (.lit 1)), (.lit 1), (.var 7), (.var 8), (.var 9), (.var 10), (.var 11)] [(.lit false)] [(.row 0), (.row 1)]),
  ([h43, h64, h13, h5, h2, h1, h4, h0], .cut 27 [(.var 0), (.add (.var 1) (.lit 1)), (.var 2), (.var 3), (.var 4), (.add (.var 5) (.lit 1)), (.var 6), (.lit 1), (.var 8), (.var 9), (.var 10), (.var 11)] [(.lit false)] [(.row 0), (.row 1)]),
  ([h41, h64, h13, h5, h2, h1, h4, h0], .cut 27 [(.var 0), (.add (.var 1) (.lit 1)), (.var 2), (.var 3), (.var 4), (.add (.var 5) (.lit 1)), (.var 6), (.lit 1), (.var 8), (.var 9), (.var 10), (.var 11)] [(.lit false)] [(.row 0), (.row 1)]),
  ([h50, h65, h15, h13, h5, h2, h1, h4, h0], .cut 27 [(.var 0), (.add (.var 1) (.lit 1)), (.var 2), (.var 3), (.var 4), (.add (.var 5) (.lit 1)), (.var 6), (.var 7), (.lit 1), (.var 9), (.var 10), (.var 11)] [(.lit false)] [(.row 0), (.row 1)]),
  ([h48, h65, h15, h13, h5, h2, h1, h4, h0], .cut 27 [(.var 0), (.add (.var 1) (.lit 1)), (.var 2), (.var 3), (.var 4), (.add (.var 5) (.lit 1)), (.var 6), (.var 7), (.lit 1), (.var 9), (.var 10), (.var 11)] [(.lit false)] [(.row 0), (.row 1)]),
  ([h61, h66, h24, h15, h13, h5, h2, h1, h4, h0], .cut 27 [(.var 0), (.add (.var 1) (.lit 1)), (.var 2), (.var 3), (.var 4), (.add (.var 5) (.lit 1)), (.var 6), (.var 7), (.var 8), (.lit 1), (.var 10), (.var 11)] [(.lit false)] [(.row 0), (.row 1)]),
  ([h57, h66, h24, h15, h13, h5, h2, h1, h4, h0], .cut 27 [(.var 0), (.add (.var 1) (.lit 1)), (.var 2), (.var 3), (.var 4), (.add (.var 5) (.lit 1)), (.var 6), (.var 7), (.var 8), (.lit 1), (.var 10), (.var 11)] [(.lit false)] [(.row 0), (.row 1)]),
  ([h108, h67, h36, h24, h15, h13, h5, h2, h1, h4, h0], .cut 27 [(.var 0), (.add (.var 1) (.lit 1)), (.var 2), (.var 3), (.var 4), (.add (.var 5) (.lit 1)), (.var 6), (.var 7), (.var 8), (.var 9), (.lit 1), (.var 11)] [(.lit false)] [(.row 0), (.row 1)]),
  ([h106, h67, h36, h24, h15, h13, h5, h2, h1, h4, h0], .cut 27 [(.var 0), (.add (.var 1) (.lit 1)), (.var 2), (.var 3), (.var 4), (.add (.var 5) (.lit 1)), (.var 6), (.var 7), (.var 8), (.var 9), (.lit 1), (.var 11)] [(.lit false)] [(.row 0), (.row 1)]),
  ([h60, h36, h24, h15, h13, h5, h2, h1, h4, h0], .cut 33 [(.var 0), (.add (.var 1) (.lit 1)), (.var 2), (.var 3), (.var 4), (.add (.var 5) (.lit 1)), (.var 6), (.var 7), (.var 8), (.var 9), (.var 10), (.lit 0), (.var 11)] [(.lit false)] [(.upd (.row 0) (.rem (.sel .u8 (.row 1) (.var 1)) (.lit 6)) (.wrap .i64 (.add (.sel .i64 (.row 0) (.rem (.sel .u8 (.row 1) (.var 1)) (.lit 6))) (.lit 1)))), (.row 1)]),
  ([h124, h54, h29, h20, h12, h7, h9, h4, h0], .fin (.lit false)),
  ([h123, h54, h29, h20, h12, h7, h9, h4, h0], .fin (.lit false)),
  ([h87, h29, h20, h12, h7, h9, h4, h0], .fin (.lit false)),
  ([h55, h20, h12, h7, h9, h4, h0], .fin (.lit false)),
  ([h51, h12, h7, h9, h4, h0], .fin (.lit false)),
  ([h46, h7, h9, h4, h0], .fin (.lit false)),
  ([h44, h9, h4, h0], .fin (.lit false))]
theorem q27 : PartΦ Try.prog cuts φ 27 m27 true g22 t27.cfg := .chk chk 1000000 d27 (by kernel_rfl) (by kernel_rfl) (by kernel_rfl)
def d13 : List (List (SB × Bool) × Leaf) := [
  ([h117, h3, h1, h17, h0], .cut 13 [(.var 0), (.add (.var 1) (.lit 1)), (.var 2), (.var 3), (.var 4), (.var 5), (.var 6), (.var 7), (.var 8), (.var 9)] [(.var 0)] [(.row 0), (.row 1)]),
  ([h40, h103, h21, h3, h1, h17, h0], .cut 13 [(.var 0), (.add (.var 1) (.lit 1)), (.var 2), (.var 3), (.var 4), (.add (.var 5) (.lit 1)), (.lit 1), (.var 7), (.var 8), (.var 9)] [(.var 0)] [(.row 0), (.row 1)]),
  ([h39, h103, h21, h3, h1, h17, h0], .cut 13 [(.var 0), (.add (.var 1) (.lit 1)), (.var 2), (.var 3), (.var 4), (.add (.var 5) (.lit 1)), (.lit 1), (.var 7), (.var 8), (.var 9)] [(.var 0)] [(.row 0), (.row 1)]),
  ([h104, h37, h21, h3, h1, h17, h0], .cut 31 [(.var 0), (.add (.var 1) (.lit 1)), (.var 2), (.var 3), (.var 4), (.add (.var 5) (.lit 1)), (.var 6), (.lit 0), (.var 7), (.var 8), (.var 9)] [(.var 0)] [(.upd (.row 0) (.rem (.add (.var 1) (.lit 1)) (.lit 4)) (.wrap .i64 (.add (.sel .i64 (.row 0) (.rem (.add (.var 1) (.lit 1)) (.lit 4))) (.lit 1)))), (.row 1)]),
  ([h43, h105, h52, h37, h21, h3, h1, h17, h0], .cut 13 [(.var 0), (.add (.var 1) (.lit 1)), (.var 2), (.var 3), (.var 4), (.add (.var 5) (.lit 1)), (.var 6), (.lit 1), (.var 8), (.var 9)] [(.var 0)] [(.row 0), (.row 1)]),
  ([h41, h105, h52, h37, h21, h3, h1, h17, h0], .cut 13 [(.var 0), (.add (.var 1) (.lit 1)), (.var 2), (.var 3), (.var 4), (.add (.var 5) (.lit 1)), (.var 6), (.lit 1), (.var 8), (.var 9)] [(.var 0)] [(.row 0), (.row 1)]),
  ([h50, h101, h52, h37, h21, h3, h1, h17, h0], .cut 13 [(.var 0), (.add (.var 1) (.lit 1)), (.var 2), (.var 3), (.var 4), (.add (.var 5) (.lit 1)), (.var 6), (.var 7), (.lit 1), (.var 9)] [(.var 0)] [(.row 0), (.row 1)]),
  ([h48, h101, h52, h37, h21, h3, h1, h17, h0], .cut 13 [(.var 0), (.add (.var 1) (.lit 1)), (.var 2), (.var 3), (.var 4), (.add (.var 5) (.lit 1)), (.var 6), (.var 7), (.lit 1), (.var 9)] [(.var 0)] [(.row 0), (.row 1)]),
  ([h116, h2, h1, h17, h0], .cut 13 [(.var 0), (.add (.var 1) (.lit 1)), (.var 2), (.var 3), (.var 4), (.var 5), (.var 6), (.var 7), (.var 8), (.var 9)] [(.lit false)] [(.row 0), (.row 1)]),
  ([h40, h97, h19, h2, h1, h17, h0], .cut 13 [(.var 0), (.add (.var 1) (.lit 1)), (.var 2), (.var 3), (.var 4), (.add (.var 5) (.lit 1)), (.lit 1), (.var 7), (.var 8), (.var 9)] [(.lit false)] [(.row 0), (.row 1)]),
  ([h39, h97, h19, h2, h1, h17, h0], .cut 13 [(.var 0), (.add (.var 1) (.lit 1)), (.var 2), (.var 3), (.var 4), (.add (.var 5) (.lit 1)), (.lit 1), (.var 7), (.var 8), (.var 9)] [(.lit false)] [(.row 0), (.row 1)]),
  ([h98, h34, h19, h2, h1, h17, h0], .cut 31 [(.var 0), (.add (.var 1) (.lit 1)), (.var 2), (.var 3), (.var 4), (.add (.var 5) (.lit 1)), (.var 6), (.lit 0), (.var 7), (.var 8), (.var 9)] [(.lit false)] [(.upd (.row 0) (.rem (.sel .u8 (.row 1) (.var 1)) (.lit 4)) (.wrap .i64 (.add (.sel .i64 (.row 0) (.rem (.sel .u8 (.row 1) (.var 1)) (.lit 4))) (.lit 1)))), (.row 1)]),
  ([h43, h99, h49, h34, h19, h2, h1, h17, h0], .cut 13 [(.var 0), (.add (.var 1) (.lit 1)), (.var 2), (.var 3), (.var 4), (.add (.var 5) (.lit 1)), (.var 6), (.lit 1), (.var 8), (.var 9)] [(.lit false)] [(.row 0), (.row 1)]),
  ([h41, h99, h49, h34, h19, h2, h1, h17, h0], .cut 13 [(.var 0), (.add (.var 1) (.lit 1)), (.var 2), (.var 3), (.var 4), (.add (.var 5) (.lit 1)), (.var 6), (.lit 1), (.var 8), (.var 9)] [(.lit false)] [(.row 0), (.row 1)]),
  ([h50, h96, h49, h34, h19, h2, h1, h17, h0], .cut 13 [(.var 0), (.add (.var 1) (.lit 1)), (.var 2), (.var 3), (.var 4), (.add (.var 5) (.lit 1)), (.var 6), (.var 7), (.lit 1), (.var 9)] [(.lit false)] [(.row 0), (.row 1)]),
  ([h48, h96, h49, h34, h19, h2, h1, h17, h0], .cut 13 [(.var 0), (.add (.var 1) (.lit 1)), (.var 2), (.var 3), (.var 4), (.add (.var 5) (.lit 1)), (.var 6), (.var 7), (.lit 1), (.var 9)] [(.lit false)] [(.row 0), (.row 1)]),
  ([h29, h20, h12, h7, h9, h17, h0], .fin (.lit false)),
  ([h55, h20, h12, h7, h9, h17, h0], .fin (.lit false)),
  ([h51, h12, h7, h9, h17, h0], .fin (.lit false)),
  ([h46, h7, h9, h17, h0], .fin (.lit false)),
  ([h44, h9, h17, h0], .fin (.lit false))]
theorem q13 : PartΦ Try.prog cuts φ 13 m13 true g13 t13.cfg := .chk chk 1000000 d13 (by kernel_rfl) (by kernel_rfl) (by kernel_rfl)
def d15 : List (List (SB × Bool) × Leaf) := [
  ([h117, h3, h1, h17, h0], .cut 15 [(.var 0), (.add (.var 1) (.lit 1)), (.var 2), (.var 3), (.var 4), (.var 5), (.var 6), (.var 7), (.var 8), (.var 9)] [(.var 0)] [(.row 0), (.row 1)]),
  ([h40, h103, h21, h3, h1, h17, h0], .cut 15 [(.var 0), (.add (.var 1) (.lit 1)), (.var 2), (.var 3), (.var 4), (.add (.var 5) (.lit 1)), (.lit 1), (.var 7), (.var 8), (.var 9)] [(.var 0)] [(.row 0), (.row 1)]),
  ([h39, h103, h21, h3, h1, h17, h0], .cut 15 [(.var 0), (.add (.var 1) (.lit 1)), (.var 2), (.var 3), (.var 4), (.add (.var 5) (.lit 1)), (.lit 1), (.var 7), (.var 8), (.var 9)] [(.var 0)] [(.row 0), (.row 1)]),
  ([h43, h104, h37, h21, h3, h1, h17, h0], .cut 15 [(.var 0), (.add (.var 1) (.lit 1)), (.var 2), (.var 3), (.var 4), (.add (.var 5) (.lit 1)), (.var 6), (.lit 1), (.var 8), (.var 9)] [(.var 0)] [(.row 0), (.row 1)]),
  ([h41, h104, h37, h21, h3, h1, h17, h0], .cut 15 [(.var 0), (.add (.var 1) (.lit 1)), (.var 2), (.var 3), (.var 4), (.add (.var 5) (.lit 1)), (.var 6), (.lit 1), (.var 8), (.var 9)] [(.var 0)] [(.row 0), (.row 1)]),
  ([h105, h52, h37, h21, h3, h1, h17, h0], .cut 31 [(.var 0), (.add (.var 1) (.lit 1)), (.var 2), (.var 3), (.var 4), (.add (.var 5) (.lit 1)), (.var 6), (.var 7), (.lit 0), (.var 8), (.var 9)] [(.var 0)] [(.upd (.row 0) (.rem (.add (.var 1) (.lit 1)) (.lit 4)) (.wrap .i64 (.add (.sel .i64 (.row 0) (.rem (.add (.var 1) (.lit 1)) (.lit 4))) (.lit 1)))), (.row 1)]),
  ([h50, h101, h52, h37, h21, h3, h1, h17, h0], .cut 15 [(.var 0), (.add (.var 1) (.lit 1)), (.var 2), (.var 3), (.var 4), (.add (.var 5) (.lit 1)), (.var 6), (.var 7), (.lit 1), (.var 9)] [(.var 0)] [(.row 0), (.row 1)]),
  ([h48, h101, h52, h37, h21, h3, h1, h17, h0], .cut 15 [(.var 0), (.add (.var 1) (.lit 1)), (.var 2), (.var 3), (.var 4), (.add (.var 5) (.lit 1)), (.var 6), (.var 7), (.lit 1), (.var 9)] [(.var 0)] [(.row 0), (.row 1)]),
  ([h116, h2, h1, h17, h0], .cut 15 [(.var 0), (.add (.var 1) (.lit 1)), (.var 2), (.var 3), (.var 4), (.var 5), (.var 6), (.var 7), (.var 8), (.var 9)] [(.lit false)] [(.row 0), (.row 1)]),
  ([h40, h97, h19, h2, h1, h17, h0], .cut 15 [(.var 0), (.add (.var 1) (.lit 1)), (.var 2), (.var 3), (.var 4), (.add (.var 5) (.lit 1)), (.lit 1), (.var 7), (.var 8), (.var 9)] [(.lit false)] [(.row 0), (.row 1)]),
  ([h39, h97, h19, h2, h1, h17, h0], .cut 15 [(.var 0), (.add (.var 1) (.lit 1)), (.var 2), (.var 3), (.var 4), (.add (.var 5) (.lit 1)), (.lit 1), (.var 7), (.var 8), (.var 9)] [(.lit false)] [(.row 0), (.row 1)]),
  ([h43, h98, h34, h19, h2, h1, h17, h0], .cut 15 [(.var 0), (.add (.var 1) (.lit 1)), (.var 2), (.var 3), (.var 4), (.add (.var 5) (.lit 1)), (.var 6), (.lit 1), (.var 8), (.var 9)] [(.lit false)] [(.row 0), (.row 1)]),
  ([h41, h98, h34, h19, h2, h1, h17, h0], .cut 15 [(.var 0), (.add (.var 1) (.lit 1)), (.var 2), (.var 3), (.var 4), (.add (.var 5) (.lit 1)), (.var 6), (.lit 1), (.var 8), (.var 9)] [(.lit false)] [(.row 0), (.row 1)]),
  ([h99, h49, h34, h19, h2, h1, h17, h0], .cut 31 [(.var 0), (.add (.var 1) (.lit 1)), (.var 2), (.var 3), (.var 4), (.add (.var 5) (.lit 1)), (.var 6), (.var 7), (.lit 0), (.var 8), (.var 9)] [(.lit false)] [(.upd (.row 0) (.rem (.sel .u8 (.row 1) (.var 1)) (.lit 4)) (.wrap .i64 (.add (.sel .i64 (.row 0) (.rem (.sel .u8 (.row 1) (.var 1)) (.lit 4))) (.lit 1)))), (.row 1)]),
  ([h50, h96, h49, h34, h19, h2, h1, h17, h0], .cut 15 [(.var 0), (.add (.var 1) (.lit 1)), (.var 2), (.var 3), (.var 4), (.add (.var 5) (.lit 1)), (.var 6), (.var 7), (.lit 1), (.var 9)] [(.lit false)] [(.row 0), (.row 1)]),
  ([h48, h96, h49, h34, h19, h2, h1, h17, h0], .cut 15 [(.var 0), (.add (.var 1) (.lit 1)), (.var 2), (.var 3), (.var 4), (.add (.var 5) (.lit 1)), (.var 6), (.var 7), (.lit 1), (.var 9)] [(.lit false)] [(.row 0), (.row 1)]),
  ([h29, h20, h12, h7, h9, h17, h0], .fin (.lit false)),
  ([h55, h20, h12, h7, h9, h17, h0], .fin (.lit false)),
  ([h51, h12, h7, h9, h17, h0], .fin (.lit false)),
  ([h46, h7, h9, h17, h0], .fin (.lit false)),
  ([h44, h9, h17, h0], .fin (.lit false))]
theorem q15 : PartΦ Try.prog cuts φ 15 m15 true g13 t15.cfg := .chk chk 1000000 d15 (by kernel_rfl) (by kernel_rfl) (by kernel_rfl)
def d3 : List (List (SB × Bool) × Leaf) := [
  ([h141, h62], .cut 10 [(.var 0), (.lit 1), (.lit 0), (.lit 0), (.lit 0), (.lit 1), (.lit 0), (.lit 0), (.lit 200)] [(.var 0)] [(.con 0), (.con 0)]),
  ([((.eql (.rem (.sel .u8 (.row 0) (.lit 0)) (.lit 3)) (.lit 0)), true), h88, h62], .cut 11 [(.var 0), (.lit 1), (.var 1), (.var 2), (.var 3), (.lit 1), (.lit 0), (.lit 0), (.var 4)] [(.lit false)] [(.con 0), (.row 0)]),
  ([((.eql (.rem (.sel .u8 (.row 0) (.lit 0)) (.lit 3)) (.lit 1)), true), ((.eql (.rem (.sel .u8 (.row 0) (.lit 0)) (.lit 3)) (.lit 0)), false), h88, h62], .cut 10 [(.var 0), (.lit 1), (.var 1), (.var 2), (.var 3), (.lit 1), (.lit 0), (.lit 0), (.var 4)] [(.lit false)] [(.con 0), (.row 0)]),
  ([((.eql (.rem (.sel .u8 (.row 0) (.lit 0)) (.lit 3)) (.lit 1)), false), ((.eql (.rem (.sel .u8 (.row 0) (.lit 0)) (.lit 3)) (.lit 0)), false), h88, h62], .cut 12 [(.var 0), (.lit 1), (.var 1), (.var 2), (.var 3), (.lit 1), (.lit 0), (.lit 0), (.var 4)] [(.lit false)] [(.con 0), (.row 0)])]
theorem q3 : PartΦ Try.prog cuts φ 3 ⟨2, none, 0, none, 0, none⟩ true g1 t3.cfg := .chk chk 1000000 d3 (by kernel_rfl) (by kernel_rfl) (by kernel_rfl)
def d1 : List (List (SB × Bool) × Leaf) := [
  ([h141, h62], .cut 7 [(.var 0), (.lit 1), (.lit 0), (.lit 0), (.lit 0), (.lit 1), (.lit 200)] [(.var 0)] [(.con 0), (.con 0)]),
  ([h88, h62], .cut 7 [(.var 0), (.lit 1), (.var 1), (.var 2), (.var 3), (.lit 1), (.var 4)] [(.lit false)] [(.con 0), (.row 0)])]
theorem q1 : PartΦ Try.prog cuts φ 1 ⟨2, none, 0, none, 0, none⟩ true g1 t1.cfg := .chk chk 1000000 d1 (by kernel_rfl) (by kernel_rfl) (by kernel_rfl)

end
end Go.Proofs.Ytkiodlgicjlbaaa.latchOne
