/- Parts of the plan for the law LatchOne: each is one kernel run. -/
import Derived.Test.YtkiodlgicjlbaaaLatchOnePlan
set_option linter.unusedVariables false
namespace Go.Proofs.Ytkiodlgicjlbaaa.latchOne
open Go Go.Ev
noncomputable section

def d25 : List (List (SB × Bool) × Leaf) := [
  ([h100, h3, h1, h4, h0], .cut 25 [(.var 0), (.add (.var 1) (.lit 1)), (.var 2), (.var 3), (.var 4), (.var 5), (.var 6), (.var 7), (.var 8), (.var 9), (.var 10), (.var 11)] [(.var 0)] [(.row 0), (.row 1)]),
  ([h40, h71, h6, h3, h1, h4, h0], .cut 25 [(.var 0), (.add (.var 1) (.lit 1)), (.var 2), (.var 3), (.var 4), (.add (.var 5) (.lit 1)), (.lit 1), (.var 7), (.var 8), (.var 9), (.var 10), (.var 11)] [(.var 0)] [(.row 0), (.row 1)]),
  ([h39, h71, h6, h3, h1, h4, h0], .cut 25 [(.var 0), (.add (.var 1) (.lit 1)), (.var 2), (.var 3), (.var 4), (.add (.var 5) (.lit 1)), (.lit 1), (.var 7), (.var 8), (.var 9), (.var 10), (.var 11)] [(.var 0)] [(.row 0), (.row 1)]),
  ([h43, h72, h14, h6, h3, h1, h4, h0], .cut 25 [(.var 0), (.add (.var 1) (.lit 1)), (.var 2), (.var 3), (.var 4), (.add (.var 5) (.lit 1)), (.var 6), (.lit 1), (.var 8), (.var 9), (.var 10), (.var 11)] [(.var 0)] [(.row 0), (.row 1)]),
  ([h41, h72, h14, h6, h3, h1, h4, h0], .cut 25 [(.var 0), (.add (.var 1) (.lit 1)), (.var 2), (.var 3), (.var 4), (.add (.var 5) (.lit 1)), (.var 6), (.lit 1), (.var 8), (.var 9), (.var 10), (.var 11)] [(.var 0)] [(.row 0), (.row 1)]),
  ([h50, h73, h16, h14, h6, h3, h1, h4, h0], .cut 25 [(.var 0), (.add (.var 1) (.lit 1)), (.var 2), (.var 3), (.var 4), (.add (.var 5) (.lit 1)), (.var 6), (.var 7), (.lit 1), (.var 9), (.var 10), (.var 11)] [(.var 0)] [(.row 0), (.row 1)]),
  ([h48, h73, h16, h14, h6, h3, h1, h4, h0], .cut 25 [(.var 0), (.add (.var 1) (.lit 1)), (.var 2), (.var 3), (.var 4), (.add (.var 5) (.lit 1)), (.var 6), (.var 7), (.lit 1), (.var 9), (.var 10), (.var 11)] [(.var 0)] [(.row 0), (.row 1)]),
  ([h74, h26, h16, h14, h6, h3, h1, h4, h0], .cut 33 [(.var 0), (.add (.var 1) (.lit 1)), (.var 2), (.var 3), (.var 4), (.add (.var 5) (.lit 1)), (.var 6), (.var 7), (.var 8), (.lit 0), (.var 9), (.var 10), (.var 11)] [(.var 0)] [(.upd (.row 0) (.rem (.add (.var 1) (.lit 1)) (.lit 6)) (.wrap .i64 (.add (.sel .i64 (.row 0) (.rem (.add (.var 1) (.lit 1)) (.lit 6))) (.lit 1)))), (.row 1)]),
  ([h61, h75, h38, h26, h16, h14, h6, h3, h1, h4, h0], .cut 25 [(.var 0), (.add (.var 1) (.lit 1)), (.var 2), (.var 3), (.var 4), (.add (.var 5) (.lit 1)), (.var 6), (.var 7), (.var 8), (.lit 1), (.var 10), (.var 11)] [(.var 0)] [(.row 0), (.row 1)]),
  ([h57, h75, h38, h26, h16, h14, h6, h3, h1, h4, h0], .cut 25 [(.var 0), (.add (.var 1) (.lit 1)), (.var 2), (.var 3), (.var 4), (.add (.var 5) (.lit 1)), (.var 6), (.var 7), (.var 8), (.lit 1), (.var 10), (.var 11)] [(.var 0)] [(.row 0), (.row 1)]),
  ([h108, h69, h38, h26, h16, h14, h6, h3, h1, h4, h0], .cut 25 [(.var 0), (.add (.var 1) (.lit 1)), (.var 2), (.var 3), (.var 4), (.add (.var 5) (.lit 1)), (.var 6), (.var 7), (.var 8), (.var 9), (.lit 1), (.var 11)] [(.var 0)] [(.row 0), (.row 1)]),
  ([h106, h69, h38, h26, h16, h14, h6, h3, h1, h4, h0], .cut 25 [(.var 0), (.add (.var 1) (.lit 1)), (.var 2), (.var 3), (.var 4), (.add (.var 5) (.lit 1)), (.var 6), (.var 7), (.var 8), (.var 9), (.lit 1), (.var 11)] [(.var 0)] [(.row 0), (.row 1)]),
  ([h95, h2, h1, h4, h0], .cut 25 [(.var 0), (.add (.var 1) (.lit 1)), (.var 2), (.var 3), (.var 4), (.var 5), (.var 6), (.var 7), (.var 8), (.var 9), (.var 10), (.var 11)] [(.lit false)] [(.row 0), (.row 1)]),
  ([h40, h63, h5, h2, h1, h4, h0], .cut 25 [(.var 0), (.add (.var 1) (.lit 1)), (.var 2), (.var 3), (.var 4), (.add (.var 5) (.lit 1)), (.lit 1), (.var 7), (.var 8), (.var 9), (.var 10), (.var 11)] [(.lit false)] [(.row 0), (.row 1)]),
  ([h39, h63, h5, h2, h1, h4, h0], .cut 25 [(.var 0), (.add (.var 1) (.lit 1)), (.var 2), (.var 3), (.var 4), (.add (.var 5) (.lit 1)), (.lit 1), (.var 7), (.var 8), (.var 9), (.var 10), (.var 11)] [(.lit false)] [(.row 0), (.row 1)]),
  ([h43, h64, h13, h5, h2, h1, h4, h0], .cut 25 [(.var 0), (.add (.var 1) (.lit 1)), (.var 2), (.var 3), (.var 4), (.add (.var 5) (.lit 1)), (.var 6), (.lit 1), (.var 8), (.var 9), (.var 10), (.var 11)] [(.lit false)] [(.row 0), (.row 1)]),
  ([h41, h64, h13, h5, h2, h1, h4, h0], .cut 25 [(.var 0), (.add (.var 1) (.lit 1)), (.var 2), (.var 3), (.var 4), (.add (.var 5) (.lit 1)), (.var 6), (.lit 1), (.var 8), (.var 9), (.var 10), (.var 11)] [(.lit false)] [(.row 0), (.row 1)]),
  ([h50, h65, h15, h13, h5, h2, h1, h4, h0], .cut 25 [(.var 0), (.add (.var 1) (.lit 1)), (.var 2), (.var 3), (.var 4), (.add (.var 5) (.lit 1)), (.var 6), (.var 7), (.lit 1), (.var 9), (.var 10), (.var 11)] [(.lit false)] [(.row 0), (.row 1)]),
  ([h48, h65, h15, h13, h5, h2, h1, h4, h0], .cut 25 [(.var 0), (.add (.var 1) (.lit 1)), (.var 2), (.var 3), (.var 4), (.add (.var 5) (.lit 1)), (.var 6), (.var 7), (.lit 1), (.var 9), (.var 10), (.var 11)] [(.lit false)] [(.row 0), (.row 1)]),
  ([h66, h24, h15, h13, h5, h2, h1, h4, h0], .cut 33 [(.var 0), (.add (.var 1) (.lit 1)), (.var 2), (.var 3), (.var 4), (.add (.var 5) (.lit 1)), (.var 6), (.var 7), (.var 8), (.lit 0), (.var 9), (.var 10), (.var 11)] [(.lit false)] [(.upd (.row 0) (.rem (.sel .u8 (.row 1) (.var 1)) (.lit 6)) (.wrap .i64 (.add (.sel .i64 (.row 0) (.rem (.sel .u8 (.row 1) (.var 1)) (.lit 6))) (.lit 1)))), (.row 1)]),
  ([h61, h67, h36, h24, h15, h13, h5, h2, h1, h4, h0], .cut 25 [(.var 0), (.add (.var 1) (.lit 1)), (.var 2), (.var 3), (.var 4), (.add (.var 5) (.lit 1)), (.var 6), (.var 7), (.var 8), (.lit 1), (.var 10), (.var 11)] [(.lit false)] [(.row 0), (.row 1)]),
  ([h57, h67, h36, h24, h15, h13, h5, h2, h1, h4, h0], .cut 25 [(.var 0), (.add (.var 1) (.lit 1)), (.var 2), (.var 3), (.var 4), (.add (.var 5) (.lit 1)), (.var 6), (.var 7), (.var 8), (.lit 1), (.var 10), (.var 11)] [(.lit false)] [(.row 0), (.row 1)]),
  ([h108, h60, h36, h24, h15, h13, h5, h2, h1, h4, h0], .cut 25 [(.var 0), (.add (.var 1) (.lit 1)), (.var 2), (.var 3), (.var 4), (.add (.var 5) (.lit 1)), (.var 6), (.var 7), (.var 8), (.var 9), (.lit 1), (.var 11)] [(.lit false)] [(.row 0), (.row 1)]),
  ([h106, h60, h36, h24, h15, h13, h5, h2, h1, h4, h0], .cut 25 [(.var 0), (.add (.var 1) (.lit 1)), (.var 2), (.var 3), (.var 4), (.add (.var 5) (.lit 1)), (.var 6), (.var 7), (.var 8), (.var 9), (.lit 1), (.var 11)] [(.lit false)] [(.row 0), (.row 1)]),
  ([h124, h54, h29, h20, h12, h7, h9, h4, h0], .fin (.lit false)),
  ([h123, h54, h29, h20, h12, h7, h9, h4, h0], .fin (.lit false)),
  ([h87, h29, h20, h12, h7, h9, h4, h0], .fin (.lit false)),
  ([h55, h20, h12, h7, h9, h4, h0], .fin (.lit false)),
  ([h51, h12, h7, h9, h4, h0], .fin (.lit false)),
  ([h46, h7, h9, h4, h0], .fin (.lit false)),
  ([h44, h9, h4, h0], .fin (.lit false))]
theorem q25 : PartΦ Try.prog cuts φ 25 m25 true g22 t25.cfg := .chk chk 1000000 d25 (by kernel_rfl) (by kernel_rfl) (by kernel_rfl)
def d21 : List (List (SB × Bool) × Leaf) := [
  ([h109, h3, h1, h8, h0], .cut 21 [(.var 0), (.add (.var 1) (.lit 1)), (.var 2), (.var 3), (.var 4), (.var 5), (.var 6), (.var 7), (.var 8), (.var 9), (.var 10)] [(.var 0)] [(.row 0), (.row 1)]),
  ([h40, h83, h11, h3, h1, h8, h0], .cut 21 [(.var 0), (.add (.var 1) (.lit 1)), (.var 2), (.var 3), (.var 4), (.add (.var 5) (.lit 1)), (.lit 1), (.var 7), (.var 8), (.var 9), (.var 10)] [(.var 0)] [(.row 0), (.row 1)]),
  ([h39, h83, h11, h3, h1, h8, h0], .cut 21 [(.var 0), (.add (.var 1) (.lit 1)), (.var 2), (.var 3), (.var 4), (.add (.var 5) (.lit 1)), (.lit 1), (.var 7), (.var 8), (.var 9), (.var 10)] [(.var 0)] [(.row 0), (.row 1)]),
  ([h43, h84, h23, h11, h3, h1, h8, h0], .cut 21 [(.var 0), (.add (.var 1) (.lit 1)), (.var 2), (.var 3), (.var 4), (.add (.var 5) (.lit 1)), (.var 6), (.lit 1), (.var 8), (.var 9), (.var 10)] [(.var 0)] [(.row 0), (.row 1)]),
  ([h41, h84, h23, h11, h3, h1, h8, h0], .cut 21 [(.var 0), (.add (.var 1) (.lit 1)), (.var 2), (.var 3), (.var 4), (.add (.var 5) (.lit 1)), (.var 6), (.lit 1), (.var 8), (.var 9), (.var 10)] [(.var 0)] [(.row 0), (.row 1)]),
  ([h50, h85, h28, h23, h11, h3, h1, h8, h0], .cut 21 [(.var 0), (.add (.var 1) (.lit 1)), (.var 2), (.var 3), (.var 4), (.add (.var 5) (.lit 1)), (.var 6), (.var 7), (.lit 1), (.var 9), (.var 10)] [(.var 0)] [(.row 0), (.row 1)]),
  ([h48, h85, h28, h23, h11, h3, h1, h8, h0], .cut 21 [(.var 0), (.add (.var 1) (.lit 1)), (.var 2), (.var 3), (.var 4), (.add (.var 5) (.lit 1)), (.var 6), (.var 7), (.lit 1), (.var 9), (.var 10)] [(.var 0)] [(.row 0), (.row 1)]),
  ([h61, h86, h45, h28, h23, h11, h3, h1, h8, h0], .cut 21 [(.var 0), (.add (.var 1) (.lit 1)), (.var 2), (.var 3), (.var 4), (.add (.var 5) (.lit 1)), (.var 6), (.var 7), (.var 8), (.lit 1), (.var 10)] [(.var 0)] [(.row 0), (.row 1)]),
  ([h57, h86, h45, h28, h23, h11, h3, h1, h8, h0], .cut 21 [(.var 0), (.add (.var 1) (.lit 1)), (.var 2), (.var 3), (.var 4), (.add (.var 5) (.lit 1)), (.var 6), (.var 7), (.var 8), (.lit 1), (.var 10)] [(.var 0)] [(.row 0), (.row 1)]),
  ([h82, h45, h28, h23, h11, h3, h1, h8, h0], .cut 32 [(.var 0), (.add (.var 1) (.lit 1)), (.var 2), (.var 3), (.var 4), (.add (.var 5) (.lit 1)), (.var 6), (.var 7), (.var 8), (.var 9), (.lit 0), (.var 10)] [(.var 0)] [(.upd (.row 0) (.rem (.add (.var 1) (.lit 1)) (.lit 5)) (.wrap .i64 (.add (.sel .i64 (.row 0) (.rem (.add (.var 1) (.lit 1)) (.lit 5))) (.lit 1)))), (.row 1)]),
  ([h107, h2, h1, h8, h0], .cut 21 [(.var 0), (.add (.var 1) (.lit 1)), (.var 2), (.var 3), (.var 4), (.var 5), (.var 6), (.var 7), (.var 8), (.var 9), (.var 10)] [(.lit false)] [(.row 0), (.row 1)]),
  ([h40, h77, h10, h2, h1, h8, h0], .cut 21 [(.var 0), (.add (.var 1) (.lit 1)), (.var 2), (.var 3), (.var 4), (.add (.var 5) (.lit 1)), (.lit 1), (.var 7), (.var 8), (.var 9), (.var 10)] [(.lit false)] [(.row 0), (.row 1)]),
  ([h39, h77, h10, h2, h1, h8, h0], .cut 21 [(.var 0), (.add (.var 1) (.lit 1)), (.var 2), (.var 3), (.var 4), (.add (.var 5) (.lit 1)), (.lit 1), (.var 7), (.var 8), (.var 9), (.var 10)] [(.lit false)] [(.row 0), (.row 1)]),
  ([h43, h78, h22, h10, h2, h1, h8, h0], .cut 21 [(.var 0), (.add (.var 1) (.lit 1)), (.var 2), (.var 3), (.var 4), (.add (.var 5) (.lit 1)), (.var 6), (.lit 1), (.var 8), (.var 9), (.var 10)] [(.lit false)] [(.row 0), (.row 1)]),
  ([h41, h78, h22, h10, h2, h1, h8, h0], .cut 21 [(.var 0), (.add (.var 1) (.lit 1)), (.var 2), (.var 3), (.var 4), (.add (.var 5) (.lit 1)), (.var 6), (.lit 1), (.var 8), (.var 9), (.var 10)] [(.lit false)] [(.row 0), (.row 1)]),
  ([h50, h79, h27, h22, h10, h2, h1, h8, h0], .cut 21 [(.var 0), (.add (.var 1) (.lit 1)), (.var 2), (.var 3), (.var 4), (.add (.var 5) (.lit 1)), (.var 6), (.var 7), (.lit 1), (.var 9), (.var 10)] [(.lit false)] [(.row 0), (.row 1)]),
  ([h48, h79, h27, h22, h10, h2, h1, h8, h0], .cut 21 [(.var 0), (.add (.var 1) (.lit 1)), (.var 2), (.var 3), (.var 4), (.add (.var 5) (.lit 1)), (.var 6), (.var 7), (.lit 1), (.var 9), (.var 10)] [(.lit false)] [(.row 0), (.row 1)]),
  ([h61, h80, h42, h27, h22, h10, h2, h1, h8, h0], .cut 21 [(.var 0), (.add (.var 1) (.lit 1)), (.var 2), (.var 3), (.var 4), (.add (.var 5) (.lit 1)), (.var 6), (.var 7), (.var 8), (.lit 1), (.var 10)] [(.lit false)] [(.row 0), (.row 1)]),
  ([h57, h80, h42, h27, h22, h10, h2, h1, h8, h0], .cut 21 [(.var 0), (.add (.var 1) (.lit 1)), (.var 2), (.var 3), (.var 4), (.add (.var 5) (.lit 1)), (.var 6), (.var 7), (.var 8), (.lit 1), (.var 10)] [(.lit false)] [(.row 0), (.row 1)]),
  ([h76, h42, h27, h22, h10, h2, h1, h8, h0], .cut 32 [(.var 0), (.add (.var 1) (.lit 1)), (.var 2), (.var 3), (.var 4), (.add (.var 5) (.lit 1)), (.var 6), (.var 7), (.var 8), (.var 9), (.lit 0), (.var 10)] [(.lit false)] [(.upd (.row 0) (.rem (.sel .u8 (.row 1) (.var 1)) (.lit 5)) (.wrap .i64 (.add (.sel .i64 (.row 0) (.rem (.sel .u8 (.row 1) (.var 1)) (.lit 5))) (.lit 1)))), (.row 1)]),
  ([h54, h29, h20, h12, h7, h9, h8, h0], .fin (.lit false)),
  ([h87, h29, h20, h12, h7, h9, h8, h0], .fin (.lit false)),
  ([h55, h20, h12, h7, h9, h8, h0], .fin (.lit false)),
  ([h51, h12, h7, h9, h8, h0], .fin (.lit false)),
  ([h46, h7, h9, h8, h0], .fin (.lit false)),
  ([h44, h9, h8, h0], .fin (.lit false))]
theorem q21 : PartΦ Try.prog cuts φ 21 m21 true g17 t21.cfg := .chk chk 1000000 d21 (by kernel_rfl) (by kernel_rfl) (by kernel_rfl)
def d29 : List (List (SB × Bool) × Leaf) := [
  ([h135, h3, h1, h31, h0], .cut 29 [(.var 0), (.add (.var 1) (.lit 1)), (.var 2), (.var 3), (.var 4), (.var 5), (.var 6), (.var 7), (.var 8)] [(.var 0)] [(.row 0), (.row 1)]),
  ([h40, h131, h68, h3, h1, h31, h0], .cut 9 [(.var 0), (.add (.var 1) (.lit 1)), (.var 2), (.var 3), (.var 4), (.add (.var 5) (.lit 1)), (.var 7), (.var 8)] [(.var 0)] [(.row 0), (.row 1)]),
  ([h39, h131, h68, h3, h1, h31, h0], .cut 9 [(.var 0), (.add (.var 1) (.lit 1)), (.var 2), (.var 3), (.var 4), (.add (.var 5) (.lit 1)), (.var 7), (.var 8)] [(.var 0)] [(.row 0), (.row 1)]),
  ([h43, h130, h68, h3, h1, h31, h0], .cut 8 [(.var 0), (.add (.var 1) (.lit 1)), (.var 2), (.var 3), (.var 4), (.add (.var 5) (.lit 1)), (.var 6), (.var 8)] [(.var 0)] [(.row 0), (.row 1)]),
  ([h41, h130, h68, h3, h1, h31, h0], .cut 8 [(.var 0), (.add (.var 1) (.lit 1)), (.var 2), (.var 3), (.var 4), (.add (.var 5) (.lit 1)), (.var 6), (.var 8)] [(.var 0)] [(.row 0), (.row 1)]),
  ([h134, h2, h1, h31, h0], .cut 29 [(.var 0), (.add (.var 1) (.lit 1)), (.var 2), (.var 3), (.var 4), (.var 5), (.var 6), (.var 7), (.var 8)] [(.lit false)] [(.row 0), (.row 1)]),
  ([h40, h128, h59, h2, h1, h31, h0], .cut 9 [(.var 0), (.add (.var 1) (.lit 1)), (.var 2), (.var 3), (.var 4), (.add (.var 5) (.lit 1)), (.var 7), (.var 8)] [(.lit false)] [(.row 0), (.row 1)]),
  ([h39, h128, h59, h2, h1, h31, h0], .cut 9 [(.var 0), (.add (.var 1) (.lit 1)), (.var 2), (.var 3), (.var 4), (.add (.var 5) (.lit 1)), (.var 7), (.var 8)] [(.lit false)] [(.row 0), (.row 1)]),
  ([h43, h127, h59, h2, h1, h31, h0], .cut 8 [(.var 0), (.add (.var 1) (.lit 1)), (.var 2), (.var 3), (.var 4), (.add (.var 5) (.lit 1)), (.var 6), (.var 8)] [(.lit false)] [(.row 0), (.row 1)]),
  ([h41, h127, h59, h2, h1, h31, h0], .cut 8 [(.var 0), (.add (.var 1) (.lit 1)), (.var 2), (.var 3), (.var 4), (.add (.var 5) (.lit 1)), (.var 6), (.var 8)] [(.lit false)] [(.row 0), (.row 1)]),
  ([h12, h7, h9, h31, h0], .fin (.lit true)),
  ([h46, h7, h9, h31, h0], .fin (.lit false)),
  ([h44, h9, h31, h0], .fin (.lit false))]
theorem q29 : PartΦ Try.prog cuts φ 29 m29 true g10 t29.cfg := .chk chk 1000000 d29 (by kernel_rfl) (by kernel_rfl) (by kernel_rfl)
def d6 : List (List (SB × Bool) × Leaf) := [
  ([h141, h62], .cut 22 [(.var 0), (.lit 1), (.lit 0), (.lit 0), (.lit 0), (.lit 1), (.lit 0), (.lit 0), (.lit 0), (.lit 0), (.lit 0), (.lit 200)] [(.var 0)] [(.con 0), (.con 0)]),
  ([((.eql (.rem (.sel .u8 (.row 0) (.lit 0)) (.lit 6)) (.lit 0)), true), h88, h62], .cut 23 [(.var 0), (.lit 1), (.var 1), (.var 2), (.var 3), (.lit 1), (.lit 0), (.lit 0), (.lit 0), (.lit 0), (.lit 0), (.var 4)] [(.lit false)] [(.con 0), (.row 0)]),
  ([((.eql (.rem (.sel .u8 (.row 0) (.lit 0)) (.lit 6)) (.lit 1)), true), h126, h88, h62], .cut 22 [(.var 0), (.lit 1), (.var 1), (.var 2), (.var 3), (.lit 1), (.lit 0), (.lit 0), (.lit 0), (.lit 0), (.lit 0), (.var 4)] [(.lit false)] [(.con 0), (.row 0)]),
  ([((.eql (.rem (.sel .u8 (.row 0) (.lit 0)) (.lit 6)) (.lit 2)), true), h133, h126, h88, h62], .cut 24 [(.var 0), (.lit 1), (.var 1), (.var 2), (.var 3), (.lit 1), (.lit 0), (.lit 0), (.lit 0), (.lit 0), (.lit 0), (.var 4)] [(.lit false)] [(.con 0), (.row 0)]),
  ([((.eql (.rem (.sel .u8 (.row 0) (.lit 0)) (.lit 6)) (.lit 3)), true), h138, h133, h126, h88, h62], .cut 25 [(.var 0), (.lit 1), (.var 1), (.var 2), (.var 3), (.lit 1), (.lit 0), (.lit 0), (.lit 0), (.lit 0), (.lit 0), (.var 4)] [(.lit false)] [(.con 0), (.row 0)]),
  ([((.eql (.rem (.sel .u8 (.row 0) (.lit 0)) (.lit 6)) (.lit 4)), true), ((.eql (.rem (.sel .u8 (.row 0) (.lit 0)) (.lit 6)) (.lit 3)), false), h138, h133, h126, h88, h62], .cut 26 [(.var 0), (.lit 1), (.var 1), (.var 2), (.var 3), (.lit 1), (.lit 0), (.lit 0), (.lit 0), (.lit 0), (.lit 0), (.var 4)] [(.lit false)] [(.con 0), (.row 0)]),
  ([((.eql (.rem (.sel .u8 (.row 0) (.lit 0)) (.lit 6)) (.lit 4)), false), ((.eql (.rem (.sel .u8 (.row 0) (.lit 0)) (.lit 6)) (.lit 3)), false), h138, h133, h126, h88, h62], .cut 27 [(.var 0), (.lit 1), (.var 1), (.var 2), (.var 3), (.lit 1), (.lit 0), (.lit 0), (.lit 0), (.lit 0), (.lit 0), (.var 4)] [(.lit false)] [(.con 0), (.row 0)])]
theorem q6 : PartΦ Try.prog cuts φ 6 ⟨2, none, 0, none, 0, none⟩ true g1 t6.cfg := .chk chk 1000000 d6 (by kernel_rfl) (by kernel_rfl) (by kernel_rfl)

end
end Go.Proofs.Ytkiodlgicjlbaaa.latchOne
