/- Parts of the plan for the law LatchOne: each is one kernel run. -/
import Derived.Test.YtkiodlgicjlbaaaLatchOnePlan
set_option linter.unusedVariables false
namespace Go.Proofs.Ytkiodlgicjlbaaa.latchOne
open Go Go.Ev
noncomputable section

def d33 : List (List (SB × Bool) × Leaf) := [
  ([h100, h3, h1, h53, h0], .cut 33 [(.var 0), (.add (.var 1) (.lit 1)), (.var 2), (.var 3), (.var 4), (.var 5), (.var 6), (.var 7), (.var 8), (.var 9), (.var 10), (.var 11), (.var 12)] [(.var 0)] [(.row 0), (.row 1)]),
  ([h40, h71, h6, h3, h1, h53, h0], .cut 23 [(.var 0), (.add (.var 1) (.lit 1)), (.var 2), (.var 3), (.var 4), (.add (.var 5) (.lit 1)), (.var 7), (.var 8), (.var 9), (.var 10), (.var 11), (.var 12)] [(.var 0)] [(.row 0), (.row 1)]),
  ([h39, h71, h6, h3, h1, h53, h0], .cut 23 [(.var 0), (.add (.var 1) (.lit 1)), (.var 2), (.var 3), (.var 4), (.add (.var 5) (.lit 1)), (.var 7), (.var 8), (.var 9), (.var 10), (.var 11), (.var 12)] [(.var 0)] [(.row 0), (.row 1)]),
  ([h43, h72, h14, h6, h3, h1, h53, h0], .cut 22 [(.var 0), (.add (.var 1) (.lit 1)), (.var 2), (.var 3), (.var 4), (.add (.var 5) (.lit 1)), (.var 6), (.var 8), (.var 9), (.var 10), (.var 11), (.var 12)] [(.var 0)] [(.row 0), (.row 1)]),
  ([h41, h72, h14, h6, h3, h1, h53, h0], .cut 22 [(.var 0), (.add (.var 1) (.lit 1)), (.var 2), (.var 3), (.var 4), (.add (.var 5) (.lit 1)), (.var 6), (.var 8), (.var 9), (.var 10), (.var 11), (.var 12)] [(.var 0)] [(.row 0), (.row 1)]),
  ([h50, h73, h16, h14, h6, h3, h1, h53, h0], .cut 24 [(.var 0), (.add (.var 1) (.lit 1)), (.var 2), (.var 3), (.var 4), (.add (.var 5) (.lit 1)), (.var 6), (.var 7), (.var 9), (.var 10), (.var 11), (.var 12)] [(.var 0)] [(.row 0), (.row 1)]),
  ([h48, h73, h16, h14, h6, h3, h1, h53, h0], .cut 24 [(.var 0), (.add (.var 1) (.lit 1)), (.var 2), (.var 3), (.var 4), (.add (.var 5) (.lit 1)), (.var 6), (.var 7), (.var 9), (.var 10), (.var 11), (.var 12)] [(.var 0)] [(.row 0), (.row 1)]),
  ([h61, h74, h26, h16, h14, h6, h3, h1, h53, h0], .cut 25 [(.var 0), (.add (.var 1) (.lit 1)), (.var 2), (.var 3), (.var 4), (.add (.var 5) (.lit 1)), (.var 6), (.var 7), (.var 8), (.var 10), (.var 11), (.var 12)] [(.var 0)] [(.row 0), (.row 1)]),
  ([h57, h74, h26, h16, h14, h6, h3, h1, h53, h0], .cut 25 [(.var 0), (.add (.var 1) (.lit 1)), (.var 2), (.var 3), (.var 4), (.add (.var 5) (.lit 1)), (.var 6), (.var 7), (.var 8), (.var 10), (.var 11), (.var 12)] [(.var 0)] [(.row 0), (.row 1)]),
  ([h108, h75, h38, h26, h16, h14, h6, h3, h1, h53, h0], .cut 26 [(.var 0), (.add (.var 1) (.lit 1)), (.var 2), (.var 3), (.var 4), (.add (.var 5) (.lit 1)), (.var 6), (.var 7), (.var 8), (.var 9), (.var 11), (.var 12)] [(.var 0)] [(.row 0), (.row 1)]),
  ([h106, h75, h38, h26, h16, h14, h6, h3, h1, h53, h0], .cut 26 [(.var 0), (.add (.var 1) (.lit 1)), (.var 2), (.var 3), (.var 4), (.add (.var 5) (.lit 1)), (.var 6), (.var 7), (.var 8), (.var 9), (.var 11), (.var 12)] [(.var 0)] [(.row 0), (.row 1)]),
  ([((.eql (.var 11) (.lit 0)), true), h69, h38, h26, h16, h14, h6, h3, h1, h53, h0], .cut 27 [(.var 0), (.add (.var 1) (.lit 1)), (.var 2), (.var 3), (.var 4), (.add (.var 5) (.lit 1)), (.var 6), (.var 7), (.var 8), (.var 9), (.var 10), (.var 12)] [(.var 0)] [(.row 0), (.row 1)]),
  ([((.eql (.var 11) (.lit 0)), false), h69, h38, h26, h16, h14, h6, h3, h1, h53, h0], .cut 27 [(.var 0), (.add (.var 1) (.lit 1)), (.var 2), (.var 3), (.var 4), (.add (.var 5) (.lit 1)), (.var 6), (.var 7), (.var 8), (.var 9), (.var 10), (.var 12)] [(.var 0)] [(.row 0), (.row 1)]),
  ([h95, h2, h1, h53, h0], .cut 33 [(.var 0), (.add (.var 1) (.lit 1)), (.var 2), (.var 3), (.var 4), (.var 5), (.var 6), (.var 7), (.var 8), (.var 9), (.var 10), (.var 11), (.var 12)] [(.lit false)] [(.row 0), (.row 1)]),
  ([h40, h63, h5, h2, h1, h53, h0], .cut 23 [(.var 0), (.add (.var 1) (.lit 1)), (.var 2), (.var 3), (.var 4), (.add (.var 5) (.lit 1)), (.var 7), (.var 8), (.var 9), (.var 10), (.var 11), (.var 12)] [(.lit false)] [(.row 0), (.row 1)]),
  ([h39, h63, h5, h2, h1, h53, h0], .cut 23 [(.var 0), (.add (.var 1) (.lit 1)), (.var 2), (.var 3), (.var 4), (.add (.var 5) (.lit 1)), (.var 7), (.var 8), (.var 9), (.var 10), (.var 11), (.var 12)] [(.lit false)] [(.row 0), (.row 1)]),
  ([h43, h64, h13, h5, h2, h1, h53, h0], .cut 22 [(.var 0), (.add (.var 1) (.lit 1)), (.var 2), (.var 3), (.var 4), (.add (.var 5) (.lit 1)), (.var 6), (.var 8), (.var 9), (.var 10), (.var 11), (.var 12)] [(.lit false)] [(.row 0), (.row 1)]),
  ([h41, h64, h13, h5, h2, h1, h53, h0], .cut 22 [(.var 0), (.add (.var 1) (.lit 1)), (.var 2), (.var 3), (.var 4), (.add (.var 5) (.lit 1)), (.var 6), (.var 8), (.var 9), (.var 10), (.var 11), (.var 12)] [(.lit false)] [(.row 0), (.row 1)]),
  ([h50, h65, h15, h13, h5, h2, h1, h53, h0], .cut 24 [(.var 0), (.add (.var 1) (.lit 1)), (.var 2), (.var 3), (.var 4), (.add (.var 5) (.lit 1)), (.var 6), (.var 7), (.var 9), (.var 10), (.var 11), (.var 12)] [(.lit false)] [(.row 0), (.row 1)]),
  ([h48, h65, h15, h13, h5, h2, h1, h53, h0], .cut 24 [(.var 0), (.add (.var 1) (.lit 1)), (.var 2), (.var 3), (.var 4), (.add (.var 5) (.lit 1)), (.var 6), (.var 7), (.var 9), (.var 10), (.var 11), (.var 12)] [(.lit false)] [(.row 0), (.row 1)]),
  ([h61, h66, h24, h15, h13, h5, h2, h1, h53, h0], .cut 25 [(.var 0), (.add (.var 1) (.lit 1)), (.var 2), (.var 3), (.var 4), (.add (.var 5) (.lit 1)), (.var 6), (.var 7), (.var 8), (.var 10), (.var 11), (.var 12)] [(.lit false)] [(.row 0), (.row 1)]),
  ([h57, h66, h24, h15, h13, h5, h2, h1, h53, h0], .cut 25 [(.var 0), (.add (.var 1) (.lit 1)), (.var 2), (.var 3), (.var 4), (.add (.var 5) (.lit 1)), (.var 6), (.var 7), (.var 8), (.var 10), (.var 11), (.var 12)] [(.lit false)] [(.row 0), (.row 1)]),
  ([h108, h67, h36, h24, h15, h13, h5, h2, h1, h53, h0], .cut 26 [(.var 0), (.add (.var 1) (.lit 1)), (.var 2), (.var 3), (.var 4), (.add (.var 5) (.lit 1)), (.var 6), (.var 7), (.var 8), (.var 9), (.var 11), (.var 12)] [(.lit false)] [(.row 0), (.row 1)]),
  ([h106, h67, h36, h24, h15, h13, h5, h2, h1, h53, h0], .cut 26 [(.var 0), (.add (.var 1) (.lit 1)), (.var 2), (.var 3), (.var 4), (.add (.var 5) (.lit 1)), (.var 6), (.var 7), (.var 8), (.var 9), (.var 11), (.var 12)] [(.lit false)] [(.row 0), (.row 1)]),
  ([((.eql (.var 11) (.lit 0)), true), h60, h36, h24, h15, h13, h5, h2, h1, h53, h0], .cut 27 [(.var 0), (.add (.var 1) (.lit 1)), (.var 2), (.var 3), (.var 4), (.add (.var 5) (.lit 1)), (.var 6), (.var 7), (.var 8), (.var 9), (.var 10), (.var 12)] [(.lit false)] [(.row 0), (.row 1)]),
  ([((.eql (.var 11) (.lit 0)), false), h60, h36, h24, h15, h13, h5, h2, h1, h53, h0], .cut 27 [(.var 0), (.add (.var 1) (.lit 1)), (.var 2), (.var 3), (.var 4), (.add (.var 5) (.lit 1)), (.var 6), (.var 7), (.var 8), (.var 9), (.var 10), (.var 12)] [(.lit false)] [(.row 0), (.row 1)]),
  ([h124, h54, h29, h20, h12, h7, h9, h53, h0], .fin (.lit true)),
  ([h123, h54, h29, h20, h12, h7, h9, h53, h0], .fin (.lit false)),
  ([h87, h29, h20, h12, h7, h9, h53, h0], .fin (.lit false)),
  ([h55, h20, h12, h7, h9, h53, h0], .fin (.lit false)),
  ([h51, h12, h7, h9, h53, h0], .fin (.lit false)),
  ([h46, h7, h9, h53, h0], .fin (.lit false)),
  ([h44, h9, h53, h0], .fin (.lit false))]
theorem q33 : PartΦ Try.prog cuts φ 33 m33 true g33 t33.cfg := .chk chk 1000000 d33 (by kernel_rfl) (by kernel_rfl) (by kernel_rfl)
def d14 : List (List (SB × Bool) × Leaf) := [
  ([h117, h3, h1, h17, h0], .cut 14 [(.var 0), (.add (.var 1) (.lit 1)), (.var 2), (.var 3), (.var 4), (.var 5), (.var 6), (.var 7), (.var 8), (.var 9)] [(.var 0)] [(.row 0), (.row 1)]),
  ([h103, h21, h3, h1, h17, h0], .cut 31 [(.var 0), (.add (.var 1) (.lit 1)), (.var 2), (.var 3), (.var 4), (.add (.var 5) (.lit 1)), (.lit 0), (.var 6), (.var 7), (.var 8), (.var 9)] [(.var 0)] [(.upd (.row 0) (.rem (.add (.var 1) (.lit 1)) (.lit 4)) (.wrap .i64 (.add (.sel .i64 (.row 0) (.rem (.add (.var 1) (.lit 1)) (.lit 4))) (.lit 1)))), (.row 1)]),
  ([h40, h104, h37, h21, h3, h1, h17, h0], .cut 14 [(.var 0), (.add (.var 1) (.lit 1)), (.var 2), (.var 3), (.var 4), (.add (.var 5) (.lit 1)), (.lit 1), (.var 7), (.var 8), (.var 9)] [(.var 0)] [(.row 0), (.row 1)]),
  ([h39, h104, h37, h21, h3, h1, h17, h0], .cut 14 [(.var 0), (.add (.var 1) (.lit 1)), (.var 2), (.var 3), (.var 4), (.add (.var 5) (.lit 1)), (.lit 1), (.var 7), (.var 8), (.var 9)] [(.var 0)] [(.row 0), (.row 1)]),
  ([h43, h105, h52, h37, h21, h3, h1, h17, h0], .cut 14 [(.var 0), (.add (.var 1) (.lit 1)), (.var 2), (.var 3), (.var 4), (.add (.var 5) (.lit 1)), (.var 6), (.lit 1), (.var 8), (.var 9)] [(.var 0)] [(.row 0), (.row 1)]),
  ([h41, h105, h52, h37, h21, h3, h1, h17, h0], .cut 14 [(.var 0), (.add (.var 1) (.lit 1)), (.var 2), (.var 3), (.var 4), (.add (.var 5) (.lit 1)), (.var 6), (.lit 1), (.var 8), (.var 9)] [(.var 0)] [(.row 0), (.row 1)]),
  ([h50, h101, h52, h37, h21, h3, h1, h17, h0], .cut 14 [(.var 0), (.add (.var 1) (.lit 1)), (.var 2), (.var 3), (.var 4), (.add (.var 5) (.lit 1)), (.var 6), (.var 7), (.lit 1), (.var 9)] [(.var 0)] [(.row 0), (.row 1)]),
  ([h48, h101, h52, h37, h21, h3, h1, h17, h0], .cut 14 [(.var 0), (.add (.var 1) (.lit 1)), (.var 2), (.var 3), (.var 4), (.add (.var 5) (.lit 1)), (.var 6), (.var 7), (.lit 1), (.var 9)] [(.var 0)] [(.row 0), (.row 1)]),
  ([h116, h2, h1, h17, h0], .cut 14 [(.var 0), (.add (.var 1) (.lit 1)), (.var 2), (.var 3), (.var 4), (.var 5), (.var 6), (.var 7), (.var 8), (.var 9)] [(.lit false)] [(.row 0), (.row 1)]),
  ([h97, h19, h2, h1, h17, h0], .cut 31 [(.var 0), (.add (.var 1) (.lit 1)), (.var 2), (.var 3), (.var 4), (.add (.var 5) (.lit 1)), (.lit 0), (.var 6), (.var 7), (.var 8), (.var 9)] [(.lit false)] [(.upd (.row 0) (.rem (.sel .u8 (.row 1) (.var 1)) (.lit 4)) (.wrap .i64 (.add (.sel .i64 (.row 0) (.rem (.sel .u8 (.row 1) (.var 1)) (.lit 4))) (.lit 1)))), (.row 1)]),
  ([h40, h98, h34, h19, h2, h1, h17, h0], .cut 14 [(.var 0), (.add (.var 1) (.lit 1)), (.var 2), (.var 3), (.var 4), (.add (.var 5) (.lit 1)), (.lit 1), (.var 7), (.var 8), (.var 9)] [(.lit false)] [(.row 0), (.row 1)]),
  ([h39, h98, h34, h19, h2, h1, h17, h0], .cut 14 [(.var 0), (.add (.var 1) (.lit 1)), (.var 2), (.var 3), (.var 4), (.add (.var 5) (.lit 1)), (.lit 1), (.var 7), (.var 8), (.var 9)] [(.lit false)] [(.row 0), (.row 1)]),
  ([h43, h99, h49, h34, h19, h2, h1, h17, h0], .cut 14 [(.var 0), (.add (.var 1) (.lit 1)), (.var 2), (.var 3), (.var 4), (.add (.var 5) (.lit 1)), (.var 6), (.lit 1), (.var 8), (.var 9)] [(.lit false)] [(.row 0), (.row 1)]),
  ([h41, h99, h49, h34, h19, h2, h1, h17, h0], .cut 14 [(.var 0), (.add (.var 1) (.lit 1)), (.var 2), (.var 3), (.var 4), (.add (.var 5) (.lit 1)), (.var 6), (.lit 1), (.var 8), (.var 9)] [(.lit false)] [(.row 0), (.row 1)]),
  ([h50, h96, h49, h34, h19, h2, h1, h17, h0], .cut 14 [(.var 0), (.add (.var 1) (.lit 1)), (.var 2), (.var 3), (.var 4), (.add (.var 5) (.lit 1)), (.var 6), (.var 7), (.lit 1), (.var 9)] [(.lit false)] [(.row 0), (.row 1)]),
  ([h48, h96, h49, h34, h19, h2, h1, h17, h0], .cut 14 [(.var 0), (.add (.var 1) (.lit 1)), (.var 2), (.var 3), (.var 4), (.add (.var 5) (.lit 1)), (.var 6), (.var 7), (.lit 1), (.var 9)] [(.lit false)] [(.row 0), (.row 1)]),
  ([h29, h20, h12, h7, h9, h17, h0], .fin (.lit false)),
  ([h55, h20, h12, h7, h9, h17, h0], .fin (.lit false)),
  ([h51, h12, h7, h9, h17, h0], .fin (.lit false)),
  ([h46, h7, h9, h17, h0], .fin (.lit false)),
  ([h44, h9, h17, h0], .fin (.lit false))]
theorem q14 : PartΦ Try.prog cuts φ 14 m14 true g13 t14.cfg := .chk chk 1000000 d14 (by kernel_rfl) (by kernel_rfl) (by kernel_rfl)
def d10 : List (List (SB × Bool) × Leaf) := [
  ([h129, h3, h1, h31, h0], .cut 10 [(.var 0), (.add (.var 1) (.lit 1)), (.var 2), (.var 3), (.var 4), (.var 5), (.var 6), (.var 7), (.var 8)] [(.var 0)] [(.row 0), (.row 1)]),
  ([h40, h114, h35, h3, h1, h31, h0], .cut 10 [(.var 0), (.add (.var 1) (.lit 1)), (.var 2), (.var 3), (.var 4), (.add (.var 5) (.lit 1)), (.lit 1), (.var 7), (.var 8)] [(.var 0)] [(.row 0), (.row 1)]),
  ([h39, h114, h35, h3, h1, h31, h0], .cut 10 [(.var 0), (.add (.var 1) (.lit 1)), (.var 2), (.var 3), (.var 4), (.add (.var 5) (.lit 1)), (.lit 1), (.var 7), (.var 8)] [(.var 0)] [(.row 0), (.row 1)]),
  ([h115, h58, h35, h3, h1, h31, h0], .cut 30 [(.var 0), (.add (.var 1) (.lit 1)), (.var 2), (.var 3), (.var 4), (.add (.var 5) (.lit 1)), (.var 6), (.lit 0), (.var 7), (.var 8)] [(.var 0)] [(.upd (.row 0) (.rem (.add (.var 1) (.lit 1)) (.lit 3)) (.wrap .i64 (.add (.sel .i64 (.row 0) (.rem (.add (.var 1) (.lit 1)) (.lit 3))) (.lit 1)))), (.row 1)]),
  ([h43, h113, h58, h35, h3, h1, h31, h0], .cut 10 [(.var 0), (.add (.var 1) (.lit 1)), (.var 2), (.var 3), (.var 4), (.add (.var 5) (.lit 1)), (.var 6), (.lit 1), (.var 8)] [(.var 0)] [(.row 0), (.row 1)]),
  ([h41, h113, h58, h35, h3, h1, h31, h0], .cut 10 [(.var 0), (.add (.var 1) (.lit 1)), (.var 2), (.var 3), (.var 4), (.add (.var 5) (.lit 1)), (.var 6), (.lit 1), (.var 8)] [(.var 0)] [(.row 0), (.row 1)]),
  ([h125, h2, h1, h31, h0], .cut 10 [(.var 0), (.add (.var 1) (.lit 1)), (.var 2), (.var 3), (.var 4), (.var 5), (.var 6), (.var 7), (.var 8)] [(.lit false)] [(.row 0), (.row 1)]),
  ([h40, h111, h33, h2, h1, h31, h0], .cut 10 [(.var 0), (.add (.var 1) (.lit 1)), (.var 2), (.var 3), (.var 4), (.add (.var 5) (.lit 1)), (.lit 1), (.var 7), (.var 8)] [(.lit false)] [(.row 0), (.row 1)]),
  ([h39, h111, h33, h2, h1, h31, h0], .cut 10 [(.var 0), (.add (.var 1) (.lit 1)), (.var 2), (.var 3), (.var 4), (.add (.var 5) (.lit 1)), (.lit 1), (.var 7), (.var 8)] [(.lit false)] [(.row 0), (.row 1)]),
  ([h112, h56, h33, h2, h1, h31, h0], .cut 30 [(.var 0), (.add (.var 1) (.lit 1)), (.var 2), (.var 3), (.var 4), (.add (.var 5) (.lit 1)), (.var 6), (.lit 0), (.var 7), (.var 8)] [(.lit false)] [(.upd (.row 0) (.rem (.sel .u8 (.row 1) (.var 1)) (.lit 3)) (.wrap .i64 (.add (.sel .i64 (.row 0) (.rem (.sel .u8 (.row 1) (.var 1)) (.lit 3))) (.lit 1)))), (.row 1)]),
  ([h43, h110, h56, h33, h2, h1, h31, h0], .cut 10 [(.var 0), (.add (.var 1) (.lit 1)), (.var 2), (.var 3), (.var 4), (.add (.var 5) (.lit 1)), (.var 6), (.lit 1), (.var 8)] [(.lit false)] [(.row 0), (.row 1)]),
  ([h41, h110, h56, h33, h2, h1, h31, h0], .cut 10 [(.var 0), (.add (.var 1) (.lit 1)), (.var 2), (.var 3), (.var 4), (.add (.var 5) (.lit 1)), (.var 6), (.lit 1), (.var 8)] [(.lit false)] [(.row 0), (.row 1)]),
  ([h20, h12, h7, h9, h31, h0], .fin (.lit false)),
  ([h51, h12, h7, h9, h31, h0], .fin (.lit false)),
  ([h46, h7, h9, h31, h0], .fin (.lit false)),
  ([h44, h9, h31, h0], .fin (.lit false))]
theorem q10 : PartΦ Try.prog cuts φ 10 m10 true g10 t10.cfg := .chk chk 1000000 d10 (by kernel_rfl) (by kernel_rfl) (by kernel_rfl)
def d5 : List (List (SB × Bool) × Leaf) := [
  ([h141, h62], .cut 17 [(.var 0), (.lit 1), (.lit 0), (.lit 0), (.lit 0), (.lit 1), (.lit 0), (.lit 0), (.lit 0), (.lit 0), (.lit 200)] [(.var 0)] [(.con 0), (.con 0)]),
  ([((.eql (.rem (.sel .u8 (.row 0) (.lit 0)) (.lit 5)) (.lit 0)), true), h88, h62], .cut 18 [(.var 0), (.lit 1), (.var 1), (.var 2), (.var 3), (.lit 1), (.lit 0), (.lit 0), (.lit 0), (.lit 0), (.var 4)] [(.lit false)] [(.con 0), (.row 0)]),
  ([((.eql (.rem (.sel .u8 (.row 0) (.lit 0)) (.lit 5)) (.lit 1)), true), h132, h88, h62], .cut 17 [(.var 0), (.lit 1), (.var 1), (.var 2), (.var 3), (.lit 1), (.lit 0), (.lit 0), (.lit 0), (.lit 0), (.var 4)] [(.lit false)] [(.con 0), (.row 0)]),
  ([((.eql (.rem (.sel .u8 (.row 0) (.lit 0)) (.lit 5)) (.lit 2)), true), h137, h132, h88, h62], .cut 19 [(.var 0), (.lit 1), (.var 1), (.var 2), (.var 3), (.lit 1), (.lit 0), (.lit 0), (.lit 0), (.lit 0), (.var 4)] [(.lit false)] [(.con 0), (.row 0)]),
  ([((.eql (.rem (.sel .u8 (.row 0) (.lit 0)) (.lit 5)) (.lit 3)), true), ((.eql (.rem (.sel .u8 (.row 0) (.lit 0)) (.lit 5)) (.lit 2)), false), h137, h132, h88, h62], .cut 20 [(.var 0), (.lit 1), (.var 1), (.var 2), (.var 3), (.lit 1), (.lit 0), (.lit 0), (.lit 0), (.lit 0), (.var 4)] [(.lit false)] [(.con 0), (.row 0)]),
  ([((.eql (.rem (.sel .u8 (.row 0) (.lit 0)) (.lit 5)) (.lit 3)), false), ((.eql (.rem (.sel .u8 (.row 0) (.lit 0)) (.lit 5)) (.lit 2)), false), h137, h132, h88, h62], .cut 21 [(.var 0), (.lit 1), (.var 1), (.var 2), (.var 3), (.lit 1), (.lit 0), (.lit 0), (.lit 0), (.lit 0), (.var 4)] [(.lit false)] [(.con 0), (.row 0)])]
theorem q5 : PartΦ Try.prog cuts φ 5 ⟨2, none, 0, none, 0, none⟩ true g1 t5.cfg := .chk chk 1000000 d5 (by kernel_rfl) (by kernel_rfl) (by kernel_rfl)

end
end Go.Proofs.Ytkiodlgicjlbaaa.latchOne
