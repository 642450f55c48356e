/- Parts of the plan for the law LatchOne: each is one kernel run. -/
import Derived.Test.YtkiodlgicjlbaaaLatchOnePlan
set_option linter.unusedVariables false
namespace Go.Proofs.Ytkiodlgicjlbaaa.latchOne
open Go Go.Ev
noncomputable section

def d23 : List (List (SB × Bool) × Leaf) := [
  ([h100, h3, h1, h4, h0], .cut 23 [(.var 0), (.add (.var 1) (.lit 1)), (.var 2), (.var 3), (.var 4), (.var 5), (.var 6), (.var 7), (.var 8), (.var 9), (.var 10), (.var 11)] [(.var 0)] [(.row 0), (.row 1)]),
  ([h71, h6, h3, h1, h4, h0], .cut 33 [(.var 0), (.add (.var 1) (.lit 1)), (.var 2), (.var 3), (.var 4), (.add (.var 5) (.lit 1)), (.lit 0), (.var 6), (.var 7), (.var 8), (.var 9), (.var 10), (.var 11)] [(.var 0)] [(.upd (.row 0) (.rem (.add (.var 1) (.lit 1)) (.lit 6)) (.wrap .i64 (.add (.sel .i64 (.row 0) (.rem (.add (.var 1) (.lit 1)) (.lit 6))) (.lit 1)))), (.row 1)]),
  ([h40, h72, h14, h6, h3, h1, h4, h0], .cut 23 [(.var 0), (.add (.var 1) (.lit 1)), (.var 2), (.var 3), (.var 4), (.add (.var 5) (.lit 1)), (.lit 1), (.var 7), (.var 8), (.var 9), (.var 10), (.var 11)] [(.var 0)] [(.row 0), (.row 1)]),
  ([h39, h72, h14, h6, h3, h1, h4, h0], .cut 23 [(.var 0), (.add (.var 1) (.lit 1)), (.var 2), (.var 3), (.var 4), (.add (.var 5) (.lit 1)), (.lit 1), (.var 7), (.var 8), (.var 9), (.var 10), (.var 11)] [(.var 0)] [(.row 0), (.row 1)]),
  ([h43, h73, h16, h14, h6, h3, h1, h4, h0], .cut 23 [(.var 0), (.add (.var 1) (.lit 1)), (.var 2), (.var 3), (.var 4), (.add (.var 5) (.lit 1)), (.var 6), (.lit 1), (.var 8), (.var 9), (.var 10), (.var 11)] [(.var 0)] [(.row 0), (.row 1)]),
  ([h41, h73, h16, h14, h6, h3, h1, h4, h0], .cut 23 [(.var 0), (.add (.var 1) (.lit 1)), (.var 2), (.var 3), (.var 4), (.add (.var 5) (.lit 1)), (.var 6), (.lit 1), (.var 8), (.var 9), (.var 10), (.var 11)] [(.var 0)] [(.row 0), (.row 1)]),
  ([h50, h74, h26, h16, h14, h6, h3, h1, h4, h0], .cut 23 [(.var 0), (.add (.var 1) (.lit 1)), (.var 2), (.var 3), (.var 4), (.add (.var 5) (.lit 1)), (.var 6), (.var 7), (.lit 1), (.var 9), (.var 10), (.var 11)] [(.var 0)] [(.row 0), (.row 1)]),
  ([h48, h74, h26, h16, h14, h6, h3, h1, h4, h0], .cut 23 [(.var 0), (.add (.var 1) (.lit 1)), (.var 2), (.var 3), (.var 4), (.add (.var 5) (.lit 1)), (.var 6), (.var 7), (.lit 1), (.var 9), (.var 10), (.var 11)] [(.var 0)] [(.row 0), (.row 1)]),
  ([h61, h75, h38, h26, h16, h14, h6, h3, h1, h4, h0], .cut 23 [(.var 0), (.add (.var 1) (.lit 1)), (.var 2), (.var 3), (.var 4), (.add (.var 5) (.lit 1)), (.var 6), (.var 7), (.var 8), (.lit 1), (.var 10), (.var 11)] [(.var 0)] [(.row 0), (.row 1)]),
  ([h57, h75, h38, h26, h16, h14, h6, h3, h1, h4, h0], .cut 23 [(.var 0), (.add (.var 1) (.lit 1)), (.var 2), (.var 3), (.var 4), (.add (.var 5) (.lit 1)), (.var 6), (.var 7), (.var 8), (.lit 1), (.var 10), (.var 11)] [(.var 0)] [(.row 0), (.row 1)]),
  ([h108, h69, h38, h26, h16, h14, h6, h3, h1, h4, h0], .cut 23 [(.var 0), (.add (.var 1) (.lit 1)), (.var 2), (.var 3), (.var 4), (.add (.var 5) (.lit 1)), (.var 6), (.var 7), (.var 8), (.var 9), (.lit 1), (.var 11)] [(.var 0)] [(.row 0), (.row 1)]),
  ([h106, h69, h38, h26, h16, h14, h6, h3, h1, h4, h0], .cut 23 [(.var 0), (.add (.var 1) (.lit 1)), (.var 2), (.var 3), (.var 4), (.add (.var 5) (.lit 1)), (.var 6), (.var 7), (.var 8), (.var 9), (.lit 1), (.var 11)] [(.var 0)] [(.row 0), (.row 1)]),
  ([h95, h2, h1, h4, h0], .cut 23 [(.var 0), (.add (.var 1) (.lit 1)), (.var 2), (.var 3), (.var 4), (.var 5), (.var 6), (.var 7), (.var 8), (.var 9), (.var 10), (.var 11)] [(.lit false)] [(.row 0), (.row 1)]),
  ([h63, h5, h2, h1, h4, h0], .cut 33 [(.var 0), (.add (.var 1) (.lit 1)), (.var 2), (.var 3), (.var 4), (.add (.var 5) (.lit 1)), (.lit 0), (.var 6), (.var 7), (.var 8), (.var 9), (.var 10), (.var 11)] [(.lit false)] [(.upd (.row 0) (.rem (.sel .u8 (.row 1) (.var 1)) (.lit 6)) (.wrap .i64 (.add (.sel .i64 (.row 0) (.rem (.sel .u8 (.row 1) (.var 1)) (.lit 6))) (.lit 1)))), (.row 1)]),
  ([h40, h64, h13, h5, h2, h1, h4, h0], .cut 23 [(.var 0), (.add (.var 1) (.lit 1)), (.var 2), (.var 3), (.var 4), (.add (.var 5) (.lit 1)), (.lit 1), (.var 7), (.var 8), (.var 9), (.var 10), (.var 11)] [(.lit false)] [(.row 0), (.row 1)]),
  ([h39, h64, h13, h5, h2, h1, h4, h0], .cut 23 [(.var 0), (.add (.var 1) (.lit 1)), (.var 2), (.var 3), (.var 4), (.add (.var 5) (.lit 1)), (.lit 1), (.var 7), (.var 8), (.var 9), (.var 10), (.var 11)] [(.lit false)] [(.row 0), (.row 1)]),
  ([h43, h65, h15, h13, h5, h2, h1, h4, h0], .cut 23 [(.var 0), (.add (.var 1) (.lit 1)), (.var 2), (.var 3), (.var 4), (.add (.var 5) (.lit 1)), (.var 6), (.lit 1), (.var 8), (.var 9), (.var 10), (.var 11)] [(.lit false)] [(.row 0), (.row 1)]),
  ([h41, h65, h15, h13, h5, h2, h1, h4, h0], .cut 23 [(.var 0), (.add (.var 1) (.lit 1)), (.var 2), (.var 3), (.var 4), (.add (.var 5) (.lit 1)), (.var 6), (.lit 1), (.var 8), (.var 9), (.var 10), (.var 11)] [(.lit false)] [(.row 0), (.row 1)]),
  ([h50, h66, h24, h15, h13, h5, h2, h1, h4, h0], .cut 23 [(.var 0), (.add (.var 1) (.lit 1)), (.var 2), (.var 3), (.var 4), (.add (.var 5) (.lit 1)), (.var 6), (.var 7), (.lit 1), (.var 9), (.var 10), (.var 11)] [(.lit false)] [(.row 0), (.row 1)]),
  ([h48, h66, h24, h15, h13, h5, h2, h1, h4, h0], .cut 23 [(.var 0), (.add (.var 1) (.lit 1)), (.var 2), (.var 3), (.var 4), (.add (.var 5) (.lit 1)), (.var 6), (.var 7), (.lit 1), (.var 9), (.var 10), (.var 11)] [(.lit false)] [(.row 0), (.row 1)]),
  ([h61, h67, h36, h24, h15, h13, h5, h2, h1, h4, h0], .cut 23 [(.var 0), (.add (.var 1) (.lit 1)), (.var 2), (.var 3), (.var 4), (.add (.var 5) (.lit 1)), (.var 6), (.var 7), (.var 8), (.lit 1), (.var 10), (.var 11)] [(.lit false)] [(.row 0), (.row 1)]),
  ([h57, h67, h36, h24, h15, h13, h5, h2, h1, h4, h0], .cut 23 [(.var 0), (.add (.var 1) (.lit 1)), (.var 2), (.var 3), (.var 4), (.add (.var 5) (.lit 1)), (.var 6), (.var 7), (.var 8), (.lit 1), (.var 10), (.var 11)] [(.lit false)] [(.row 0), (.row 1)]),
  ([h108, h60, h36, h24, h15, h13, h5, h2, h1, h4, h0], .cut 23 [(.var 0), (.add (.var 1) (.lit 1)), (.var 2), (.var 3), (.var 4), (.add (.var 5) (.lit 1)), (.var 6), (.var 7), (.var 8), (.var 9), (.lit 1), (.var 11)] [(.lit false)] [(.row 0), (.row 1)]),
  ([h106, h60, h36, h24, h15, h13, h5, h2, h1, h4, h0], .cut 23 [(.var 0), (.add (.var 1) (.lit 1)), (.var 2), (.var 3), (.var 4), (.add (.var 5) (.lit 1)), (.var 6), (.var 7), (.var 8), (.var 9), (.lit 1), (.var 11)] [(.lit false)] [(.row 0), (.row 1)]),
  ([h124, h54, h29, h20, h12, h7, h9, h4, h0], .fin (.lit false)),
  ([h123, h54, h29, h20, h12, h7, h9, h4, h0], .fin (.lit false)),
  ([h87, h29, h20, h12, h7, h9, h4, h0], .fin (.lit false)),
  ([h55, h20, h12, h7, h9, h4, h0], .fin (.lit false)),
  ([h51, h12, h7, h9, h4, h0], .fin (.lit false)),
  ([h46, h7, h9, h4, h0], .fin (.lit false)),
  ([h44, h9, h4, h0], .fin (.lit false))]
theorem q23 : PartΦ Try.prog cuts φ 23 m23 true g22 t23.cfg := .chk chk 1000000 d23 (by kernel_rfl) (by kernel_rfl) (by kernel_rfl)
def d19 : List (List (SB × Bool) × Leaf) := [
  ([h109, h3, h1, h8, h0], .cut 19 [(.var 0), (.add (.var 1) (.lit 1)), (.var 2), (.var 3), (.var 4), (.var 5), (.var 6), (.var 7), (.var 8), (.var 9), (.var 10)] [(.var 0)] [(.row 0), (.row 1)]),
  ([h40, h83, h11, h3, h1, h8, h0], .cut 19 [(.var 0), (.add (.var 1) (.lit 1)), (.var 2), (.var 3), (.var 4), (.add (.var 5) (.lit 1)), (.lit 1), (.var 7), (.var 8), (.var 9), (.var 10)] [(.var 0)] [(.row 0), (.row 1)]),
  ([h39, h83, h11, h3, h1, h8, h0], .cut 19 [(.var 0), (.add (.var 1) (.lit 1)), (.var 2), (.var 3), (.var 4), (.add (.var 5) (.lit 1)), (.lit 1), (.var 7), (.var 8), (.var 9), (.var 10)] [(.var 0)] [(.row 0), (.row 1)]),
  ([h43, h84, h23, h11, h3, h1, h8, h0], .cut 19 [(.var 0), (.add (.var 1) (.lit 1)), (.var 2), (.var 3), (.var 4), (.add (.var 5) (.lit 1)), (.var 6), (.lit 1), (.var 8), (.var 9), (.var 10)] [(.var 0)] [(.row 0), (.row 1)]),
  ([h41, h84, h23, h11, h3, h1, h8, h0], .cut 19 [(.var 0), (.add (.var 1) (.lit 1)), (.var 2), (.var 3), (.var 4), (.add (.var 5) (.lit 1)), (.var 6), (.lit 1), (.var 8), (.var 9), (.var 10)] [(.var 0)] [(.row 0), (.row 1)]),
  ([h85, h28, h23, h11, h3, h1, h8, h0], .cut 32 [(.var 0), (.add (.var 1) (.lit 1)), (.var 2), (.var 3), (.var 4), (.add (.var 5) (.lit 1)), (.var 6), (.var 7), (.lit 0), (.var 8), (.var 9), (.var 10)] [(.var 0)] [(.upd (.row 0) (.rem (.add (.var 1) (.lit 1)) (.lit 5)) (.wrap .i64 (.add (.sel .i64 (.row 0) (.rem (.add (.var 1) (.lit 1)) (.lit 5))) (.lit 1)))), (.row 1)]),
  ([h50, h86, h45, h28, h23, h11, h3, h1, h8, h0], .cut 19 [(.var 0), (.add (.var 1) (.lit 1)), (.var 2), (.var 3), (.var 4), (.add (.var 5) (.lit 1)), (.var 6), (.var 7), (.lit 1), (.var 9), (.var 10)] [(.var 0)] [(.row 0), (.row 1)]),
  ([h48, h86, h45, h28, h23, h11, h3, h1, h8, h0], .cut 19 [(.var 0), (.add (.var 1) (.lit 1)), (.var 2), (.var 3), (.var 4), (.add (.var 5) (.lit 1)), (.var 6), (.var 7), (.lit 1), (.var 9), (.var 10)] [(.var 0)] [(.row 0), (.row 1)]),
  ([h61, h82, h45, h28, h23, h11, h3, h1, h8, h0], .cut 19 [(.var 0), (.add (.var 1) (.lit 1)), (.var 2), (.var 3), (.var 4), (.add (.var 5) (.lit 1)), (.var 6), (.var 7), (.var 8), (.lit 1), (.var 10)] [(.var 0)] [(.row 0), (.row 1)]),
  ([h57, h82, h45, h28, h23, h11, h3, h1, h8, h0], .cut 19 [(.var 0), (.add (.var 1) (.lit 1)), (.var 2), (.var 3), (.var 4), (.add (.var 5) (.lit 1)), (.var 6), (.var 7), (.var 8), (.lit 1), (.var 10)] [(.var 0)] [(.row 0), (.row 1)]),
  ([h107, h2, h1, h8, h0], .cut 19 [(.var 0), (.add (.var 1) (.lit 1)), (.var 2), (.var 3), (.var 4), (.var 5), (.var 6), (.var 7), (.var 8), (.var 9), (.var 10)] [(.lit false)] [(.row 0), (.row 1)]),
  ([h40, h77, h10, h2, h1, h8, h0], .cut 19 [(.var 0), (.add (.var 1) (.lit 1)), (.var 2), (.var 3), (.var 4), (.add (.var 5) (.lit 1)), (.lit 1), (.var 7), (.var 8), (.var 9), (.var 10)] [(.lit false)] [(.row 0), (.row 1)]),
  ([h39, h77, h10, h2, h1, h8, h0], .cut 19 [(.var 0), (.add (.var 1) (.lit 1)), (.var 2), (.var 3), (.var 4), (.add (.var 5) (.lit 1)), (.lit 1), (.var 7), (.var 8), (.var 9), (.var 10)] [(.lit false)] [(.row 0), (.row 1)]),
  ([h43, h78, h22, h10, h2, h1, h8, h0], .cut 19 [(.var 0), (.add (.var 1) (.lit 1)), (.var 2), (.var 3), (.var 4), (.add (.var 5) (.lit 1)), (.var 6), (.lit 1), (.var 8), (.var 9), (.var 10)] [(.lit false)] [(.row 0), (.row 1)]),
  ([h41, h78, h22, h10, h2, h1, h8, h0], .cut 19 [(.var 0), (.add (.var 1) (.lit 1)), (.var 2), (.var 3), (.var 4), (.add (.var 5) (.lit 1)), (.var 6), (.lit 1), (.var 8), (.var 9), (.var 10)] [(.lit false)] [(.row 0), (.row 1)]),
  ([h79, h27, h22, h10, h2, h1, h8, h0], .cut 32 [(.var 0), (.add (.var 1) (.lit 1)), (.var 2), (.var 3), (.var 4), (.add (.var 5) (.lit 1)), (.var 6), (.var 7), (.lit 0), (.var 8), (.var 9), (.var 10)] [(.lit false)] [(.upd (.row 0) (.rem (.sel .u8 (.row 1) (.var 1)) (.lit 5)) (.wrap .i64 (.add (.sel .i64 (.row 0) (.rem (.sel .u8 (.row 1) (.var 1)) (.lit 5))) (.lit 1)))), (.row 1)]),
  ([h50, h80, h42, h27, h22, h10, h2, h1, h8, h0], .cut 19 [(.var 0), (.add (.var 1) (.lit 1)), (.var 2), (.var 3), (.var 4), (.add (.var 5) (.lit 1)), (.var 6), (.var 7), (.lit 1), (.var 9), (.var 10)] [(.lit false)] [(.row 0), (.row 1)]),
  ([h48, h80, h42, h27, h22, h10, h2, h1, h8, h0], .cut 19 [(.var 0), (.add (.var 1) (.lit 1)), (.var 2), (.var 3), (.var 4), (.add (.var 5) (.lit 1)), (.var 6), (.var 7), (.lit 1), (.var 9), (.var 10)] [(.lit false)] [(.row 0), (.row 1)]),
  ([h61, h76, h42, h27, h22, h10, h2, h1, h8, h0], .cut 19 [(.var 0), (.add (.var 1) (.lit 1)), (.var 2), (.var 3), (.var 4), (.add (.var 5) (.lit 1)), (.var 6), (.var 7), (.var 8), (.lit 1), (.var 10)] [(.lit false)] [(.row 0), (.row 1)]),
  ([h57, h76, h42, h27, h22, h10, h2, h1, h8, h0], .cut 19 [(.var 0), (.add (.var 1) (.lit 1)), (.var 2), (.var 3), (.var 4), (.add (.var 5) (.lit 1)), (.var 6), (.var 7), (.var 8), (.lit 1), (.var 10)] [(.lit false)] [(.row 0), (.row 1)]),
  ([h54, h29, h20, h12, h7, h9, h8, h0], .fin (.lit false)),
  ([h87, h29, h20, h12, h7, h9, h8, h0], .fin (.lit false)),
  ([h55, h20, h12, h7, h9, h8, h0], .fin (.lit false)),
  ([h51, h12, h7, h9, h8, h0], .fin (.lit false)),
  ([h46, h7, h9, h8, h0], .fin (.lit false)),
  ([h44, h9, h8, h0], .fin (.lit false))]
theorem q19 : PartΦ Try.prog cuts φ 19 m19 true g17 t19.cfg := .chk chk 1000000 d19 (by kernel_rfl) (by kernel_rfl) (by kernel_rfl)
def d12 : List (List (SB × Bool) × Leaf) := [
  ([h129, h3, h1, h31, h0], .cut 12 [(.var 0), (.add (.var 1) (.lit 1)), (.var 2), (.var 3), (.var 4), (.var 5), (.var 6), (.var 7), (.var 8)] [(.var 0)] [(.row 0), (.row 1)]),
  ([h40, h114, h35, h3, h1, h31, h0], .cut 12 [(.var 0), (.add (.var 1) (.lit 1)), (.var 2), (.var 3), (.var 4), (.add (.var 5) (.lit 1)), (.lit 1), (.var 7), (.var 8)] [(.var 0)] [(.row 0), (.row 1)]),
  ([h39, h114, h35, h3, h1, h31, h0], .cut 12 [(.var 0), (.add (.var 1) (.lit 1)), (.var 2), (.var 3), (.var 4), (.add (.var 5) (.lit 1)), (.lit 1), (.var 7), (.var 8)] [(.var 0)] [(.row 0), (.row 1)]),
  ([h43, h115, h58, h35, h3, h1, h31, h0], .cut 12 [(.var 0), (.add (.var 1) (.lit 1)), (.var 2), (.var 3), (.var 4), (.add (.var 5) (.lit 1)), (.var 6), (.lit 1), (.var 8)] [(.var 0)] [(.row 0), (.row 1)]),
  ([h41, h115, h58, h35, h3, h1, h31, h0], .cut 12 [(.var 0), (.add (.var 1) (.lit 1)), (.var 2), (.var 3), (.var 4), (.add (.var 5) (.lit 1)), (.var 6), (.lit 1), (.var 8)] [(.var 0)] [(.row 0), (.row 1)]),
  ([h113, h58, h35, h3, h1, h31, h0], .cut 30 [(.var 0), (.add (.var 1) (.lit 1)), (.var 2), (.var 3), (.var 4), (.add (.var 5) (.lit 1)), (.var 6), (.var 7), (.lit 0), (.var 8)] [(.var 0)] [(.upd (.row 0) (.rem (.add (.var 1) (.lit 1)) (.lit 3)) (.wrap .i64 (.add (.sel .i64 (.row 0) (.rem (.add (.var 1) (.lit 1)) (.lit 3))) (.lit 1)))), (.row 1)]),
  ([h125, h2, h1, h31, h0], .cut 12 [(.var 0), (.add (.var 1) (.lit 1)), (.var 2), (.var 3), (.var 4), (.var 5), (.var 6), (.var 7), (.var 8)] [(.lit false)] [(.row 0), (.row 1)]),
  ([h40, h111, h33, h2, h1, h31, h0], .cut 12 [(.var 0), (.add (.var 1) (.lit 1)), (.var 2), (.var 3), (.var 4), (.add (.var 5) (.lit 1)), (.lit 1), (.var 7), (.var 8)] [(.lit false)] [(.row 0), (.row 1)]),
  ([h39, h111, h33, h2, h1, h31, h0], .cut 12 [(.var 0), (.add (.var 1) (.lit 1)), (.var 2), (.var 3), (.var 4), (.add (.var 5) (.lit 1)), (.lit 1), (.var 7), (.var 8)] [(.lit false)] [(.row 0), (.row 1)]),
  ([h43, h112, h56, h33, h2, h1, h31, h0], .cut 12 [(.var 0), (.add (.var 1) (.lit 1)), (.var 2), (.var 3), (.var 4), (.add (.var 5) (.lit 1)), (.var 6), (.lit 1), (.var 8)] [(.lit false)] [(.row 0), (.row 1)]),
  ([h41, h112, h56, h33, h2, h1, h31, h0], .cut 12 [(.var 0), (.add (.var 1) (.lit 1)), (.var 2), (.var 3), (.var 4), (.add (.var 5) (.lit 1)), (.var 6), (.lit 1), (.var 8)] [(.lit false)] [(.row 0), (.row 1)]),
  ([h110, h56, h33, h2, h1, h31, h0], .cut 30 [(.var 0), (.add (.var 1) (.lit 1)), (.var 2), (.var 3), (.var 4), (.add (.var 5) (.lit 1)), (.var 6), (.var 7), (.lit 0), (.var 8)] [(.lit false)] [(.upd (.row 0) (.rem (.sel .u8 (.row 1) (.var 1)) (.lit 3)) (.wrap .i64 (.add (.sel .i64 (.row 0) (.rem (.sel .u8 (.row 1) (.var 1)) (.lit 3))) (.lit 1)))), (.row 1)]),
  ([h20, h12, h7, h9, h31, h0], .fin (.lit false)),
  ([h51, h12, h7, h9, h31, h0], .fin (.lit false)),
  ([h46, h7, h9, h31, h0], .fin (.lit false)),
  ([h44, h9, h31, h0], .fin (.lit false))]
theorem q12 : PartΦ Try.prog cuts φ 12 m12 true g10 t12.cfg := .chk chk 1000000 d12 (by kernel_rfl) (by kernel_rfl) (by kernel_rfl)
def d9 : List (List (SB × Bool) × Leaf) := [
  ([h135, h3, h1, h81, h0], .cut 9 [(.var 0), (.add (.var 1) (.lit 1)), (.var 2), (.var 3), (.var 4), (.var 5), (.var 6), (.var 7)] [(.var 0)] [(.row 0), (.row 1)]),
  ([h131, h68, h3, h1, h81, h0], .cut 29 [(.var 0), (.add (.var 1) (.lit 1)), (.var 2), (.var 3), (.var 4), (.add (.var 5) (.lit 1)), (.lit 0), (.var 6), (.var 7)] [(.var 0)] [(.upd (.row 0) (.rem (.add (.var 1) (.lit 1)) (.lit 2)) (.wrap .i64 (.add (.sel .i64 (.row 0) (.rem (.add (.var 1) (.lit 1)) (.lit 2))) (.lit 1)))), (.row 1)]),
  ([h40, h130, h68, h3, h1, h81, h0], .cut 9 [(.var 0), (.add (.var 1) (.lit 1)), (.var 2), (.var 3), (.var 4), (.add (.var 5) (.lit 1)), (.lit 1), (.var 7)] [(.var 0)] [(.row 0), (.row 1)]),
  ([h39, h130, h68, h3, h1, h81, h0], .cut 9 [(.var 0), (.add (.var 1) (.lit 1)), (.var 2), (.var 3), (.var 4), (.add (.var 5) (.lit 1)), (.lit 1), (.var 7)] [(.var 0)] [(.row 0), (.row 1)]),
  ([h134, h2, h1, h81, h0], .cut 9 [(.var 0), (.add (.var 1) (.lit 1)), (.var 2), (.var 3), (.var 4), (.var 5), (.var 6), (.var 7)] [(.lit false)] [(.row 0), (.row 1)]),
  ([h128, h59, h2, h1, h81, h0], .cut 29 [(.var 0), (.add (.var 1) (.lit 1)), (.var 2), (.var 3), (.var 4), (.add (.var 5) (.lit 1)), (.lit 0), (.var 6), (.var 7)] [(.lit false)] [(.upd (.row 0) (.rem (.sel .u8 (.row 1) (.var 1)) (.lit 2)) (.wrap .i64 (.add (.sel .i64 (.row 0) (.rem (.sel .u8 (.row 1) (.var 1)) (.lit 2))) (.lit 1)))), (.row 1)]),
  ([h40, h127, h59, h2, h1, h81, h0], .cut 9 [(.var 0), (.add (.var 1) (.lit 1)), (.var 2), (.var 3), (.var 4), (.add (.var 5) (.lit 1)), (.lit 1), (.var 7)] [(.lit false)] [(.row 0), (.row 1)]),
  ([h39, h127, h59, h2, h1, h81, h0], .cut 9 [(.var 0), (.add (.var 1) (.lit 1)), (.var 2), (.var 3), (.var 4), (.add (.var 5) (.lit 1)), (.lit 1), (.var 7)] [(.lit false)] [(.row 0), (.row 1)]),
  ([h12, h7, h9, h81, h0], .fin (.lit false)),
  ([h46, h7, h9, h81, h0], .fin (.lit false)),
  ([h44, h9, h81, h0], .fin (.lit false))]
theorem q9 : PartΦ Try.prog cuts φ 9 m9 true g8 t9.cfg := .chk chk 1000000 d9 (by kernel_rfl) (by kernel_rfl) (by kernel_rfl)
def d7 : List (List (SB × Bool) × Leaf) := [
  ([((.eql (.sel .i64 (.row 0) (.rem (.add (.var 1) (.lit 1)) (.lit 1))) (.var 0)), true), h3, h1, h121, h0], .cut 7 [(.var 0), (.add (.var 1) (.lit 1)), (.var 2), (.var 3), (.var 4), (.var 5), (.var 6)] [(.var 0)] [(.row 0), (.row 1)]),
  ([((.eql (.sel .i64 (.row 0) (.rem (.add (.var 1) (.lit 1)) (.lit 1))) (.var 0)), false), h3, h1, h121, h0], .cut 28 [(.var 0), (.add (.var 1) (.lit 1)), (.var 2), (.var 3), (.var 4), (.add (.var 5) (.lit 1)), (.var 6)] [(.var 0)] [(.upd (.row 0) (.rem (.add (.var 1) (.lit 1)) (.lit 1)) (.wrap .i64 (.add (.sel .i64 (.row 0) (.rem (.add (.var 1) (.lit 1)) (.lit 1))) (.lit 1)))), (.row 1)]),
  ([((.eql (.sel .i64 (.row 0) (.rem (.sel .u8 (.row 1) (.var 1)) (.lit 1))) (.var 0)), true), h2, h1, h121, h0], .cut 7 [(.var 0), (.add (.var 1) (.lit 1)), (.var 2), (.var 3), (.var 4), (.var 5), (.var 6)] [(.lit false)] [(.row 0), (.row 1)]),
  ([((.eql (.sel .i64 (.row 0) (.rem (.sel .u8 (.row 1) (.var 1)) (.lit 1))) (.var 0)), false), h2, h1, h121, h0], .cut 28 [(.var 0), (.add (.var 1) (.lit 1)), (.var 2), (.var 3), (.var 4), (.add (.var 5) (.lit 1)), (.var 6)] [(.lit false)] [(.upd (.row 0) (.rem (.sel .u8 (.row 1) (.var 1)) (.lit 1)) (.wrap .i64 (.add (.sel .i64 (.row 0) (.rem (.sel .u8 (.row 1) (.var 1)) (.lit 1))) (.lit 1)))), (.row 1)]),
  ([h7, h9, h121, h0], .fin (.lit false)),
  ([h44, h9, h121, h0], .fin (.lit false))]
theorem q7 : PartΦ Try.prog cuts φ 7 m7 true g7 t7.cfg := .chk chk 1000000 d7 (by kernel_rfl) (by kernel_rfl) (by kernel_rfl)

end
end Go.Proofs.Ytkiodlgicjlbaaa.latchOne
