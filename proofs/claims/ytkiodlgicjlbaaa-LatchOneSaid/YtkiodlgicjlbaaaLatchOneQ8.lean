/- Parts of the plan for the law LatchOne: each is one kernel run. -/
import Derived.Test.YtkiodlgicjlbaaaLatchOnePlan
set_option linter.unusedVariables false
namespace Go.Proofs.Ytkiodlgicjlbaaa.latchOne
open Go Go.Ev
noncomputable section

def d32 : List (List (SB × Bool) × Leaf) := [
  ([h109, h3, h1, h4, h0], .cut 32 [(.var 0), (.add (.var 1) (.lit 1)), (.var 2), (.var 3), (.var 4), (.var 5), (.var 6), (.var 7), (.var 8), (.var 9), (.var 10), (.var 11)] [(.var 0)] [(.row 0), (.row 1)]),
  ([h40, h83, h11, h3, h1, h4, h0], .cut 18 [(.var 0), (.add (.var 1) (.lit 1)), (.var 2), (.var 3), (.var 4), (.add (.var 5) (.lit 1)), (.var 7), (.var 8), (.var 9), (.var 10), (.var 11)] [(.var 0)] [(.row 0), (.row 1)]),
  ([h39, h83, h11, h3, h1, h4, h0], .cut 18 [(.var 0), (.add (.var 1) (.lit 1)), (.var 2), (.var 3), (.var 4), (.add (.var 5) (.lit 1)), (.var 7), (.var 8), (.var 9), (.var 10), (.var 11)] [(.var 0)] [(.row 0), (.row 1)]),
  ([h43, h84, h23, h11, h3, h1, h4, h0], .cut 17 [(.var 0), (.add (.var 1) (.lit 1)), (.var 2), (.var 3), (.var 4), (.add (.var 5) (.lit 1)), (.var 6), (.var 8), (.var 9), (.var 10), (.var 11)] [(.var 0)] [(.row 0), (.row 1)]),
  ([h41, h84, h23, h11, h3, h1, h4, h0], .cut 17 [(.var 0), (.add (.var 1) (.lit 1)), (.var 2), (.var 3), (.var 4), (.add (.var 5) (.lit 1)), (.var 6), (.var 8), (.var 9), (.var 10), (.var 11)] [(.var 0)] [(.row 0), (.row 1)]),
  ([h50, h85, h28, h23, h11, h3, h1, h4, h0], .cut 19 [(.var 0), (.add (.var 1) (.lit 1)), (.var 2), (.var 3), (.var 4), (.add (.var 5) (.lit 1)), (.var 6), (.var 7), (.var 9), (.var 10), (.var 11)] [(.var 0)] [(.row 0), (.row 1)]),
  ([h48, h85, h28, h23, h11, h3, h1, h4, h0], .cut 19 [(.var 0), (.add (.var 1) (.lit 1)), (.var 2), (.var 3), (.var 4), (.add (.var 5) (.lit 1)), (.var 6), (.var 7), (.var 9), (.var 10), (.var 11)] [(.var 0)] [(.row 0), (.row 1)]),
  ([h61, h86, h45, h28, h23, h11, h3, h1, h4, h0], .cut 20 [(.var 0), (.add (.var 1) (.lit 1)), (.var 2), (.var 3), (.var 4), (.add (.var 5) (.lit 1)), (.var 6), (.var 7), (.var 8), (.var 10), (.var 11)] [(.var 0)] [(.row 0), (.row 1)]),
  ([h57, h86, h45, h28, h23, h11, h3, h1, h4, h0], .cut 20 [(.var 0), (.add (.var 1) (.lit 1)), (.var 2), (.var 3), (.var 4), (.add (.var 5) (.lit 1)), (.var 6), (.var 7), (.var 8), (.var 10), (.var 11)] [(.var 0)] [(.row 0), (.row 1)]),
  ([h108, h82, h45, h28, h23, h11, h3, h1, h4, h0], .cut 21 [(.var 0), (.add (.var 1) (.lit 1)), (.var 2), (.var 3), (.var 4), (.add (.var 5) (.lit 1)), (.var 6), (.var 7), (.var 8), (.var 9), (.var 11)] [(.var 0)] [(.row 0), (.row 1)]),
  ([h106, h82, h45, h28, h23, h11, h3, h1, h4, h0], .cut 21 [(.var 0), (.add (.var 1) (.lit 1)), (.var 2), (.var 3), (.var 4), (.add (.var 5) (.lit 1)), (.var 6), (.var 7), (.var 8), (.var 9), (.var 11)] [(.var 0)] [(.row 0), (.row 1)]),
  ([h107, h2, h1, h4, h0], .cut 32 [(.var 0), (.add (.var 1) (.lit 1)), (.var 2), (.var 3), (.var 4), (.var 5), (.var 6), (.var 7), (.var 8), (.var 9), (.var 10), (.var 11)] [(.lit false)] [(.row 0), (.row 1)]),
  ([h40, h77, h10, h2, h1, h4, h0], .cut 18 [(.var 0), (.add (.var 1) (.lit 1)), (.var 2), (.var 3), (.var 4), (.add (.var 5) (.lit 1)), (.var 7), (.var 8), (.var 9), (.var 10), (.var 11)] [(.lit false)] [(.row 0), (.row 1)]),
  ([h39, h77, h10, h2, h1, h4, h0], .cut 18 [(.var 0), (.add (.var 1) (.lit 1)), (.var 2), (.var 3), (.var 4), (.add (.var 5) (.lit 1)), (.var 7), (.var 8), (.var 9), (.var 10), (.var 11)] [(.lit false)] [(.row 0), (.row 1)]),
  ([h43, h78, h22, h10, h2, h1, h4, h0], .cut 17 [(.var 0), (.add (.var 1) (.lit 1)), (.var 2), (.var 3), (.var 4), (.add (.var 5) (.lit 1)), (.var 6), (.var 8), (.var 9), (.var 10), (.var 11)] [(.lit false)] [(.row 0), (.row 1)]),
  ([h41, h78, h22, h10, h2, h1, h4, h0], .cut 17 [(.var 0), (.add (.var 1) (.lit 1)), (.var 2), (.var 3), (.var 4), (.add (.var 5) (.lit 1)), (.var 6), (.var 8), (.var 9), (.var 10), (.var 11)] [(.lit false)] [(.row 0), (.row 1)]),
  ([h50, h79, h27, h22, h10, h2, h1, h4, h0], .cut 19 [(.var 0), (.add (.var 1) (.lit 1)), (.var 2), (.var 3), (.var 4), (.add (.var 5) (.lit 1)), (.var 6), (.var 7), (.var 9), (.var 10), (.var 11)] [(.lit false)] [(.row 0), (.row 1)]),
  ([h48, h79, h27, h22, h10, h2, h1, h4, h0], .cut 19 [(.var 0), (.add (.var 1) (.lit 1)), (.var 2), (.var 3), (.var 4), (.add (.var 5) (.lit 1)), (.var 6), (.var 7), (.var 9), (.var 10), (.var 11)] [(.lit false)] [(.row 0), (.row 1)]),
  ([h61, h80, h42, h27, h22, h10, h2, h1, h4, h0], .cut 20 [(.var 0), (.add (.var 1) (.lit 1)), (.var 2), (.var 3), (.var 4), (.add (.var 5) (.lit 1)), (.var 6), (.var 7), (.var 8), (.var 10), (.var 11)] [(.lit false)] [(.row 0), (.row 1)]),
  ([h57, h80, h42, h27, h22, h10, h2, h1, h4, h0], .cut 20 [(.var 0), (.add (.var 1) (.lit 1)), (.var 2), (.var 3), (.var 4), (.add (.var 5) (.lit 1)), (.var 6), (.var 7), (.var 8), (.var 10), (.var 11)] [(.lit false)] [(.row 0), (.row 1)]),
  ([h108, h76, h42, h27, h22, h10, h2, h1, h4, h0], .cut 21 [(.var 0), (.add (.var 1) (.lit 1)), (.var 2), (.var 3), (.var 4), (.add (.var 5) (.lit 1)), (.var 6), (.var 7), (.var 8), (.var 9), (.var 11)] [(.lit false)] [(.row 0), (.row 1)]),
  ([h106, h76, h42, h27, h22, h10, h2, h1, h4, h0], .cut 21 [(.var 0), (.add (.var 1) (.lit 1)), (.var 2), (.var 3), (.var 4), (.add (.var 5) (.lit 1)), (.var 6), (.var 7), (.var 8), (.var 9), (.var 11)] [(.lit false)] [(.row 0), (.row 1)]),
  ([h54, h29, h20, h12, h7, h9, h4, h0], .fin (.lit true)),
  ([h87, h29, h20, h12, h7, h9, h4, h0], .fin (.lit false)),
  ([h55, h20, h12, h7, h9, h4, h0], .fin (.lit false)),
  ([h51, h12, h7, h9, h4, h0], .fin (.lit false)),
  ([h46, h7, h9, h4, h0], .fin (.lit false)),
  ([h44, h9, h4, h0], .fin (.lit false))]
theorem q32 : PartΦ Try.prog cuts φ 32 m32 true g22 t32.cfg := .chk chk 1000000 d32 (by kernel_rfl) (by kernel_rfl) (by kernel_rfl)
def d17 : List (List (SB × Bool) × Leaf) := [
  ([h109, h3, h1, h8, h0], .cut 17 [(.var 0), (.add (.var 1) (.lit 1)), (.var 2), (.var 3), (.var 4), (.var 5), (.var 6), (.var 7), (.var 8), (.var 9), (.var 10)] [(.var 0)] [(.row 0), (.row 1)]),
  ([h40, h83, h11, h3, h1, h8, h0], .cut 17 [(.var 0), (.add (.var 1) (.lit 1)), (.var 2), (.var 3), (.var 4), (.add (.var 5) (.lit 1)), (.lit 1), (.var 7), (.var 8), (.var 9), (.var 10)] [(.var 0)] [(.row 0), (.row 1)]),
  ([h39, h83, h11, h3, h1, h8, h0], .cut 17 [(.var 0), (.add (.var 1) (.lit 1)), (.var 2), (.var 3), (.var 4), (.add (.var 5) (.lit 1)), (.lit 1), (.var 7), (.var 8), (.var 9), (.var 10)] [(.var 0)] [(.row 0), (.row 1)]),
  ([h84, h23, h11, h3, h1, h8, h0], .cut 32 [(.var 0), (.add (.var 1) (.lit 1)), (.var 2), (.var 3), (.var 4), (.add (.var 5) (.lit 1)), (.var 6), (.lit 0), (.var 7), (.var 8), (.var 9), (.var 10)] [(.var 0)] [(.upd (.row 0) (.rem (.add (.var 1) (.lit 1)) (.lit 5)) (.wrap .i64 (.add (.sel .i64 (.row 0) (.rem (.add (.var 1) (.lit 1)) (.lit 5))) (.lit 1)))), (.row 1)]),
  ([h43, h85, h28, h23, h11, h3, h1, h8, h0], .cut 17 [(.var 0), (.add (.var 1) (.lit 1)), (.var 2), (.var 3), (.var 4), (.add (.var 5) (.lit 1)), (.var 6), (.lit 1), (.var 8), (.var 9), (.var 10)] [(.var 0)] [(.row 0), (.row 1)]),
  ([h41, h85, h28, h23, h11, h3, h1, h8, h0], .cut 17 [(.var 0), (.add (.var 1) (.lit 1)), (.var 2), (.var 3), (.var 4), (.add (.var 5) (.lit 1)), (.var 6), (.lit 1), (.var 8), (.var 9), (.var 10)] [(.var 0)] [(.row 0), (.row 1)]),
  ([h50, h86, h45, h28, h23, h11, h3, h1, h8, h0], .cut 17 [(.var 0), (.add (.var 1) (.lit 1)), (.var 2), (.var 3), (.var 4), (.add (.var 5) (.lit 1)), (.var 6), (.var 7), (.lit 1), (.var 9), (.var 10)] [(.var 0)] [(.row 0), (.row 1)]),
  ([h48, h86, h45, h28, h23, h11, h3, h1, h8, h0], .cut 17 [(.var 0), (.add (.var 1) (.lit 1)), (.var 2), (.var 3), (.var 4), (.add (.var 5) (.lit 1)), (.var 6), (.var 7), (.lit 1), (.var 9), (.var 10)] [(.var 0)] [(.row 0), (.row 1)]),
  ([h61, h82, h45, h28, h23, h11, h3, h1, h8, h0], .cut 17 [(.var 0), (.add (.var 1) (.lit 1)), (.var 2), (.var 3), (.var 4), (.add (.var 5) (.lit 1)), (.var 6), (.var 7), (.var 8), (.lit 1), (.var 10)] [(.var 0)] [(.row 0), (.row 1)]),
  ([h57, h82, h45, h28, h23, h11, h3, h1, h8, h0], .cut 17 [(.var 0), (.add (.var 1) (.lit 1)), (.var 2), (.var 3), (.var 4), (.add (.var 5) (.lit 1)), (.var 6), (.var 7), (.var 8), (.lit 1), (.var 10)] [(.var 0)] [(.row 0), (.row 1)]),
  ([h107, h2, h1, h8, h0], .cut 17 [(.var 0), (.add (.var 1) (.lit 1)), (.var 2), (.var 3), (.var 4), (.var 5), (.var 6), (.var 7), (.var 8), (.var 9), (.var 10)] [(.lit false)] [(.row 0), (.row 1)]),
  ([h40, h77, h10, h2, h1, h8, h0], .cut 17 [(.var 0), (.add (.var 1) (.lit 1)), (.var 2), (.var 3), (.var 4), (.add (.var 5) (.lit 1)), (.lit 1), (.var 7), (.var 8), (.var 9), (.var 10)] [(.lit false)] [(.row 0), (.row 1)]),
  ([h39, h77, h10, h2, h1, h8, h0], .cut 17 [(.var 0), (.add (.var 1) (.lit 1)), (.var 2), (.var 3), (.var 4), (.add (.var 5) (.lit 1)), (.lit 1), (.var 7), (.var 8), (.var 9), (.var 10)] [(.lit false)] [(.row 0), (.row 1)]),
  ([h78, h22, h10, h2, h1, h8, h0], .cut 32 [(.var 0), (.add (.var 1) (.lit 1)), (.var 2), (.var 3), (.var 4), (.add (.var 5) (.lit 1)), (.var 6), (.lit 0), (.var 7), (.var 8), (.var 9), (.var 10)] [(.lit false)] [(.upd (.row 0) (.rem (.sel .u8 (.row 1) (.var 1)) (.lit 5)) (.wrap .i64 (.add (.sel .i64 (.row 0) (.rem (.sel .u8 (.row 1) (.var 1)) (.lit 5))) (.lit 1)))), (.row 1)]),
  ([h43, h79, h27, h22, h10, h2, h1, h8, h0], .cut 17 [(.var 0), (.add (.var 1) (.lit 1)), (.var 2), (.var 3), (.var 4), (.add (.var 5) (.lit 1)), (.var 6), (.lit 1), (.var 8), (.var 9), (.var 10)] [(.lit false)] [(.row 0), (.row 1)]),
  ([h41, h79, h27, h22, h10, h2, h1, h8, h0], .cut 17 [(.var 0), (.add (.var 1) (.lit 1)), (.var 2), (.var 3), (.var 4), (.add (.var 5) (.lit 1)), (.var 6), (.lit 1), (.var 8), (.var 9), (.var 10)] [(.lit false)] [(.row 0), (.row 1)]),
  ([h50, h80, h42, h27, h22, h10, h2, h1, h8, h0], .cut 17 [(.var 0), (.add (.var 1) (.lit 1)), (.var 2), (.var 3), (.var 4), (.add (.var 5) (.lit 1)), (.var 6), (.var 7), (.lit 1), (.var 9), (.var 10)] [(.lit false)] [(.row 0), (.row 1)]),
  ([h48, h80, h42, h27, h22, h10, h2, h1, h8, h0], .cut 17 [(.var 0), (.add (.var 1) (.lit 1)), (.var 2), (.var 3), (.var 4), (.add (.var 5) (.lit 1)), (.var 6), (.var 7), (.lit 1), (.var 9), (.var 10)] [(.lit false)] [(.row 0), (.row 1)]),
  ([h61, h76, h42, h27, h22, h10, h2, h1, h8, h0], .cut 17 [(.var 0), (.add (.var 1) (.lit 1)), (.var 2), (.var 3), (.var 4), (.add (.var 5) (.lit 1)), (.var 6), (.var 7), (.var 8), (.lit 1), (.var 10)] [(.lit false)] [(.row 0), (.row 1)]),
  ([h57, h76, h42, h27, h22, h10, h2, h1, h8, h0], .cut 17 [(.var 0), (.add (.var 1) (.lit 1)), (.var 2), (.var 3), (.var 4), (.add (.var 5) (.lit 1)), (.var 6), (.var 7), (.var 8), (.lit 1), (.var 10)] [(.lit false)] [(.row 0), (.row 1)]),
  ([h54, h29, h20, h12, h7, h9, h8, h0], .fin (.lit false)),
  ([h87, h29, h20, h12, h7, h9, h8, h0], .fin (.lit false)),
  ([h55, h20, h12, h7, h9, h8, h0], .fin (.lit false)),
  ([h51, h12, h7, h9, h8, h0], .fin (.lit false)),
  ([h46, h7, h9, h8, h0], .fin (.lit false)),
  ([h44, h9, h8, h0], .fin (.lit false))]
theorem q17 : PartΦ Try.prog cuts φ 17 m17 true g17 t17.cfg := .chk chk 1000000 d17 (by kernel_rfl) (by kernel_rfl) (by kernel_rfl)
def d30 : List (List (SB × Bool) × Leaf) := [
  ([h129, h3, h1, h17, h0], .cut 30 [(.var 0), (.add (.var 1) (.lit 1)), (.var 2), (.var 3), (.var 4), (.var 5), (.var 6), (.var 7), (.var 8), (.var 9)] [(.var 0)] [(.row 0), (.row 1)]),
  ([h40, h114, h35, h3, h1, h17, h0], .cut 11 [(.var 0), (.add (.var 1) (.lit 1)), (.var 2), (.var 3), (.var 4), (.add (.var 5) (.lit 1)), (.var 7), (.var 8), (.var 9)] [(.var 0)] [(.row 0), (.row 1)]),
  ([h39, h114, h35, h3, h1, h17, h0], .cut 11 [(.var 0), (.add (.var 1) (.lit 1)), (.var 2), (.var 3), (.var 4), (.add (.var 5) (.lit 1)), (.var 7), (.var 8), (.var 9)] [(.var 0)] [(.row 0), (.row 1)]),
  ([h43, h115, h58, h35, h3, h1, h17, h0], .cut 10 [(.var 0), (.add (.var 1) (.lit 1)), (.var 2), (.var 3), (.var 4), (.add (.var 5) (.lit 1)), (.var 6), (.var 8), (.var 9)] [(.var 0)] [(.row 0), (.row 1)]),
  ([h41, h115, h58, h35, h3, h1, h17, h0], .cut 10 [(.var 0), (.add (.var 1) (.lit 1)), (.var 2), (.var 3), (.var 4), (.add (.var 5) (.lit 1)), (.var 6), (.var 8), (.var 9)] [(.var 0)] [(.row 0), (.row 1)]),
  ([h50, h113, h58, h35, h3, h1, h17, h0], .cut 12 [(.var 0), (.add (.var 1) (.lit 1)), (.var 2), (.var 3), (.var 4), (.add (.var 5) (.lit 1)), (.var 6), (.var 7), (.var 9)] [(.var 0)] [(.row 0), (.row 1)]),
  ([h48, h113, h58, h35, h3, h1, h17, h0], .cut 12 [(.var 0), (.add (.var 1) (.lit 1)), (.var 2), (.var 3), (.var 4), (.add (.var 5) (.lit 1)), (.var 6), (.var 7), (.var 9)] [(.var 0)] [(.row 0), (.row 1)]),
  ([h125, h2, h1, h17, h0], .cut 30 [(.var 0), (.add (.var 1) (.lit 1)), (.var 2), (.var 3), (.var 4), (.var 5), (.var 6), (.var 7), (.var 8), (.var 9)] [(.lit false)] [(.row 0), (.row 1)]),
  ([h40, h111, h33, h2, h1, h17, h0], .cut 11 [(.var 0), (.add (.var 1) (.lit 1)), (.var 2), (.var 3), (.var 4), (.add (.var 5) (.lit 1)), (.var 7), (.var 8), (.var 9)] [(.lit false)] [(.row 0), (.row 1)]),
  ([h39, h111, h33, h2, h1, h17, h0], .cut 11 [(.var 0), (.add (.var 1) (.lit 1)), (.var 2), (.var 3), (.var 4), (.add (.var 5) (.lit 1)), (.var 7), (.var 8), (.var 9)] [(.lit false)] [(.row 0), (.row 1)]),
  ([h43, h112, h56, h33, h2, h1, h17, h0], .cut 10 [(.var 0), (.add (.var 1) (.lit 1)), (.var 2), (.var 3), (.var 4), (.add (.var 5) (.lit 1)), (.var 6), (.var 8), (.var 9)] [(.lit false)] [(.row 0), (.row 1)]),
  ([h41, h112, h56, h33, h2, h1, h17, h0], .cut 10 [(.var 0), (.add (.var 1) (.lit 1)), (.var 2), (.var 3), (.var 4), (.add (.var 5) (.lit 1)), (.var 6), (.var 8), (.var 9)] [(.lit false)] [(.row 0), (.row 1)]),
  ([h50, h110, h56, h33, h2, h1, h17, h0], .cut 12 [(.var 0), (.add (.var 1) (.lit 1)), (.var 2), (.var 3), (.var 4), (.add (.var 5) (.lit 1)), (.var 6), (.var 7), (.var 9)] [(.lit false)] [(.row 0), (.row 1)]),
  ([h48, h110, h56, h33, h2, h1, h17, h0], .cut 12 [(.var 0), (.add (.var 1) (.lit 1)), (.var 2), (.var 3), (.var 4), (.add (.var 5) (.lit 1)), (.var 6), (.var 7), (.var 9)] [(.lit false)] [(.row 0), (.row 1)]),
  ([h20, h12, h7, h9, h17, h0], .fin (.lit true)),
  ([h51, h12, h7, h9, h17, h0], .fin (.lit false)),
  ([h46, h7, h9, h17, h0], .fin (.lit false)),
  ([h44, h9, h17, h0], .fin (.lit false))]
theorem q30 : PartΦ Try.prog cuts φ 30 m30 true g13 t30.cfg := .chk chk 1000000 d30 (by kernel_rfl) (by kernel_rfl) (by kernel_rfl)
def d2 : List (List (SB × Bool) × Leaf) := [
  ([h141, h62], .cut 8 [(.var 0), (.lit 1), (.lit 0), (.lit 0), (.lit 0), (.lit 1), (.lit 0), (.lit 200)] [(.var 0)] [(.con 0), (.con 0)]),
  ([((.eql (.rem (.sel .u8 (.row 0) (.lit 0)) (.lit 2)) (.lit 0)), true), h88, h62], .cut 9 [(.var 0), (.lit 1), (.var 1), (.var 2), (.var 3), (.lit 1), (.lit 0), (.var 4)] [(.lit false)] [(.con 0), (.row 0)]),
  ([((.eql (.rem (.sel .u8 (.row 0) (.lit 0)) (.lit 2)) (.lit 0)), false), h88, h62], .cut 8 [(.var 0), (.lit 1), (.var 1), (.var 2), (.var 3), (.lit 1), (.lit 0), (.var 4)] [(.lit false)] [(.con 0), (.row 0)])]
theorem q2 : PartΦ Try.prog cuts φ 2 ⟨2, none, 0, none, 0, none⟩ true g1 t2.cfg := .chk chk 1000000 d2 (by kernel_rfl) (by kernel_rfl) (by kernel_rfl)

end
end Go.Proofs.Ytkiodlgicjlbaaa.latchOne
