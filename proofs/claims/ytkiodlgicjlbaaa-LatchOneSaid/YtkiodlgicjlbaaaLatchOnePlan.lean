/- The plan for the law LatchOne. -/
import Derived.Test.YtkiodlgicjlbaaaLatchOnePlan1
import Derived.KernelRfl
namespace Go.Proofs.Ytkiodlgicjlbaaa.latchOne
open Go Go.Ev
noncomputable section

def shape : List (Bool × List CS) := [(false, [.slice [(.int .u8)] 5]), (false, [.int .u8]), (false, [.int .u8])]
def h0 : SB × Bool := ((.lss (.var 1) (.var 5)), false)
def h1 : SB × Bool := ((.lss (.var 1) (.lit 4000)), true)
def h2 : SB × Bool := ((.lss (.var 3) (.add (.var 1) (.lit 1))), false)
def h3 : SB × Bool := ((.lss (.var 3) (.add (.var 1) (.lit 1))), true)
def h4 : SB × Bool := ((.lss (.var 11) (.var 3)), false)
def h5 : SB × Bool := ((.eql (.sel .i64 (.row 0) (.rem (.sel .u8 (.row 1) (.var 1)) (.lit 6))) (.var 0)), false)
def h6 : SB × Bool := ((.eql (.sel .i64 (.row 0) (.rem (.add (.var 1) (.lit 1)) (.lit 6))) (.var 0)), false)
def h7 : SB × Bool := ((.eql (.sel .i64 (.row 0) (.lit 0)) (.var 0)), true)
def h8 : SB × Bool := ((.lss (.var 10) (.var 3)), false)
def h9 : SB × Bool := ((.lss (.var 1) (.lit 4000)), false)
def h10 : SB × Bool := ((.eql (.sel .i64 (.row 0) (.rem (.sel .u8 (.row 1) (.var 1)) (.lit 5))) (.var 0)), false)
def h11 : SB × Bool := ((.eql (.sel .i64 (.row 0) (.rem (.add (.var 1) (.lit 1)) (.lit 5))) (.var 0)), false)
def h12 : SB × Bool := ((.eql (.sel .i64 (.row 0) (.lit 1)) (.var 0)), true)
def h13 : SB × Bool := ((.eql (.rem (.sel .u8 (.row 1) (.var 1)) (.lit 6)) (.lit 0)), false)
def h14 : SB × Bool := ((.eql (.rem (.add (.var 1) (.lit 1)) (.lit 6)) (.lit 0)), false)
def h15 : SB × Bool := ((.eql (.rem (.sel .u8 (.row 1) (.var 1)) (.lit 6)) (.lit 1)), false)
def h16 : SB × Bool := ((.eql (.rem (.add (.var 1) (.lit 1)) (.lit 6)) (.lit 1)), false)
def h17 : SB × Bool := ((.lss (.var 9) (.var 3)), false)
def h18 : SB × Bool := ((.eql (.add (.rem (.var 3) (.lit 6)) (.lit 1)) (.lit 1)), false)
def h19 : SB × Bool := ((.eql (.sel .i64 (.row 0) (.rem (.sel .u8 (.row 1) (.var 1)) (.lit 4))) (.var 0)), false)
def h20 : SB × Bool := ((.eql (.sel .i64 (.row 0) (.lit 2)) (.var 0)), true)
def h21 : SB × Bool := ((.eql (.sel .i64 (.row 0) (.rem (.add (.var 1) (.lit 1)) (.lit 4))) (.var 0)), false)
def h22 : SB × Bool := ((.eql (.rem (.sel .u8 (.row 1) (.var 1)) (.lit 5)) (.lit 0)), false)
def h23 : SB × Bool := ((.eql (.rem (.add (.var 1) (.lit 1)) (.lit 5)) (.lit 0)), false)
def h24 : SB × Bool := ((.eql (.rem (.sel .u8 (.row 1) (.var 1)) (.lit 6)) (.lit 2)), false)
def h25 : SB × Bool := ((.eql (.add (.rem (.var 3) (.lit 6)) (.lit 1)) (.lit 2)), false)
def h26 : SB × Bool := ((.eql (.rem (.add (.var 1) (.lit 1)) (.lit 6)) (.lit 2)), false)
def h27 : SB × Bool := ((.eql (.rem (.sel .u8 (.row 1) (.var 1)) (.lit 5)) (.lit 1)), false)
def h28 : SB × Bool := ((.eql (.rem (.add (.var 1) (.lit 1)) (.lit 5)) (.lit 1)), false)
def h29 : SB × Bool := ((.eql (.sel .i64 (.row 0) (.lit 3)) (.var 0)), true)
def h30 : SB × Bool := ((.lss (.var 2) (.var 1)), false)
def h31 : SB × Bool := ((.lss (.var 8) (.var 3)), false)
def h32 : SB × Bool := ((.eql (.add (.rem (.var 3) (.lit 6)) (.lit 1)) (.lit 3)), false)
def h33 : SB × Bool := ((.eql (.sel .i64 (.row 0) (.rem (.sel .u8 (.row 1) (.var 1)) (.lit 3))) (.var 0)), false)
def h34 : SB × Bool := ((.eql (.rem (.sel .u8 (.row 1) (.var 1)) (.lit 4)) (.lit 0)), false)
def h35 : SB × Bool := ((.eql (.sel .i64 (.row 0) (.rem (.add (.var 1) (.lit 1)) (.lit 3))) (.var 0)), false)
def h36 : SB × Bool := ((.eql (.rem (.sel .u8 (.row 1) (.var 1)) (.lit 6)) (.lit 3)), false)
def h37 : SB × Bool := ((.eql (.rem (.add (.var 1) (.lit 1)) (.lit 4)) (.lit 0)), false)
def h38 : SB × Bool := ((.eql (.rem (.add (.var 1) (.lit 1)) (.lit 6)) (.lit 3)), false)
def h39 : SB × Bool := ((.eql (.var 6) (.lit 0)), false)
def h40 : SB × Bool := ((.eql (.var 6) (.lit 0)), true)
def h41 : SB × Bool := ((.eql (.var 7) (.lit 0)), false)
def h42 : SB × Bool := ((.eql (.rem (.sel .u8 (.row 1) (.var 1)) (.lit 5)) (.lit 2)), false)
def h43 : SB × Bool := ((.eql (.var 7) (.lit 0)), true)
def h44 : SB × Bool := ((.eql (.sel .i64 (.row 0) (.lit 0)) (.var 0)), false)
def h45 : SB × Bool := ((.eql (.rem (.add (.var 1) (.lit 1)) (.lit 5)) (.lit 2)), false)
def h46 : SB × Bool := ((.eql (.sel .i64 (.row 0) (.lit 1)) (.var 0)), false)
def h47 : SB × Bool := ((.eql (.add (.rem (.var 3) (.lit 6)) (.lit 1)) (.lit 4)), false)
def h48 : SB × Bool := ((.eql (.var 8) (.lit 0)), false)
def h49 : SB × Bool := ((.eql (.rem (.sel .u8 (.row 1) (.var 1)) (.lit 4)) (.lit 1)), false)
def h50 : SB × Bool := ((.eql (.var 8) (.lit 0)), true)
def h51 : SB × Bool := ((.eql (.sel .i64 (.row 0) (.lit 2)) (.var 0)), false)
def h52 : SB × Bool := ((.eql (.rem (.add (.var 1) (.lit 1)) (.lit 4)) (.lit 1)), false)
def h53 : SB × Bool := ((.lss (.var 12) (.var 3)), false)
def h54 : SB × Bool := ((.eql (.sel .i64 (.row 0) (.lit 4)) (.var 0)), true)
def h55 : SB × Bool := ((.eql (.sel .i64 (.row 0) (.lit 3)) (.var 0)), false)
def h56 : SB × Bool := ((.eql (.rem (.sel .u8 (.row 1) (.var 1)) (.lit 3)) (.lit 0)), false)
def h57 : SB × Bool := ((.eql (.var 9) (.lit 0)), false)
def h58 : SB × Bool := ((.eql (.rem (.add (.var 1) (.lit 1)) (.lit 3)) (.lit 0)), false)
def h59 : SB × Bool := ((.eql (.sel .i64 (.row 0) (.rem (.sel .u8 (.row 1) (.var 1)) (.lit 2))) (.var 0)), false)
def h60 : SB × Bool := ((.eql (.rem (.sel .u8 (.row 1) (.var 1)) (.lit 6)) (.lit 4)), false)
def h61 : SB × Bool := ((.eql (.var 9) (.lit 0)), true)
def h62 : SB × Bool := ((.lss (.var 4) (.var 2)), false)
def h63 : SB × Bool := ((.eql (.rem (.sel .u8 (.row 1) (.var 1)) (.lit 6)) (.lit 0)), true)
def h64 : SB × Bool := ((.eql (.rem (.sel .u8 (.row 1) (.var 1)) (.lit 6)) (.lit 1)), true)
def h65 : SB × Bool := ((.eql (.rem (.sel .u8 (.row 1) (.var 1)) (.lit 6)) (.lit 2)), true)
def h66 : SB × Bool := ((.eql (.rem (.sel .u8 (.row 1) (.var 1)) (.lit 6)) (.lit 3)), true)
def h67 : SB × Bool := ((.eql (.rem (.sel .u8 (.row 1) (.var 1)) (.lit 6)) (.lit 4)), true)
def h68 : SB × Bool := ((.eql (.sel .i64 (.row 0) (.rem (.add (.var 1) (.lit 1)) (.lit 2))) (.var 0)), false)
def h69 : SB × Bool := ((.eql (.rem (.add (.var 1) (.lit 1)) (.lit 6)) (.lit 4)), false)
def h70 : SB × Bool := ((.lss (.lit 200) (.var 1)), false)
def h71 : SB × Bool := ((.eql (.rem (.add (.var 1) (.lit 1)) (.lit 6)) (.lit 0)), true)
def h72 : SB × Bool := ((.eql (.rem (.add (.var 1) (.lit 1)) (.lit 6)) (.lit 1)), true)
def h73 : SB × Bool := ((.eql (.rem (.add (.var 1) (.lit 1)) (.lit 6)) (.lit 2)), true)
def h74 : SB × Bool := ((.eql (.rem (.add (.var 1) (.lit 1)) (.lit 6)) (.lit 3)), true)
def h75 : SB × Bool := ((.eql (.rem (.add (.var 1) (.lit 1)) (.lit 6)) (.lit 4)), true)
def h76 : SB × Bool := ((.eql (.rem (.sel .u8 (.row 1) (.var 1)) (.lit 5)) (.lit 3)), false)
def h77 : SB × Bool := ((.eql (.rem (.sel .u8 (.row 1) (.var 1)) (.lit 5)) (.lit 0)), true)
def h78 : SB × Bool := ((.eql (.rem (.sel .u8 (.row 1) (.var 1)) (.lit 5)) (.lit 1)), true)
def h79 : SB × Bool := ((.eql (.rem (.sel .u8 (.row 1) (.var 1)) (.lit 5)) (.lit 2)), true)
def h80 : SB × Bool := ((.eql (.rem (.sel .u8 (.row 1) (.var 1)) (.lit 5)) (.lit 3)), true)
def h81 : SB × Bool := ((.lss (.var 7) (.var 3)), false)
def h82 : SB × Bool := ((.eql (.rem (.add (.var 1) (.lit 1)) (.lit 5)) (.lit 3)), false)
def h83 : SB × Bool := ((.eql (.rem (.add (.var 1) (.lit 1)) (.lit 5)) (.lit 0)), true)
def h84 : SB × Bool := ((.eql (.rem (.add (.var 1) (.lit 1)) (.lit 5)) (.lit 1)), true)
def h85 : SB × Bool := ((.eql (.rem (.add (.var 1) (.lit 1)) (.lit 5)) (.lit 2)), true)
def h86 : SB × Bool := ((.eql (.rem (.add (.var 1) (.lit 1)) (.lit 5)) (.lit 3)), true)
def h87 : SB × Bool := ((.eql (.sel .i64 (.row 0) (.lit 4)) (.var 0)), false)
def h88 : SB × Bool := ((.lss (.var 2) (.lit 1)), false)
def h89 : SB × Bool := ((.eql (.add (.rem (.var 3) (.lit 6)) (.lit 1)) (.lit 5)), false)
def h90 : SB × Bool := ((.eql (.add (.rem (.var 3) (.lit 6)) (.lit 1)) (.lit 1)), true)
def h91 : SB × Bool := ((.eql (.add (.rem (.var 3) (.lit 6)) (.lit 1)) (.lit 2)), true)
def h92 : SB × Bool := ((.eql (.add (.rem (.var 3) (.lit 6)) (.lit 1)) (.lit 3)), true)
def h93 : SB × Bool := ((.eql (.add (.rem (.var 3) (.lit 6)) (.lit 1)) (.lit 4)), true)
def h94 : SB × Bool := ((.eql (.add (.rem (.var 3) (.lit 6)) (.lit 1)) (.lit 5)), true)
def h95 : SB × Bool := ((.eql (.sel .i64 (.row 0) (.rem (.sel .u8 (.row 1) (.var 1)) (.lit 6))) (.var 0)), true)
def h96 : SB × Bool := ((.eql (.rem (.sel .u8 (.row 1) (.var 1)) (.lit 4)) (.lit 2)), false)
def h97 : SB × Bool := ((.eql (.rem (.sel .u8 (.row 1) (.var 1)) (.lit 4)) (.lit 0)), true)
def h98 : SB × Bool := ((.eql (.rem (.sel .u8 (.row 1) (.var 1)) (.lit 4)) (.lit 1)), true)
def h99 : SB × Bool := ((.eql (.rem (.sel .u8 (.row 1) (.var 1)) (.lit 4)) (.lit 2)), true)
def h100 : SB × Bool := ((.eql (.sel .i64 (.row 0) (.rem (.add (.var 1) (.lit 1)) (.lit 6))) (.var 0)), true)
def h101 : SB × Bool := ((.eql (.rem (.add (.var 1) (.lit 1)) (.lit 4)) (.lit 2)), false)
def h102 : SB × Bool := ((.var 0), true)
def h103 : SB × Bool := ((.eql (.rem (.add (.var 1) (.lit 1)) (.lit 4)) (.lit 0)), true)
def h104 : SB × Bool := ((.eql (.rem (.add (.var 1) (.lit 1)) (.lit 4)) (.lit 1)), true)
def h105 : SB × Bool := ((.eql (.rem (.add (.var 1) (.lit 1)) (.lit 4)) (.lit 2)), true)
def h106 : SB × Bool := ((.eql (.var 10) (.lit 0)), false)
def h107 : SB × Bool := ((.eql (.sel .i64 (.row 0) (.rem (.sel .u8 (.row 1) (.var 1)) (.lit 5))) (.var 0)), true)
def h108 : SB × Bool := ((.eql (.var 10) (.lit 0)), true)
def h109 : SB × Bool := ((.eql (.sel .i64 (.row 0) (.rem (.add (.var 1) (.lit 1)) (.lit 5))) (.var 0)), true)
def h110 : SB × Bool := ((.eql (.rem (.sel .u8 (.row 1) (.var 1)) (.lit 3)) (.lit 1)), false)
def h111 : SB × Bool := ((.eql (.rem (.sel .u8 (.row 1) (.var 1)) (.lit 3)) (.lit 0)), true)
def h112 : SB × Bool := ((.eql (.rem (.sel .u8 (.row 1) (.var 1)) (.lit 3)) (.lit 1)), true)
def h113 : SB × Bool := ((.eql (.rem (.add (.var 1) (.lit 1)) (.lit 3)) (.lit 1)), false)
def h114 : SB × Bool := ((.eql (.rem (.add (.var 1) (.lit 1)) (.lit 3)) (.lit 0)), true)
def h115 : SB × Bool := ((.eql (.rem (.add (.var 1) (.lit 1)) (.lit 3)) (.lit 1)), true)
def h116 : SB × Bool := ((.eql (.sel .i64 (.row 0) (.rem (.sel .u8 (.row 1) (.var 1)) (.lit 4))) (.var 0)), true)
def h117 : SB × Bool := ((.eql (.sel .i64 (.row 0) (.rem (.add (.var 1) (.lit 1)) (.lit 4))) (.var 0)), true)
def h118 : SB × Bool := ((.lss (.lit 200) (.var 1)), true)
def h119 : SB × Bool := ((.var 0), false)
def h120 : SB × Bool := ((.eql (.var 2) (.lit 0)), false)
def h121 : SB × Bool := ((.lss (.var 6) (.var 3)), false)
def h122 : SB × Bool := ((.eql (.var 2) (.lit 0)), true)
def h123 : SB × Bool := ((.eql (.sel .i64 (.row 0) (.lit 5)) (.var 0)), false)
def h124 : SB × Bool := ((.eql (.sel .i64 (.row 0) (.lit 5)) (.var 0)), true)
def h125 : SB × Bool := ((.eql (.sel .i64 (.row 0) (.rem (.sel .u8 (.row 1) (.var 1)) (.lit 3))) (.var 0)), true)
def h126 : SB × Bool := ((.eql (.rem (.sel .u8 (.row 0) (.lit 0)) (.lit 6)) (.lit 0)), false)
def h127 : SB × Bool := ((.eql (.rem (.sel .u8 (.row 1) (.var 1)) (.lit 2)) (.lit 0)), false)
def h128 : SB × Bool := ((.eql (.rem (.sel .u8 (.row 1) (.var 1)) (.lit 2)) (.lit 0)), true)
def h129 : SB × Bool := ((.eql (.sel .i64 (.row 0) (.rem (.add (.var 1) (.lit 1)) (.lit 3))) (.var 0)), true)
def h130 : SB × Bool := ((.eql (.rem (.add (.var 1) (.lit 1)) (.lit 2)) (.lit 0)), false)
def h131 : SB × Bool := ((.eql (.rem (.add (.var 1) (.lit 1)) (.lit 2)) (.lit 0)), true)
def h132 : SB × Bool := ((.eql (.rem (.sel .u8 (.row 0) (.lit 0)) (.lit 5)) (.lit 0)), false)
def h133 : SB × Bool := ((.eql (.rem (.sel .u8 (.row 0) (.lit 0)) (.lit 6)) (.lit 1)), false)
def h134 : SB × Bool := ((.eql (.sel .i64 (.row 0) (.rem (.sel .u8 (.row 1) (.var 1)) (.lit 2))) (.var 0)), true)
def h135 : SB × Bool := ((.eql (.sel .i64 (.row 0) (.rem (.add (.var 1) (.lit 1)) (.lit 2))) (.var 0)), true)
def h136 : SB × Bool := ((.eql (.rem (.sel .u8 (.row 0) (.lit 0)) (.lit 4)) (.lit 0)), false)
def h137 : SB × Bool := ((.eql (.rem (.sel .u8 (.row 0) (.lit 0)) (.lit 5)) (.lit 1)), false)
def h138 : SB × Bool := ((.eql (.rem (.sel .u8 (.row 0) (.lit 0)) (.lit 6)) (.lit 2)), false)
def h139 : SB × Bool := ((.var 1), false)
def h140 : SB × Bool := ((.var 1), true)
def h141 : SB × Bool := ((.lss (.var 2) (.lit 1)), true)

def cuts : List ACut := [⟨u0, g0, ⟨3, none, 0, none, 0, none⟩⟩, ⟨u1, g1, ⟨2, none, 0, none, 0, none⟩⟩, ⟨u2, g1, ⟨2, none, 0, none, 0, none⟩⟩, ⟨u3, g1, ⟨2, none, 0, none, 0, none⟩⟩, ⟨u4, g1, ⟨2, none, 0, none, 0, none⟩⟩, ⟨u5, g1, ⟨2, none, 0, none, 0, none⟩⟩, ⟨u6, g1, ⟨2, none, 0, none, 0, none⟩⟩, ⟨u7, g7, m7⟩, ⟨u8, g8, m8⟩, ⟨u9, g8, m9⟩, ⟨u10, g10, m10⟩, ⟨u11, g10, m11⟩, ⟨u12, g10, m12⟩, ⟨u13, g13, m13⟩, ⟨u14, g13, m14⟩, ⟨u15, g13, m15⟩, ⟨u16, g13, m16⟩, ⟨u17, g17, m17⟩, ⟨u18, g17, m18⟩, ⟨u19, g17, m19⟩, ⟨u20, g17, m20⟩, ⟨u21, g17, m21⟩, ⟨u22, g22, m22⟩, ⟨u23, g22, m23⟩, ⟨u24, g22, m24⟩, ⟨u25, g22, m25⟩, ⟨u26, g22, m26⟩, ⟨u27, g22, m27⟩, ⟨u28, g7, m28⟩, ⟨u29, g10, m29⟩, ⟨u30, g13, m30⟩, ⟨u31, g17, m31⟩, ⟨u32, g22, m32⟩, ⟨u33, g33, m33⟩]
def top : Nat := 4

def sumTo (d : Int → Int) : Nat → Int
  | 0 => 0
  | n + 1 => sumTo d n + d n
theorem sumTo_bnd {d : Int → Int} {T : Int} : ∀ {n : Nat}, (∀ u : Int, 0 ≤ u → u < n → 0 ≤ d u ∧ d u ≤ T) → 0 ≤ sumTo d n ∧ sumTo d n ≤ n * T
  | 0, _ => by simp [sumTo]
  | n + 1, h => by
    have h1 := sumTo_bnd (n := n) (fun u a b => h u a (by omega))
    have h2 := h n (by omega) (by omega)
    have e : ((n + 1 : Nat) : Int) * T = n * T + T := by rw [Int.natCast_add, Int.add_mul]; simp
    rw [e]
    simp only [sumTo]
    omega
theorem sumTo_congr {d d' : Int → Int} : ∀ {n : Nat}, (∀ u : Int, 0 ≤ u → u < n → d' u = d u) → sumTo d' n = sumTo d n
  | 0, _ => rfl
  | n + 1, h => by
    simp only [sumTo]
    rw [sumTo_congr (n := n) fun u a b => h u a (by omega), h n (by omega) (by omega)]
theorem sumTo_upd {d d' : Int → Int} {o : Int} : ∀ {n : Nat}, 0 ≤ o → o < n → (∀ u : Int, 0 ≤ u → u < n → d' u = if u = o then d o + 1 else d u) → sumTo d' n = sumTo d n + 1
  | 0, h0, h1, _ => by omega
  | n + 1, h0, h1, h => by
    simp only [sumTo]
    have hn := h n (by omega) (by omega)
    by_cases e : (n : Int) = o
    · rw [if_pos e] at hn
      rw [hn, sumTo_congr (n := n) (d := d) (fun u a b => by rw [h u a (by omega), if_neg (by omega)]), ← e]; omega
    · rw [if_neg e] at hn
      rw [hn, sumTo_upd (n := n) h0 (by omega) (fun u a b => h u a (by omega))]; omega
/-- turns of n threads; who has it (-1: nobody); how often each did it: whose turn came since the last thing was done could do nothing -/
structure Inv (n : Nat) (o T i : Int) (d : Int → Int) : Prop where
  bnd : ∀ u : Int, 0 ≤ u → u < n → 0 ≤ d u ∧ d u ≤ T
  own : 0 ≤ o → d o < T
  win : ∀ u : Int, 0 ≤ u → u < n → (i - u) % n < i - 200 - n * (2 * sumTo d n + if 0 ≤ o then 1 else 0) → if 0 ≤ o then u ≠ o else d u = T
theorem Inv.early {n : Nat} {o T i : Int} {d : Int → Int} (hn : 0 < n) (hi : i ≤ 200) (h1 : ∀ u : Int, 0 ≤ u → u < n → 0 ≤ d u ∧ d u ≤ T) (h2 : 0 ≤ o → d o < T) : Inv n o T i d :=
  ⟨h1, h2, fun u a b c => by
    have h := (sumTo_bnd h1).1
    have h3 : 0 ≤ (n : Int) * (2 * sumTo d n + if 0 ≤ o then 1 else 0) := Int.mul_nonneg (by omega) (by split <;> omega)
    have h4 := Int.emod_nonneg (i - u) (show (n : Int) ≠ 0 by omega)
    omega⟩
theorem Inv.idle {n : Nat} {o T i : Int} {d : Int → Int} (hn : 0 < n) (h : Inv n o T i d) (hk : i + 1 ≤ 200 ∨ (0 ≤ o ∧ (i + 1) % n ≠ o) ∨ d ((i + 1) % n) = T) : Inv n o T (i + 1) d :=
  ⟨h.bnd, h.own, fun u h0 h1 hu => by
    have hs := (sumTo_bnd h.bnd).1
    have hm := Int.emod_nonneg (i + 1 - u) (show (n : Int) ≠ 0 by omega)
    have hm' := Int.emod_lt_of_pos (i + 1 - u) (show 0 < (n : Int) by omega)
    have hq : 0 ≤ (n : Int) * (2 * sumTo d n + if 0 ≤ o then 1 else 0) := Int.mul_nonneg (by omega) (by split <;> omega)
    by_cases hz : (i + 1 - u) % n = 0
    · have e : (i + 1) % n = u := by
        have h2 : (i + 1) % n = ((i + 1 - u) % n + u) % n := by rw [Int.emod_add_emod]; congr 1; omega
        rw [h2, hz, Int.zero_add, Int.emod_eq_of_lt h0 h1]
      rw [e] at hk
      rcases hk with hk | ⟨ho, hk⟩ | hk
      · omega
      · rw [if_pos ho]; exact hk
      · split
        · rename_i ho
          intro hu'
          have := h.own ho
          rw [hu'] at hk
          omega
        · exact hk
    · have e : (i - u) % n = (i + 1 - u) % n - 1 := by
        have h2 : (i - u) % n = ((i + 1 - u) % n + (-1)) % n := by rw [Int.emod_add_emod]; congr 1; omega
        rw [h2, Int.emod_eq_of_lt (by omega) (by omega)]; omega
      exact h.win u h0 h1 (by rw [e]; omega)⟩
theorem Inv.take {n : Nat} {T i : Int} {d : Int → Int} (hn : 0 < n) (h : Inv n (-1) T i d) (t : Int) (h0 : 0 ≤ t) (h1 : t < n) (hd : d t ≠ T) : Inv n t T (i + 1) d := by
  have hb := h.bnd t h0 h1
  refine ⟨h.bnd, fun _ => by omega, fun u a b hu => ?_⟩
  exfalso
  have hm := Int.emod_nonneg (i + 1 - u) (show (n : Int) ≠ 0 by omega)
  have hm' := Int.emod_lt_of_pos (i - t) (show 0 < (n : Int) by omega)
  rw [if_pos h0] at hu
  have e : (n : Int) * (2 * sumTo d n + 1) = n * (2 * sumTo d n) + n := by rw [Int.mul_add, Int.mul_one]
  rw [e] at hu
  have hw := h.win t h0 h1 (by rw [if_neg (by decide), Int.add_zero]; omega)
  rw [if_neg (by decide)] at hw
  exact hd hw
theorem Inv.drop {n : Nat} {o T i : Int} {d d' : Int → Int} (hn : 0 < n) (h : Inv n o T i d) (h0 : 0 ≤ o) (h1 : o < n) (hd : ∀ u : Int, 0 ≤ u → u < n → d' u = if u = o then d o + 1 else d u) : Inv n (-1) T (i + 1) d' := by
  have ho := h.own h0
  have hb := h.bnd o h0 h1
  refine ⟨fun u a b => ?_, fun k => absurd k (by decide), fun u a b hu => ?_⟩
  · rw [hd u a b]
    split
    · omega
    · exact h.bnd u a b
  · exfalso
    have hm := Int.emod_nonneg (i + 1 - u) (show (n : Int) ≠ 0 by omega)
    have hm' := Int.emod_lt_of_pos (i - o) (show 0 < (n : Int) by omega)
    rw [if_neg (by decide), sumTo_upd h0 h1 hd] at hu
    have e : (n : Int) * (2 * (sumTo d n + 1) + 0) = n * (2 * sumTo d n + 1) + n := by
      rw [show 2 * (sumTo d n + 1) + 0 = 2 * sumTo d n + 1 + 1 by omega, Int.mul_add, Int.mul_one]
    rw [e] at hu
    have hw := h.win o h0 h1 (by rw [if_pos h0]; omega)
    rw [if_pos h0] at hw
    exact hw rfl
theorem Inv.last {n : Nat} {o T i : Int} {d : Int → Int} (hn : 0 < n) (h6 : n ≤ 6) (h : Inv n o T i d) (hT : T ≤ 4) (hi : 4000 ≤ i) (h1 : o < n) : ¬ 0 ≤ o ∧ ∀ u : Int, 0 ≤ u → u < n → d u = T := by
  have hs := sumTo_bnd h.bnd
  have hT0 : 0 ≤ T := by have := h.bnd 0 (by omega) (by omega); omega
  have k1 : (n : Int) * T ≤ 6 * 4 := Int.mul_le_mul (by omega) hT hT0 (by omega)
  have k2 : (n : Int) * (2 * sumTo d n + if 0 ≤ o then 1 else 0) ≤ 6 * 49 := Int.mul_le_mul (by omega) (by split <;> omega) (by split <;> omega) (by omega)
  have w : ∀ u : Int, 0 ≤ u → u < n → if 0 ≤ o then u ≠ o else d u = T := fun u a b => h.win u a b (by
    have := Int.emod_lt_of_pos (i - u) (show 0 < (n : Int) by omega)
    omega)
  have ho : ¬ 0 ≤ o := fun ho => by
    have := w o ho h1
    rw [if_pos ho] at this
    exact this rfl
  exact ⟨ho, fun u a b => by have := w u a b; rwa [if_neg ho] at this⟩
theorem wrap_few (x : Int) (h : 0 ≤ x ∧ x ≤ 100) : IntKind.i64.wrap x = x := wrap_self _ _ (by simp [IntKind.min, IntKind.signed, IntKind.bits]; omega) (by simp [IntKind.max, IntKind.signed, IntKind.bits]; omega)
theorem wrap_u8 (x : Int) : 0 ≤ IntKind.u8.wrap x := by
  have h := wrap_bounds .u8 x
  simpa [IntKind.min, IntKind.signed] using h.1
/-- at a cut: how many threads, who has it, and where numbers, and the row, stand -/
structure CI where
  n : Nat
  o : Int
  T : Nat
  i : Nat
  L : Nat
  rho : Nat
def has (G : Ctx) (b : SB) (t : Bool) : Bool := match findAsm b G.asm with
  | some u => u == t
  | none => false
theorem has_ok {G : Ctx} {E : Env} (hG : G.Ok E) {b : SB} {t : Bool} (h : has G b t = true) : b.den E = t := by
  unfold has at h
  split at h
  · rename_i u hu
    have := findAsm_ok hG.2 hu
    rw [this]; simpa using h
  · simp at h
def within (G : Ctx) (v : Nat) (lo hi : Int) : Bool := match G.rng[v]? with
  | some (some q) => decide (lo ≤ q.1) && decide (q.2 ≤ hi)
  | _ => false
theorem within_ok {G : Ctx} {E : Env} (hG : G.Ok E) {v : Nat} {lo hi : Int} (h : within G v lo hi = true) : lo ≤ E.int v ∧ E.int v ≤ hi := by
  unfold within at h
  split at h
  · rename_i q hq
    simp only [Bool.and_eq_true, decide_eq_true_eq] at h
    have := hG.1 v q hq
    omega
  · simp at h
def nonneg (G : Ctx) : SI → Bool
  | .add (.var i) (.lit c) => decide (0 ≤ c) && within G i 0 4000
  | .sel .u8 _ _ => true
  | _ => false
theorem nonneg_ok {G : Ctx} {E : Env} (hG : G.Ok E) {X : SI} (h : nonneg G X = true) : 0 ≤ X.den E := by
  unfold nonneg at h
  split at h
  · rename_i i c
    simp only [Bool.and_eq_true, decide_eq_true_eq] at h
    have := within_ok hG h.2
    simp only [SI.den]; omega
  · exact wrap_u8 _
  · simp at h
def exclF (X : SI) (c : Int) : SB × Bool → Bool
  | (.eql x (.lit a), true) => decide (x = X) && decide (a ≠ c)
  | (.eql x (.lit a), false) => decide (x = X) && decide (a = c)
  | (.lss x (.lit a), true) => decide (x = X) && decide (a ≤ c)
  | (.lss x (.lit a), false) => decide (x = X) && decide (c < a)
  | _ => false
def excl (G : Ctx) (X : SI) (c : Int) : Bool := G.asm.any (exclF X c)
theorem excl_ok {G : Ctx} {E : Env} (hG : G.Ok E) {X : SI} {c : Int} (h : excl G X c = true) : X.den E ≠ c := by
  obtain ⟨f, hf, h⟩ := List.any_eq_true.1 h
  have hd := hG.2 f hf
  unfold exclF at h
  split at h <;> simp only [Bool.and_eq_true, decide_eq_true_eq, Bool.false_eq_true] at h
  · obtain ⟨rfl, h⟩ := h
    have := fact_et hd; simp only [SI.den] at this; omega
  · obtain ⟨rfl, h⟩ := h
    have := fact_ef hd; simp only [SI.den] at this; omega
  · obtain ⟨rfl, h⟩ := h
    have := fact_lt hd; simp only [SI.den] at this; omega
  · obtain ⟨rfl, h⟩ := h
    have := fact_lf hd; simp only [SI.den] at this; omega
def only (G : Ctx) (X : SI) (c : Int) : Nat → Bool
  | 0 => true
  | n + 1 => (decide ((n : Int) = c) || excl G X n) && only G X c n
theorem only_ok {G : Ctx} {E : Env} (hG : G.Ok E) {X : SI} {c : Int} : ∀ {n : Nat}, only G X c n = true → 0 ≤ X.den E → X.den E < n → X.den E = c
  | 0, _, h0, h1 => by omega
  | n + 1, h, h0, h1 => by
    simp only [only, Bool.and_eq_true, Bool.or_eq_true, decide_eq_true_eq] at h
    by_cases e : X.den E = n
    · rcases h.1 with h2 | h2
      · omega
      · exact absurd e (excl_ok hG h2)
    · exact only_ok hG h.2 h0 (by omega)
theorem rem_bnd {E : Env} {Y : SI} {n : Nat} (hn : 0 < n) (h : 0 ≤ Y.den E) : (SI.den E (.rem Y (.lit n)) = Y.den E % n) ∧ 0 ≤ SI.den E (.rem Y (.lit n)) ∧ SI.den E (.rem Y (.lit n)) < n := by
  have e : SI.den E (.rem Y (.lit n)) = Y.den E % n := den_tmod h
  rw [e]
  exact ⟨rfl, Int.emod_nonneg _ (by omega), Int.emod_lt_of_pos _ (by omega)⟩
def idleT (G : Ctx) (a : CI) : Bool :=
  (has G (.lss (.var a.L) (.add (.var a.i) (.lit 1))) false && within G a.L 0 200) ||
  (decide (0 ≤ a.o) && excl G (.rem (.add (.var a.i) (.lit 1)) (.lit a.n)) a.o) ||
  has G (.eql (.sel .i64 (.row a.rho) (.rem (.add (.var a.i) (.lit 1)) (.lit a.n))) (.var a.T)) true
def takeF (G : Ctx) (a : CI) (t : Int) : SB × Bool → Bool
  | (.eql (.sel .i64 (.row r) (.rem Y (.lit m))) (.var v), false) => decide (r = a.rho) && decide (v = a.T) && decide (m = a.n) && nonneg G Y && only G (.rem Y (.lit a.n)) t a.n
  | _ => false
def dropT (G : Ctx) (a : CI) : SI → Bool
  | .upd (.row r) (.rem Y (.lit m)) (.wrap .i64 (.add (.sel .i64 (.row r') (.rem Y' (.lit m'))) (.lit c))) =>
    decide (r = a.rho) && decide (r' = a.rho) && decide (Y' = Y) && decide (m = a.n) && decide (m' = a.n) && decide (c = 1) && nonneg G Y && only G (.rem Y (.lit a.n)) a.o a.n
  | _ => false
def tst (tab : Nat → Option CI) (k : Nat) (G : Ctx) (j : Nat) (ints : List SI) (_ : List SB) (rows : List SI) : Bool := match tab j with
  | none => true
  | some b => match tab k with
    | none => (match nthS rows (.con 0) b.rho, nthS ints (.lit 0) b.i, nthS ints (.lit 0) b.T with
      | .con z, .lit x, .var v => decide (z = 0) && decide (x ≤ 200) && decide (0 < b.n) && within G v 1 100
      | _, _, _ => false)
    | some a => decide (b.n = a.n) && decide (0 < a.n) && decide (nthS ints (.lit 0) b.T = .var a.T) && decide (nthS ints (.lit 0) b.i = .add (.var a.i) (.lit 1)) && within G a.T 0 4 && within G a.i 0 4000 &&
      ((decide (b.o = a.o) && decide (nthS rows (.con 0) b.rho = .row a.rho) && idleT G a) ||
       (decide (a.o = -1) && decide (0 ≤ b.o) && decide (b.o < a.n) && decide (nthS rows (.con 0) b.rho = .row a.rho) && G.asm.any (takeF G a b.o)) ||
       (decide (0 ≤ a.o) && decide (a.o < a.n) && decide (b.o = -1) && dropT G a (nthS rows (.con 0) b.rho)))
def lastF (G : Ctx) (a : CI) : Nat → Bool
  | 0 => false
  | u + 1 => has G (.eql (.sel .i64 (.row a.rho) (.lit u)) (.var a.T)) false || lastF G a u
def nev (tab : Nat → Option CI) (k : Nat) (G : Ctx) : Bool := match tab k with
  | none => false
  | some a => decide (0 < a.n) && decide (a.n ≤ 6) && decide (a.o < a.n) && within G a.T 0 4 && has G (.lss (.var a.i) (.lit 4000)) false && (decide (0 ≤ a.o) || lastF G a a.n)
def phi (tab : Nat → Option CI) : Phi := fun k i _ r => match tab k with
  | some c => Inv c.n c.o (i c.T) (i c.i) (r c.rho)
  | none => True
theorem tst_ok (tab : Nat → Option CI) (k : Nat) (G : Ctx) (j : Nat) (ints : List SI) (bools : List SB) (rows : List SI) (h : tst tab k G j ints bools rows = true) (E : Env) (hG : G.Ok E) (hk : phi tab k E.int E.bool E.row) :
    phi tab j (inst { ints := ints, bools := bools, rows := rows, ids := .nil, next := 0 } E).int (inst { ints := ints, bools := bools, rows := rows, ids := .nil, next := 0 } E).bool (inst { ints := ints, bools := bools, rows := rows, ids := .nil, next := 0 } E).row := by
  unfold tst at h
  unfold phi at hk ⊢
  cases hj : tab j with
  | none => trivial
  | some b =>
    rw [hj] at h
    simp only at h ⊢
    show Inv b.n b.o ((nthS ints (.lit 0) b.T).den E) ((nthS ints (.lit 0) b.i).den E) (SI.cells E (nthS rows (.con 0) b.rho))
    cases hk' : tab k with
    | none =>
      rw [hk'] at h
      simp only at h
      split at h
      · rename_i z x v e1 e2 e3
        simp only [Bool.and_eq_true, decide_eq_true_eq] at h
        obtain ⟨⟨⟨rfl, h2⟩, h3⟩, h4⟩ := h
        have := within_ok hG h4
        rw [e1, e2, e3]
        exact .early h3 h2 (fun u _ _ => by simp only [SI.cells, SI.den]; omega) (fun _ => by simp only [SI.cells, SI.den]; omega)
      · simp at h
    | some a =>
      rw [hk'] at h hk
      simp only [Bool.and_eq_true, Bool.or_eq_true, decide_eq_true_eq] at h hk
      obtain ⟨⟨⟨⟨⟨⟨h1, h2⟩, h3⟩, h4⟩, h5⟩, h6⟩, h7⟩ := h
      have hT := within_ok hG h5
      have hi := within_ok hG h6
      rw [h1, h3, h4]
      simp only [SI.den]
      have few : ∀ u : Int, 0 ≤ u → u < a.n → IntKind.i64.wrap (E.row a.rho u) = E.row a.rho u := fun u p q => by
        have := hk.bnd u p q
        exact wrap_few _ ⟨this.1, by omega⟩
      have hX : 0 ≤ SI.den E (.add (.var a.i) (.lit 1)) := by simp only [SI.den]; omega
      have hR := rem_bnd h2 hX
      have hX' : SI.den E (.add (.var a.i) (.lit 1)) = E.int a.i + 1 := rfl
      rcases h7 with (⟨⟨ho, hr⟩, ht⟩ | ⟨⟨⟨⟨ho, ho0⟩, ho1⟩, hr⟩, ht⟩) | ⟨⟨⟨ho, ho'⟩, hb⟩, ht⟩
      · rw [ho, hr]
        refine Inv.idle h2 hk ?_
        simp only [idleT, Bool.or_eq_true, Bool.and_eq_true, decide_eq_true_eq] at ht
        rcases ht with (⟨t1, t2⟩ | ⟨t1, t2⟩) | t1
        · have := fact_lf (has_ok hG t1)
          have := within_ok hG t2
          simp only [SI.den] at *
          exact .inl (by omega)
        · have := excl_ok hG t2
          rw [hR.1, hX'] at this
          exact .inr (.inl ⟨t1, this⟩)
        · have := fact_et (has_ok hG t1)
          have e : SI.den E (.sel .i64 (.row a.rho) (.rem (.add (.var a.i) (.lit 1)) (.lit a.n))) = IntKind.i64.wrap (E.row a.rho (SI.den E (.rem (.add (.var a.i) (.lit 1)) (.lit a.n)))) := rfl
          rw [e, few _ hR.2.1 hR.2.2, hR.1, hX'] at this
          exact .inr (.inr this)
      · rw [hr]
        rw [ho] at hk
        obtain ⟨f, hf, ht⟩ := List.any_eq_true.1 ht
        have hd := hG.2 f hf
        unfold takeF at ht
        split at ht
        · rename_i r Y m v
          simp only [Bool.and_eq_true, decide_eq_true_eq] at ht
          obtain ⟨⟨⟨⟨rfl, rfl⟩, rfl⟩, t4⟩, t5⟩ := ht
          have q := rem_bnd h2 (nonneg_ok hG t4)
          have e := only_ok hG t5 q.2.1 q.2.2
          have hd := fact_ef hd
          have e' : SI.den E (.sel .i64 (.row a.rho) (.rem Y (.lit a.n))) = IntKind.i64.wrap (E.row a.rho (SI.den E (.rem Y (.lit a.n)))) := rfl
          rw [e', few _ q.2.1 q.2.2, e] at hd
          exact Inv.take h2 hk b.o ho0 ho1 hd
        · simp at ht
      · rw [hb]
        generalize nthS rows (.con 0) b.rho = row at ht
        unfold dropT at ht
        split at ht
        · rename_i r Y m r' Y' m' c
          simp only [Bool.and_eq_true, decide_eq_true_eq] at ht
          obtain ⟨⟨⟨⟨⟨⟨⟨rfl, rfl⟩, rfl⟩, rfl⟩, rfl⟩, rfl⟩, t4⟩, t5⟩ := ht
          have q := rem_bnd h2 (nonneg_ok hG t4)
          have e := only_ok hG t5 q.2.1 q.2.2
          refine Inv.drop h2 hk ho ho' fun u p1 p2 => ?_
          have hb := hk.bnd a.o ho ho'
          show (if u = SI.den E (.rem Y' (.lit a.n)) then IntKind.i64.wrap (IntKind.i64.wrap (E.row a.rho (SI.den E (.rem Y' (.lit a.n)))) + 1) else E.row a.rho u) = _
          rw [e, few _ ho ho', wrap_few _ (by omega)]
        · simp at ht
theorem nev_ok (tab : Nat → Option CI) (k : Nat) (G : Ctx) (h : nev tab k G = true) (E : Env) (hG : G.Ok E) (hk : phi tab k E.int E.bool E.row) : False := by
  unfold nev at h
  unfold phi at hk
  cases hk' : tab k with
  | none => rw [hk'] at h; simp at h
  | some a =>
    rw [hk'] at h hk
    simp only [Bool.and_eq_true, Bool.or_eq_true, decide_eq_true_eq] at h hk
    obtain ⟨⟨⟨⟨⟨h1, h2⟩, h3⟩, h4⟩, h5⟩, h6⟩ := h
    have hT := within_ok hG h4
    have hi := fact_lf (has_ok hG h5)
    simp only [SI.den] at hi
    have hl := hk.last h1 h2 hT.2 (by omega) h3
    rcases h6 with h6 | h6
    · exact hl.1 h6
    · have : ∀ n : Nat, n ≤ a.n → lastF G a n = true → False := by
        intro n
        induction n with
        | zero => intro _ h; simp [lastF] at h
        | succ n ih =>
          intro hn h
          simp only [lastF, Bool.or_eq_true] at h
          rcases h with h | h
          · have hu := hl.2 n (by omega) (by omega)
            have hd := fact_ef (has_ok hG h)
            have e : SI.den E (.sel .i64 (.row a.rho) (.lit n)) = IntKind.i64.wrap (E.row a.rho n) := rfl
            rw [e, wrap_few _ (by rw [hu]; omega)] at hd
            exact hd hu
          · exact ih (by omega) h
      exact this a.n (Nat.le_refl _) h6
def tab : Nat → Option CI := fun k => match k with
  | 7 => some ⟨1, 0, 0, 1, 3, 0⟩
  | 8 => some ⟨2, 1, 0, 1, 3, 0⟩
  | 9 => some ⟨2, 0, 0, 1, 3, 0⟩
  | 10 => some ⟨3, 1, 0, 1, 3, 0⟩
  | 11 => some ⟨3, 0, 0, 1, 3, 0⟩
  | 12 => some ⟨3, 2, 0, 1, 3, 0⟩
  | 13 => some ⟨4, 1, 0, 1, 3, 0⟩
  | 14 => some ⟨4, 0, 0, 1, 3, 0⟩
  | 15 => some ⟨4, 2, 0, 1, 3, 0⟩
  | 16 => some ⟨4, 3, 0, 1, 3, 0⟩
  | 17 => some ⟨5, 1, 0, 1, 3, 0⟩
  | 18 => some ⟨5, 0, 0, 1, 3, 0⟩
  | 19 => some ⟨5, 2, 0, 1, 3, 0⟩
  | 20 => some ⟨5, 3, 0, 1, 3, 0⟩
  | 21 => some ⟨5, 4, 0, 1, 3, 0⟩
  | 22 => some ⟨6, 1, 0, 1, 3, 0⟩
  | 23 => some ⟨6, 0, 0, 1, 3, 0⟩
  | 24 => some ⟨6, 2, 0, 1, 3, 0⟩
  | 25 => some ⟨6, 3, 0, 1, 3, 0⟩
  | 26 => some ⟨6, 4, 0, 1, 3, 0⟩
  | 27 => some ⟨6, 5, 0, 1, 3, 0⟩
  | 28 => some ⟨1, -1, 0, 1, 3, 0⟩
  | 29 => some ⟨2, -1, 0, 1, 3, 0⟩
  | 30 => some ⟨3, -1, 0, 1, 3, 0⟩
  | 31 => some ⟨4, -1, 0, 1, 3, 0⟩
  | 32 => some ⟨5, -1, 0, 1, 3, 0⟩
  | 33 => some ⟨6, -1, 0, 1, 3, 0⟩
  | _ => none
def φ : Phi := phi tab

def chk : Chk φ := ⟨tst tab, nev tab, tst_ok tab, nev_ok tab⟩

end
end Go.Proofs.Ytkiodlgicjlbaaa.latchOne
