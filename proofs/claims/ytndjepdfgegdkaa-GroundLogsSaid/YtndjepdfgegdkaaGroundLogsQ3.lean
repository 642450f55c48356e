/- Parts of the plan for the law GroundLogs: each is one kernel run. -/
import Derived.Test.YtndjepdfgegdkaaGroundLogsPlan
set_option linter.unusedVariables false
namespace Go.Proofs.Ytndjepdfgegdkaa.groundLogs
open Go Go.Ev
noncomputable section

def d2 : List (List (SB × Bool) × Leaf) := [
  ([h16, h11, h3, h4], .cut 1 [(.var 0), (.var 1), (.var 2), (.var 3), (.lit 1), (.var 4)] [] [(.row 0), (.upd (.upd (.upd (.upd (.upd (.upd (.upd (.upd (.upd (.row 1) (.mul (.var 3) (.lit 8)) (.lit 0)) (.add (.mul (.var 3) (.lit 8)) (.lit 1)) (.sel .i64 (.row 0) (.add (.mul (.var 3) (.lit 8)) (.lit 1)))) (.add (.mul (.var 3) (.lit 8)) (.lit 2)) (.sel .i64 (.row 0) (.add (.mul (.var 3) (.lit 8)) (.lit 2)))) (.add (.mul (.var 3) (.lit 8)) (.lit 3)) (.sel .i64 (.row 0) (.add (.mul (.var 3) (.lit 8)) (.lit 3)))) (.add (.mul (.var 3) (.lit 8)) (.lit 4)) (.sel .i64 (.row 0) (.add (.mul (.var 3) (.lit 8)) (.lit 4)))) (.add (.mul (.var 3) (.lit 8)) (.lit 5)) (.sel .i64 (.row 0) (.add (.mul (.var 3) (.lit 8)) (.lit 5)))) (.add (.mul (.var 3) (.lit 8)) (.lit 6)) (.lit 0)) (.add (.mul (.var 3) (.lit 8)) (.lit 7)) (.lit 0)) (.lit 1) (.lit (-7))), (.upd (.upd (.upd (.upd (.upd (.upd (.upd (.upd (.row 1) (.mul (.var 3) (.lit 8)) (.lit 0)) (.add (.mul (.var 3) (.lit 8)) (.lit 1)) (.sel .i64 (.row 0) (.add (.mul (.var 3) (.lit 8)) (.lit 1)))) (.add (.mul (.var 3) (.lit 8)) (.lit 2)) (.sel .i64 (.row 0) (.add (.mul (.var 3) (.lit 8)) (.lit 2)))) (.add (.mul (.var 3) (.lit 8)) (.lit 3)) (.sel .i64 (.row 0) (.add (.mul (.var 3) (.lit 8)) (.lit 3)))) (.add (.mul (.var 3) (.lit 8)) (.lit 4)) (.sel .i64 (.row 0) (.add (.mul (.var 3) (.lit 8)) (.lit 4)))) (.add (.mul (.var 3) (.lit 8)) (.lit 5)) (.sel .i64 (.row 0) (.add (.mul (.var 3) (.lit 8)) (.lit 5)))) (.add (.mul (.var 3) (.lit 8)) (.lit 6)) (.lit 0)) (.add (.mul (.var 3) (.lit 8)) (.lit 7)) (.lit 0))]),
  ([h17, h5, h11, h3, h4], .cut 1 [(.var 0), (.var 1), (.var 2), (.var 3), (.lit 1), (.var 4)] [] [(.row 0), (.upd (.upd (.upd (.upd (.upd (.upd (.upd (.upd (.upd (.row 1) (.mul (.var 3) (.lit 8)) (.lit 1)) (.add (.mul (.var 3) (.lit 8)) (.lit 1)) (.sel .i64 (.row 0) (.add (.mul (.var 3) (.lit 8)) (.lit 1)))) (.add (.mul (.var 3) (.lit 8)) (.lit 2)) (.lit 0)) (.add (.mul (.var 3) (.lit 8)) (.lit 3)) (.sel .i64 (.row 0) (.add (.mul (.var 3) (.lit 8)) (.lit 3)))) (.add (.mul (.var 3) (.lit 8)) (.lit 4)) (.sel .i64 (.row 0) (.add (.mul (.var 3) (.lit 8)) (.lit 4)))) (.add (.mul (.var 3) (.lit 8)) (.lit 5)) (.sel .i64 (.row 0) (.add (.mul (.var 3) (.lit 8)) (.lit 5)))) (.add (.mul (.var 3) (.lit 8)) (.lit 6)) (.lit 0)) (.add (.mul (.var 3) (.lit 8)) (.lit 7)) (.lit 0)) (.lit 1) (.lit (-7))), (.upd (.upd (.upd (.upd (.upd (.upd (.upd (.upd (.row 1) (.mul (.var 3) (.lit 8)) (.lit 1)) (.add (.mul (.var 3) (.lit 8)) (.lit 1)) (.sel .i64 (.row 0) (.add (.mul (.var 3) (.lit 8)) (.lit 1)))) (.add (.mul (.var 3) (.lit 8)) (.lit 2)) (.lit 0)) (.add (.mul (.var 3) (.lit 8)) (.lit 3)) (.sel .i64 (.row 0) (.add (.mul (.var 3) (.lit 8)) (.lit 3)))) (.add (.mul (.var 3) (.lit 8)) (.lit 4)) (.sel .i64 (.row 0) (.add (.mul (.var 3) (.lit 8)) (.lit 4)))) (.add (.mul (.var 3) (.lit 8)) (.lit 5)) (.sel .i64 (.row 0) (.add (.mul (.var 3) (.lit 8)) (.lit 5)))) (.add (.mul (.var 3) (.lit 8)) (.lit 6)) (.lit 0)) (.add (.mul (.var 3) (.lit 8)) (.lit 7)) (.lit 0))]),
  ([h15, h5, h11, h3, h4], .cut 1 [(.var 0), (.var 1), (.var 2), (.var 3), (.lit 1), (.var 4)] [] [(.row 0), (.upd (.upd (.upd (.upd (.upd (.upd (.upd (.upd (.upd (.row 1) (.mul (.var 3) (.lit 8)) (.lit 2)) (.add (.mul (.var 3) (.lit 8)) (.lit 1)) (.sel .i64 (.row 0) (.add (.mul (.var 3) (.lit 8)) (.lit 1)))) (.add (.mul (.var 3) (.lit 8)) (.lit 2)) (.sel .i64 (.row 0) (.add (.mul (.var 3) (.lit 8)) (.lit 2)))) (.add (.mul (.var 3) (.lit 8)) (.lit 3)) (.lit 0)) (.add (.mul (.var 3) (.lit 8)) (.lit 4)) (.lit 0)) (.add (.mul (.var 3) (.lit 8)) (.lit 5)) (.lit 0)) (.add (.mul (.var 3) (.lit 8)) (.lit 6)) (.sel .i64 (.row 0) (.add (.mul (.var 3) (.lit 8)) (.lit 6)))) (.add (.mul (.var 3) (.lit 8)) (.lit 7)) (.sel .i64 (.row 0) (.add (.mul (.var 3) (.lit 8)) (.lit 7)))) (.lit 1) (.lit (-7))), (.upd (.upd (.upd (.upd (.upd (.upd (.upd (.upd (.row 1) (.mul (.var 3) (.lit 8)) (.lit 2)) (.add (.mul (.var 3) (.lit 8)) (.lit 1)) (.sel .i64 (.row 0) (.add (.mul (.var 3) (.lit 8)) (.lit 1)))) (.add (.mul (.var 3) (.lit 8)) (.lit 2)) (.sel .i64 (.row 0) (.add (.mul (.var 3) (.lit 8)) (.lit 2)))) (.add (.mul (.var 3) (.lit 8)) (.lit 3)) (.lit 0)) (.add (.mul (.var 3) (.lit 8)) (.lit 4)) (.lit 0)) (.add (.mul (.var 3) (.lit 8)) (.lit 5)) (.lit 0)) (.add (.mul (.var 3) (.lit 8)) (.lit 6)) (.sel .i64 (.row 0) (.add (.mul (.var 3) (.lit 8)) (.lit 6)))) (.add (.mul (.var 3) (.lit 8)) (.lit 7)) (.sel .i64 (.row 0) (.add (.mul (.var 3) (.lit 8)) (.lit 7))))]),
  ([((.eql (.var 3) (.lit 0)), true), h12, h3, h4], .fin (.eql (.lit 0) (.var 1))),
  ([((.eql (.sel .i64 (.row 1) (.lit 7)) (.lit 0)), true), h37, h25, h23, h22, h14, h7, h2, h20, h13, h12, h3, h4], .cut 3 [(.var 0), (.var 3), (.var 2), (.lit 1), (.var 4)] [] [(.row 0), (.row 1)]),
  ([((.eql (.sel .i64 (.row 1) (.lit 7)) (.lit 0)), false), h37, h25, h23, h22, h14, h7, h2, h20, h13, h12, h3, h4], .fin (.lit false)),
  ([((.eql (.sel .i64 (.row 1) (.lit 6)) (.lit 0)), false), h25, h23, h22, h14, h7, h2, h20, h13, h12, h3, h4], .fin (.lit false)),
  ([((.eql (.sel .i64 (.row 1) (.lit 5)) (.sel .i64 (.row 0) (.lit 5))), false), h23, h22, h14, h7, h2, h20, h13, h12, h3, h4], .fin (.lit false)),
  ([((.eql (.sel .i64 (.row 1) (.lit 4)) (.sel .i64 (.row 0) (.lit 4))), false), h22, h14, h7, h2, h20, h13, h12, h3, h4], .fin (.lit false)),
  ([((.eql (.sel .i64 (.row 1) (.lit 3)) (.sel .i64 (.row 0) (.lit 3))), false), h14, h7, h2, h20, h13, h12, h3, h4], .fin (.lit false)),
  ([((.eql (.sel .i64 (.row 1) (.lit 2)) (.sel .i64 (.row 0) (.lit 2))), false), h7, h2, h20, h13, h12, h3, h4], .fin (.lit false)),
  ([h36, h2, h20, h13, h12, h3, h4], .fin (.lit false)),
  ([h33, h20, h13, h12, h3, h4], .fin (.lit false)),
  ([((.eql (.sel .i64 (.row 1) (.lit 7)) (.lit 0)), true), h37, h25, h23, h22, h32, h7, h2, h21, h8, h13, h12, h3, h4], .cut 3 [(.var 0), (.var 3), (.var 2), (.lit 1), (.var 4)] [] [(.row 0), (.row 1)]),
  ([((.eql (.sel .i64 (.row 1) (.lit 7)) (.lit 0)), false), h37, h25, h23, h22, h32, h7, h2, h21, h8, h13, h12, h3, h4], .fin (.lit false)),
  ([((.eql (.sel .i64 (.row 1) (.lit 6)) (.lit 0)), false), h25, h23, h22, h32, h7, h2, h21, h8, h13, h12, h3, h4], .fin (.lit false)),
  ([((.eql (.sel .i64 (.row 1) (.lit 5)) (.sel .i64 (.row 0) (.lit 5))), false), h23, h22, h32, h7, h2, h21, h8, h13, h12, h3, h4], .fin (.lit false)),
  ([((.eql (.sel .i64 (.row 1) (.lit 4)) (.sel .i64 (.row 0) (.lit 4))), false), h22, h32, h7, h2, h21, h8, h13, h12, h3, h4], .fin (.lit false)),
  ([((.eql (.sel .i64 (.row 1) (.lit 3)) (.sel .i64 (.row 0) (.lit 3))), false), h32, h7, h2, h21, h8, h13, h12, h3, h4], .fin (.lit false)),
  ([((.eql (.sel .i64 (.row 1) (.lit 2)) (.lit 0)), false), h7, h2, h21, h8, h13, h12, h3, h4], .fin (.lit false)),
  ([h36, h2, h21, h8, h13, h12, h3, h4], .fin (.lit false)),
  ([h33, h21, h8, h13, h12, h3, h4], .fin (.lit false)),
  ([((.eql (.sel .i64 (.row 1) (.lit 7)) (.sel .i64 (.row 0) (.lit 7))), true), ((.eql (.sel .i64 (.row 1) (.lit 6)) (.sel .i64 (.row 0) (.lit 6))), true), h40, h38, h34, h14, h7, h2, h19, h8, h13, h12, h3, h4], .cut 3 [(.var 0), (.var 3), (.var 2), (.lit 1), (.var 4)] [] [(.row 0), (.row 1)]),
  ([((.eql (.sel .i64 (.row 1) (.lit 7)) (.sel .i64 (.row 0) (.lit 7))), false), ((.eql (.sel .i64 (.row 1) (.lit 6)) (.sel .i64 (.row 0) (.lit 6))), true), h40, h38, h34, h14, h7, h2, h19, h8, h13, h12, h3, h4], .fin (.lit false)),
  ([((.eql (.sel .i64 (.row 1) (.lit 6)) (.sel .i64 (.row 0) (.lit 6))), false), h40, h38, h34, h14, h7, h2, h19, h8, h13, h12, h3, h4], .fin (.lit false)),
  ([((.eql (.sel .i64 (.row 1) (.lit 5)) (.lit 0)), false), h38, h34, h14, h7, h2, h19, h8, h13, h12, h3, h4], .fin (.lit false)),
  ([((.eql (.sel .i64 (.row 1) (.lit 4)) (.lit 0)), false), h34, h14, h7, h2, h19, h8, h13, h12, h3, h4], .fin (.lit false)),
  ([((.eql (.sel .i64 (.row 1) (.lit 3)) (.lit 0)), false), h14, h7, h2, h19, h8, h13, h12, h3, h4], .fin (.lit false)),
  ([((.eql (.sel .i64 (.row 1) (.lit 2)) (.sel .i64 (.row 0) (.lit 2))), false), h7, h2, h19, h8, h13, h12, h3, h4], .fin (.lit false)),
  ([h36, h2, h19, h8, h13, h12, h3, h4], .fin (.lit false)),
  ([h33, h19, h8, h13, h12, h3, h4], .fin (.lit false))]
theorem q2 : PartΦ Try.prog cuts φ 2 m2 true g2 t2.cfg := .of 1000000 d2 (by kernel_rfl) (by kernel_rfl)
  (leavesCons (.cut (by kernel_rfl) (fun E hG hk => by
      have r1 := hG.1 1 (0, 60) rfl
      have r2 := hG.1 2 (0, 9223372036854775807) rfl
      have r3 := hG.1 3 (0, 60) rfl
      have r4 := hG.1 4 (0, 9223372036854775807) rfl
      have f0 : ((IntKind.u64.wrap (E.row 0 ((E.int 3) * (8 : Int)))).tmod (3 : Int)) = (0 : Int) := fact_et (hG.2 _ (.head _))
      have f1 : (E.int 3) < (E.int 1) := fact_lt (hG.2 _ (.tail _ (.head _)))
      have f2 : ¬ (E.int 1) < (E.int 3) := fact_lf (hG.2 _ (.tail _ (.tail _ (.head _))))
      have f3 : ¬ (E.int 4) < (E.int 1) := fact_lf (hG.2 _ (.tail _ (.tail _ (.tail _ (.head _)))))
      have fK : kd (E.row 0) (E.int 3) = 0 := f0
      have key : ∀ j c, 0 ≤ j → j < (E.int 3) + 1 → 0 ≤ c → c < 8 → SI.cells E (.upd (.upd (.upd (.upd (.upd (.upd (.upd (.upd (.row 1) (.mul (.var 3) (.lit 8)) (.lit 0)) (.add (.mul (.var 3) (.lit 8)) (.lit 1)) (.sel .i64 (.row 0) (.add (.mul (.var 3) (.lit 8)) (.lit 1)))) (.add (.mul (.var 3) (.lit 8)) (.lit 2)) (.sel .i64 (.row 0) (.add (.mul (.var 3) (.lit 8)) (.lit 2)))) (.add (.mul (.var 3) (.lit 8)) (.lit 3)) (.sel .i64 (.row 0) (.add (.mul (.var 3) (.lit 8)) (.lit 3)))) (.add (.mul (.var 3) (.lit 8)) (.lit 4)) (.sel .i64 (.row 0) (.add (.mul (.var 3) (.lit 8)) (.lit 4)))) (.add (.mul (.var 3) (.lit 8)) (.lit 5)) (.sel .i64 (.row 0) (.add (.mul (.var 3) (.lit 8)) (.lit 5)))) (.add (.mul (.var 3) (.lit 8)) (.lit 6)) (.lit 0)) (.add (.mul (.var 3) (.lit 8)) (.lit 7)) (.lit 0)) (j * 8 + c) = evc (E.row 0) j c := by
        intro j c h1 h2 h3 h4
        by_cases hj : j < E.int 3
        · refine (cells_ne (by simp only [SI.den]; omega)).trans ?_
          refine (cells_ne (by simp only [SI.den]; omega)).trans ?_
          refine (cells_ne (by simp only [SI.den]; omega)).trans ?_
          refine (cells_ne (by simp only [SI.den]; omega)).trans ?_
          refine (cells_ne (by simp only [SI.den]; omega)).trans ?_
          refine (cells_ne (by simp only [SI.den]; omega)).trans ?_
          refine (cells_ne (by simp only [SI.den]; omega)).trans ?_
          refine (cells_ne (by simp only [SI.den]; omega)).trans ?_
          exact hk j c h1 hj h3 h4
        · have hj : j = E.int 3 := by omega
          subst hj
          have hc : c = 0 ∨ c = 1 ∨ c = 2 ∨ c = 3 ∨ c = 4 ∨ c = 5 ∨ c = 6 ∨ c = 7 := by omega
          rcases hc with rfl | rfl | rfl | rfl | rfl | rfl | rfl | rfl
          · refine (cells_ne (by simp only [SI.den]; omega)).trans ?_; refine (cells_ne (by simp only [SI.den]; omega)).trans ?_; refine (cells_ne (by simp only [SI.den]; omega)).trans ?_; refine (cells_ne (by simp only [SI.den]; omega)).trans ?_; refine (cells_ne (by simp only [SI.den]; omega)).trans ?_; refine (cells_ne (by simp only [SI.den]; omega)).trans ?_; refine (cells_ne (by simp only [SI.den]; omega)).trans ?_; refine (cells_eq (by first | (simp only [SI.den]; done) | (simp only [SI.den]; omega))).trans ?_; simp [SI.den, evc, fK]
          · refine (cells_ne (by simp only [SI.den]; omega)).trans ?_; refine (cells_ne (by simp only [SI.den]; omega)).trans ?_; refine (cells_ne (by simp only [SI.den]; omega)).trans ?_; refine (cells_ne (by simp only [SI.den]; omega)).trans ?_; refine (cells_ne (by simp only [SI.den]; omega)).trans ?_; refine (cells_ne (by simp only [SI.den]; omega)).trans ?_; refine (cells_eq (by first | (simp only [SI.den]; done) | (simp only [SI.den]; omega))).trans ?_; simp [SI.den, SI.cells, evc]
          · refine (cells_ne (by simp only [SI.den]; omega)).trans ?_; refine (cells_ne (by simp only [SI.den]; omega)).trans ?_; refine (cells_ne (by simp only [SI.den]; omega)).trans ?_; refine (cells_ne (by simp only [SI.den]; omega)).trans ?_; refine (cells_ne (by simp only [SI.den]; omega)).trans ?_; refine (cells_eq (by first | (simp only [SI.den]; done) | (simp only [SI.den]; omega))).trans ?_; simp [SI.den, SI.cells, evc, fK]
          · refine (cells_ne (by simp only [SI.den]; omega)).trans ?_; refine (cells_ne (by simp only [SI.den]; omega)).trans ?_; refine (cells_ne (by simp only [SI.den]; omega)).trans ?_; refine (cells_ne (by simp only [SI.den]; omega)).trans ?_; refine (cells_eq (by first | (simp only [SI.den]; done) | (simp only [SI.den]; omega))).trans ?_; simp [SI.den, SI.cells, evc, fK]
          · refine (cells_ne (by simp only [SI.den]; omega)).trans ?_; refine (cells_ne (by simp only [SI.den]; omega)).trans ?_; refine (cells_ne (by simp only [SI.den]; omega)).trans ?_; refine (cells_eq (by first | (simp only [SI.den]; done) | (simp only [SI.den]; omega))).trans ?_; simp [SI.den, SI.cells, evc, fK]
          · refine (cells_ne (by simp only [SI.den]; omega)).trans ?_; refine (cells_ne (by simp only [SI.den]; omega)).trans ?_; refine (cells_eq (by first | (simp only [SI.den]; done) | (simp only [SI.den]; omega))).trans ?_; simp [SI.den, SI.cells, evc, fK]
          · refine (cells_ne (by simp only [SI.den]; omega)).trans ?_; refine (cells_eq (by first | (simp only [SI.den]; done) | (simp only [SI.den]; omega))).trans ?_; simp [SI.den, evc, fK]
          · refine (cells_eq (by first | (simp only [SI.den]; done) | (simp only [SI.den]; omega))).trans ?_; simp [SI.den, evc, fK]
      exact key))
  (leavesCons (.cut (by kernel_rfl) (fun E hG hk => by
      have r1 := hG.1 1 (0, 60) rfl
      have r2 := hG.1 2 (0, 9223372036854775807) rfl
      have r3 := hG.1 3 (0, 60) rfl
      have r4 := hG.1 4 (0, 9223372036854775807) rfl
      have f0 : ((IntKind.u64.wrap (E.row 0 ((E.int 3) * (8 : Int)))).tmod (3 : Int)) = (1 : Int) := fact_et (hG.2 _ (.head _))
      have f1 : ¬ ((IntKind.u64.wrap (E.row 0 ((E.int 3) * (8 : Int)))).tmod (3 : Int)) = (0 : Int) := fact_ef (hG.2 _ (.tail _ (.head _)))
      have f2 : (E.int 3) < (E.int 1) := fact_lt (hG.2 _ (.tail _ (.tail _ (.head _))))
      have f3 : ¬ (E.int 1) < (E.int 3) := fact_lf (hG.2 _ (.tail _ (.tail _ (.tail _ (.head _)))))
      have f4 : ¬ (E.int 4) < (E.int 1) := fact_lf (hG.2 _ (.tail _ (.tail _ (.tail _ (.tail _ (.head _))))))
      have fK : kd (E.row 0) (E.int 3) = 1 := f0
      have key : ∀ j c, 0 ≤ j → j < (E.int 3) + 1 → 0 ≤ c → c < 8 → SI.cells E (.upd (.upd (.upd (.upd (.upd (.upd (.upd (.upd (.row 1) (.mul (.var 3) (.lit 8)) (.lit 1)) (.add (.mul (.var 3) (.lit 8)) (.lit 1)) (.sel .i64 (.row 0) (.add (.mul (.var 3) (.lit 8)) (.lit 1)))) (.add (.mul (.var 3) (.lit 8)) (.lit 2)) (.lit 0)) (.add (.mul (.var 3) (.lit 8)) (.lit 3)) (.sel .i64 (.row 0) (.add (.mul (.var 3) (.lit 8)) (.lit 3)))) (.add (.mul (.var 3) (.lit 8)) (.lit 4)) (.sel .i64 (.row 0) (.add (.mul (.var 3) (.lit 8)) (.lit 4)))) (.add (.mul (.var 3) (.lit 8)) (.lit 5)) (.sel .i64 (.row 0) (.add (.mul (.var 3) (.lit 8)) (.lit 5)))) (.add (.mul (.var 3) (.lit 8)) (.lit 6)) (.lit 0)) (.add (.mul (.var 3) (.lit 8)) (.lit 7)) (.lit 0)) (j * 8 + c) = evc (E.row 0) j c := by
        intro j c h1 h2 h3 h4
        by_cases hj : j < E.int 3
        · refine (cells_ne (by simp only [SI.den]; omega)).trans ?_
          refine (cells_ne (by simp only [SI.den]; omega)).trans ?_
          refine (cells_ne (by simp only [SI.den]; omega)).trans ?_
          refine (cells_ne (by simp only [SI.den]; omega)).trans ?_
          refine (cells_ne (by simp only [SI.den]; omega)).trans ?_
          refine (cells_ne (by simp only [SI.den]; omega)).trans ?_
          refine (cells_ne (by simp only [SI.den]; omega)).trans ?_
          refine (cells_ne (by simp only [SI.den]; omega)).trans ?_
          exact hk j c h1 hj h3 h4
        · have hj : j = E.int 3 := by omega
          subst hj
          have hc : c = 0 ∨ c = 1 ∨ c = 2 ∨ c = 3 ∨ c = 4 ∨ c = 5 ∨ c = 6 ∨ c = 7 := by omega
          rcases hc with rfl | rfl | rfl | rfl | rfl | rfl | rfl | rfl
          · refine (cells_ne (by simp only [SI.den]; omega)).trans ?_; refine (cells_ne (by simp only [SI.den]; omega)).trans ?_; refine (cells_ne (by simp only [SI.den]; omega)).trans ?_; refine (cells_ne (by simp only [SI.den]; omega)).trans ?_; refine (cells_ne (by simp only [SI.den]; omega)).trans ?_; refine (cells_ne (by simp only [SI.den]; omega)).trans ?_; refine (cells_ne (by simp only [SI.den]; omega)).trans ?_; refine (cells_eq (by first | (simp only [SI.den]; done) | (simp only [SI.den]; omega))).trans ?_; simp [SI.den, evc, fK]
          · refine (cells_ne (by simp only [SI.den]; omega)).trans ?_; refine (cells_ne (by simp only [SI.den]; omega)).trans ?_; refine (cells_ne (by simp only [SI.den]; omega)).trans ?_; refine (cells_ne (by simp only [SI.den]; omega)).trans ?_; refine (cells_ne (by simp only [SI.den]; omega)).trans ?_; refine (cells_ne (by simp only [SI.den]; omega)).trans ?_; refine (cells_eq (by first | (simp only [SI.den]; done) | (simp only [SI.den]; omega))).trans ?_; simp [SI.den, SI.cells, evc]
          · refine (cells_ne (by simp only [SI.den]; omega)).trans ?_; refine (cells_ne (by simp only [SI.den]; omega)).trans ?_; refine (cells_ne (by simp only [SI.den]; omega)).trans ?_; refine (cells_ne (by simp only [SI.den]; omega)).trans ?_; refine (cells_ne (by simp only [SI.den]; omega)).trans ?_; refine (cells_eq (by first | (simp only [SI.den]; done) | (simp only [SI.den]; omega))).trans ?_; simp [SI.den, evc, fK]
          · refine (cells_ne (by simp only [SI.den]; omega)).trans ?_; refine (cells_ne (by simp only [SI.den]; omega)).trans ?_; refine (cells_ne (by simp only [SI.den]; omega)).trans ?_; refine (cells_ne (by simp only [SI.den]; omega)).trans ?_; refine (cells_eq (by first | (simp only [SI.den]; done) | (simp only [SI.den]; omega))).trans ?_; simp [SI.den, SI.cells, evc, fK]
          · refine (cells_ne (by simp only [SI.den]; omega)).trans ?_; refine (cells_ne (by simp only [SI.den]; omega)).trans ?_; refine (cells_ne (by simp only [SI.den]; omega)).trans ?_; refine (cells_eq (by first | (simp only [SI.den]; done) | (simp only [SI.den]; omega))).trans ?_; simp [SI.den, SI.cells, evc, fK]
          · refine (cells_ne (by simp only [SI.den]; omega)).trans ?_; refine (cells_ne (by simp only [SI.den]; omega)).trans ?_; refine (cells_eq (by first | (simp only [SI.den]; done) | (simp only [SI.den]; omega))).trans ?_; simp [SI.den, SI.cells, evc, fK]
          · refine (cells_ne (by simp only [SI.den]; omega)).trans ?_; refine (cells_eq (by first | (simp only [SI.den]; done) | (simp only [SI.den]; omega))).trans ?_; simp [SI.den, evc, fK]
          · refine (cells_eq (by first | (simp only [SI.den]; done) | (simp only [SI.den]; omega))).trans ?_; simp [SI.den, evc, fK]
      exact key))
  (leavesCons (.cut (by kernel_rfl) (fun E hG hk => by
      have r1 := hG.1 1 (0, 60) rfl
      have r2 := hG.1 2 (0, 9223372036854775807) rfl
      have r3 := hG.1 3 (0, 60) rfl
      have r4 := hG.1 4 (0, 9223372036854775807) rfl
      have f0 : ¬ ((IntKind.u64.wrap (E.row 0 ((E.int 3) * (8 : Int)))).tmod (3 : Int)) = (1 : Int) := fact_ef (hG.2 _ (.head _))
      have f1 : ¬ ((IntKind.u64.wrap (E.row 0 ((E.int 3) * (8 : Int)))).tmod (3 : Int)) = (0 : Int) := fact_ef (hG.2 _ (.tail _ (.head _)))
      have f2 : (E.int 3) < (E.int 1) := fact_lt (hG.2 _ (.tail _ (.tail _ (.head _))))
      have f3 : ¬ (E.int 1) < (E.int 3) := fact_lf (hG.2 _ (.tail _ (.tail _ (.tail _ (.head _)))))
      have f4 : ¬ (E.int 4) < (E.int 1) := fact_lf (hG.2 _ (.tail _ (.tail _ (.tail _ (.tail _ (.head _))))))
      have fK : kd (E.row 0) (E.int 3) = 2 := kd2 f1 f0
      have key : ∀ j c, 0 ≤ j → j < (E.int 3) + 1 → 0 ≤ c → c < 8 → SI.cells E (.upd (.upd (.upd (.upd (.upd (.upd (.upd (.upd (.row 1) (.mul (.var 3) (.lit 8)) (.lit 2)) (.add (.mul (.var 3) (.lit 8)) (.lit 1)) (.sel .i64 (.row 0) (.add (.mul (.var 3) (.lit 8)) (.lit 1)))) (.add (.mul (.var 3) (.lit 8)) (.lit 2)) (.sel .i64 (.row 0) (.add (.mul (.var 3) (.lit 8)) (.lit 2)))) (.add (.mul (.var 3) (.lit 8)) (.lit 3)) (.lit 0)) (.add (.mul (.var 3) (.lit 8)) (.lit 4)) (.lit 0)) (.add (.mul (.var 3) (.lit 8)) (.lit 5)) (.lit 0)) (.add (.mul (.var 3) (.lit 8)) (.lit 6)) (.sel .i64 (.row 0) (.add (.mul (.var 3) (.lit 8)) (.lit 6)))) (.add (.mul (.var 3) (.lit 8)) (.lit 7)) (.sel .i64 (.row 0) (.add (.mul (.var 3) (.lit 8)) (.lit 7)))) (j * 8 + c) = evc (E.row 0) j c := by
        intro j c h1 h2 h3 h4
        by_cases hj : j < E.int 3
        · refine (cells_ne (by simp only [SI.den]; omega)).trans ?_
          refine (cells_ne (by simp only [SI.den]; omega)).trans ?_
          refine (cells_ne (by simp only [SI.den]; omega)).trans ?_
          refine (cells_ne (by simp only [SI.den]; omega)).trans ?_
          refine (cells_ne (by simp only [SI.den]; omega)).trans ?_
          refine (cells_ne (by simp only [SI.den]; omega)).trans ?_
          refine (cells_ne (by simp only [SI.den]; omega)).trans ?_
          refine (cells_ne (by simp only [SI.den]; omega)).trans ?_
          exact hk j c h1 hj h3 h4
        · have hj : j = E.int 3 := by omega
          subst hj
          have hc : c = 0 ∨ c = 1 ∨ c = 2 ∨ c = 3 ∨ c = 4 ∨ c = 5 ∨ c = 6 ∨ c = 7 := by omega
          rcases hc with rfl | rfl | rfl | rfl | rfl | rfl | rfl | rfl
          · refine (cells_ne (by simp only [SI.den]; omega)).trans ?_; refine (cells_ne (by simp only [SI.den]; omega)).trans ?_; refine (cells_ne (by simp only [SI.den]; omega)).trans ?_; refine (cells_ne (by simp only [SI.den]; omega)).trans ?_; refine (cells_ne (by simp only [SI.den]; omega)).trans ?_; refine (cells_ne (by simp only [SI.den]; omega)).trans ?_; refine (cells_ne (by simp only [SI.den]; omega)).trans ?_; refine (cells_eq (by first | (simp only [SI.den]; done) | (simp only [SI.den]; omega))).trans ?_; simp [SI.den, evc, fK]
          · refine (cells_ne (by simp only [SI.den]; omega)).trans ?_; refine (cells_ne (by simp only [SI.den]; omega)).trans ?_; refine (cells_ne (by simp only [SI.den]; omega)).trans ?_; refine (cells_ne (by simp only [SI.den]; omega)).trans ?_; refine (cells_ne (by simp only [SI.den]; omega)).trans ?_; refine (cells_ne (by simp only [SI.den]; omega)).trans ?_; refine (cells_eq (by first | (simp only [SI.den]; done) | (simp only [SI.den]; omega))).trans ?_; simp [SI.den, SI.cells, evc]
          · refine (cells_ne (by simp only [SI.den]; omega)).trans ?_; refine (cells_ne (by simp only [SI.den]; omega)).trans ?_; refine (cells_ne (by simp only [SI.den]; omega)).trans ?_; refine (cells_ne (by simp only [SI.den]; omega)).trans ?_; refine (cells_ne (by simp only [SI.den]; omega)).trans ?_; refine (cells_eq (by first | (simp only [SI.den]; done) | (simp only [SI.den]; omega))).trans ?_; simp [SI.den, SI.cells, evc, fK]
          · refine (cells_ne (by simp only [SI.den]; omega)).trans ?_; refine (cells_ne (by simp only [SI.den]; omega)).trans ?_; refine (cells_ne (by simp only [SI.den]; omega)).trans ?_; refine (cells_ne (by simp only [SI.den]; omega)).trans ?_; refine (cells_eq (by first | (simp only [SI.den]; done) | (simp only [SI.den]; omega))).trans ?_; simp [SI.den, evc, fK]
          · refine (cells_ne (by simp only [SI.den]; omega)).trans ?_; refine (cells_ne (by simp only [SI.den]; omega)).trans ?_; refine (cells_ne (by simp only [SI.den]; omega)).trans ?_; refine (cells_eq (by first | (simp only [SI.den]; done) | (simp only [SI.den]; omega))).trans ?_; simp [SI.den, evc, fK]
          · refine (cells_ne (by simp only [SI.den]; omega)).trans ?_; refine (cells_ne (by simp only [SI.den]; omega)).trans ?_; refine (cells_eq (by first | (simp only [SI.den]; done) | (simp only [SI.den]; omega))).trans ?_; simp [SI.den, evc, fK]
          · refine (cells_ne (by simp only [SI.den]; omega)).trans ?_; refine (cells_eq (by first | (simp only [SI.den]; done) | (simp only [SI.den]; omega))).trans ?_; simp [SI.den, SI.cells, evc, fK]
          · refine (cells_eq (by first | (simp only [SI.den]; done) | (simp only [SI.den]; omega))).trans ?_; simp [SI.den, SI.cells, evc, fK]
      exact key))
  (leavesCons (.fin (by kernel_rfl))
  (leavesCons (.cut (by kernel_rfl) (fun E hG hk => by
      have r1 := hG.1 1 (0, 60) rfl
      have r2 := hG.1 2 (0, 9223372036854775807) rfl
      have r3 := hG.1 3 (0, 60) rfl
      have r4 := hG.1 4 (0, 9223372036854775807) rfl
      have f0 : (IntKind.i64.wrap (E.row 1 (7 : Int))) = (0 : Int) := fact_et (hG.2 _ (.head _))
      have f8 : ((IntKind.u64.wrap (E.row 0 (0 : Int))).tmod (3 : Int)) = (0 : Int) := fact_et (hG.2 _ (.tail _ (.tail _ (.tail _ (.tail _ (.tail _ (.tail _ (.tail _ (.tail _ (.head _))))))))))
      have f9 : ¬ (E.int 3) = (0 : Int) := fact_ef (hG.2 _ (.tail _ (.tail _ (.tail _ (.tail _ (.tail _ (.tail _ (.tail _ (.tail _ (.tail _ (.head _)))))))))))
      have f10 : ¬ (E.int 3) < (E.int 1) := fact_lf (hG.2 _ (.tail _ (.tail _ (.tail _ (.tail _ (.tail _ (.tail _ (.tail _ (.tail _ (.tail _ (.tail _ (.head _))))))))))))
      have f11 : ¬ (E.int 1) < (E.int 3) := fact_lf (hG.2 _ (.tail _ (.tail _ (.tail _ (.tail _ (.tail _ (.tail _ (.tail _ (.tail _ (.tail _ (.tail _ (.tail _ (.head _)))))))))))))
      have f12 : ¬ (E.int 4) < (E.int 1) := fact_lf (hG.2 _ (.tail _ (.tail _ (.tail _ (.tail _ (.tail _ (.tail _ (.tail _ (.tail _ (.tail _ (.tail _ (.tail _ (.tail _ (.head _))))))))))))))
      exact fun j c a b d e => hk j c a b d e))
  (leavesCons (.never (fun E hG hk => by
      have r1 := hG.1 1 (0, 60) rfl
      have r2 := hG.1 2 (0, 9223372036854775807) rfl
      have r3 := hG.1 3 (0, 60) rfl
      have r4 := hG.1 4 (0, 9223372036854775807) rfl
      have f0 : ¬ (IntKind.i64.wrap (E.row 1 (7 : Int))) = (0 : Int) := fact_ef (hG.2 _ (.head _))
      have f8 : ((IntKind.u64.wrap (E.row 0 (0 : Int))).tmod (3 : Int)) = (0 : Int) := fact_et (hG.2 _ (.tail _ (.tail _ (.tail _ (.tail _ (.tail _ (.tail _ (.tail _ (.tail _ (.head _))))))))))
      have f9 : ¬ (E.int 3) = (0 : Int) := fact_ef (hG.2 _ (.tail _ (.tail _ (.tail _ (.tail _ (.tail _ (.tail _ (.tail _ (.tail _ (.tail _ (.head _)))))))))))
      have f10 : ¬ (E.int 3) < (E.int 1) := fact_lf (hG.2 _ (.tail _ (.tail _ (.tail _ (.tail _ (.tail _ (.tail _ (.tail _ (.tail _ (.tail _ (.tail _ (.head _))))))))))))
      have f11 : ¬ (E.int 1) < (E.int 3) := fact_lf (hG.2 _ (.tail _ (.tail _ (.tail _ (.tail _ (.tail _ (.tail _ (.tail _ (.tail _ (.tail _ (.tail _ (.tail _ (.head _)))))))))))))
      have f12 : ¬ (E.int 4) < (E.int 1) := fact_lf (hG.2 _ (.tail _ (.tail _ (.tail _ (.tail _ (.tail _ (.tail _ (.tail _ (.tail _ (.tail _ (.tail _ (.tail _ (.tail _ (.head _))))))))))))))
      have fK : kd (E.row 0) (0 : Int) = 0 := f8
      have hc : E.row 1 (7 : Int) = evc (E.row 0) (0 : Int) 7 := by
        have h := hk (0 : Int) 7 (by omega) (by omega) (by omega) (by omega)
        first | exact h | (rw [Int.add_zero] at h; exact h)
      exact f0 ((congrArg IntKind.i64.wrap hc).trans ((evc_wrap _ _ _).trans (by simp [evc, fK])))))
  (leavesCons (.never (fun E hG hk => by
      have r1 := hG.1 1 (0, 60) rfl
      have r2 := hG.1 2 (0, 9223372036854775807) rfl
      have r3 := hG.1 3 (0, 60) rfl
      have r4 := hG.1 4 (0, 9223372036854775807) rfl
      have f0 : ¬ (IntKind.i64.wrap (E.row 1 (6 : Int))) = (0 : Int) := fact_ef (hG.2 _ (.head _))
      have f7 : ((IntKind.u64.wrap (E.row 0 (0 : Int))).tmod (3 : Int)) = (0 : Int) := fact_et (hG.2 _ (.tail _ (.tail _ (.tail _ (.tail _ (.tail _ (.tail _ (.tail _ (.head _)))))))))
      have f8 : ¬ (E.int 3) = (0 : Int) := fact_ef (hG.2 _ (.tail _ (.tail _ (.tail _ (.tail _ (.tail _ (.tail _ (.tail _ (.tail _ (.head _))))))))))
      have f9 : ¬ (E.int 3) < (E.int 1) := fact_lf (hG.2 _ (.tail _ (.tail _ (.tail _ (.tail _ (.tail _ (.tail _ (.tail _ (.tail _ (.tail _ (.head _)))))))))))
      have f10 : ¬ (E.int 1) < (E.int 3) := fact_lf (hG.2 _ (.tail _ (.tail _ (.tail _ (.tail _ (.tail _ (.tail _ (.tail _ (.tail _ (.tail _ (.tail _ (.head _))))))))))))
      have f11 : ¬ (E.int 4) < (E.int 1) := fact_lf (hG.2 _ (.tail _ (.tail _ (.tail _ (.tail _ (.tail _ (.tail _ (.tail _ (.tail _ (.tail _ (.tail _ (.tail _ (.head _)))))))))))))
      have fK : kd (E.row 0) (0 : Int) = 0 := f7
      have hc : E.row 1 (6 : Int) = evc (E.row 0) (0 : Int) 6 := by
        have h := hk (0 : Int) 6 (by omega) (by omega) (by omega) (by omega)
        first | exact h | (rw [Int.add_zero] at h; exact h)
      exact f0 ((congrArg IntKind.i64.wrap hc).trans ((evc_wrap _ _ _).trans (by simp [evc, fK])))))
  (leavesCons (.never (fun E hG hk => by
      have r1 := hG.1 1 (0, 60) rfl
      have r2 := hG.1 2 (0, 9223372036854775807) rfl
      have r3 := hG.1 3 (0, 60) rfl
      have r4 := hG.1 4 (0, 9223372036854775807) rfl
      have f0 : ¬ (IntKind.i64.wrap (E.row 1 (5 : Int))) = (IntKind.i64.wrap (E.row 0 (5 : Int))) := fact_ef (hG.2 _ (.head _))
      have f6 : ((IntKind.u64.wrap (E.row 0 (0 : Int))).tmod (3 : Int)) = (0 : Int) := fact_et (hG.2 _ (.tail _ (.tail _ (.tail _ (.tail _ (.tail _ (.tail _ (.head _))))))))
      have f7 : ¬ (E.int 3) = (0 : Int) := fact_ef (hG.2 _ (.tail _ (.tail _ (.tail _ (.tail _ (.tail _ (.tail _ (.tail _ (.head _)))))))))
      have f8 : ¬ (E.int 3) < (E.int 1) := fact_lf (hG.2 _ (.tail _ (.tail _ (.tail _ (.tail _ (.tail _ (.tail _ (.tail _ (.tail _ (.head _))))))))))
      have f9 : ¬ (E.int 1) < (E.int 3) := fact_lf (hG.2 _ (.tail _ (.tail _ (.tail _ (.tail _ (.tail _ (.tail _ (.tail _ (.tail _ (.tail _ (.head _)))))))))))
      have f10 : ¬ (E.int 4) < (E.int 1) := fact_lf (hG.2 _ (.tail _ (.tail _ (.tail _ (.tail _ (.tail _ (.tail _ (.tail _ (.tail _ (.tail _ (.tail _ (.head _))))))))))))
      have fK : kd (E.row 0) (0 : Int) = 0 := f6
      have hc : E.row 1 (5 : Int) = evc (E.row 0) (0 : Int) 5 := by
        have h := hk (0 : Int) 5 (by omega) (by omega) (by omega) (by omega)
        first | exact h | (rw [Int.add_zero] at h; exact h)
      exact f0 ((congrArg IntKind.i64.wrap hc).trans ((evc_wrap _ _ _).trans (by simp [evc, fK])))))
  (leavesCons (.never (fun E hG hk => by
      have r1 := hG.1 1 (0, 60) rfl
      have r2 := hG.1 2 (0, 9223372036854775807) rfl
      have r3 := hG.1 3 (0, 60) rfl
      have r4 := hG.1 4 (0, 9223372036854775807) rfl
      have f0 : ¬ (IntKind.i64.wrap (E.row 1 (4 : Int))) = (IntKind.i64.wrap (E.row 0 (4 : Int))) := fact_ef (hG.2 _ (.head _))
      have f5 : ((IntKind.u64.wrap (E.row 0 (0 : Int))).tmod (3 : Int)) = (0 : Int) := fact_et (hG.2 _ (.tail _ (.tail _ (.tail _ (.tail _ (.tail _ (.head _)))))))
      have f6 : ¬ (E.int 3) = (0 : Int) := fact_ef (hG.2 _ (.tail _ (.tail _ (.tail _ (.tail _ (.tail _ (.tail _ (.head _))))))))
      have f7 : ¬ (E.int 3) < (E.int 1) := fact_lf (hG.2 _ (.tail _ (.tail _ (.tail _ (.tail _ (.tail _ (.tail _ (.tail _ (.head _)))))))))
      have f8 : ¬ (E.int 1) < (E.int 3) := fact_lf (hG.2 _ (.tail _ (.tail _ (.tail _ (.tail _ (.tail _ (.tail _ (.tail _ (.tail _ (.head _))))))))))
      have f9 : ¬ (E.int 4) < (E.int 1) := fact_lf (hG.2 _ (.tail _ (.tail _ (.tail _ (.tail _ (.tail _ (.tail _ (.tail _ (.tail _ (.tail _ (.head _)))))))))))
      have fK : kd (E.row 0) (0 : Int) = 0 := f5
      have hc : E.row 1 (4 : Int) = evc (E.row 0) (0 : Int) 4 := by
        have h := hk (0 : Int) 4 (by omega) (by omega) (by omega) (by omega)
        first | exact h | (rw [Int.add_zero] at h; exact h)
      exact f0 ((congrArg IntKind.i64.wrap hc).trans ((evc_wrap _ _ _).trans (by simp [evc, fK])))))
  (leavesCons (.never (fun E hG hk => by
      have r1 := hG.1 1 (0, 60) rfl
      have r2 := hG.1 2 (0, 9223372036854775807) rfl
      have r3 := hG.1 3 (0, 60) rfl
      have r4 := hG.1 4 (0, 9223372036854775807) rfl
      have f0 : ¬ (IntKind.i64.wrap (E.row 1 (3 : Int))) = (IntKind.i64.wrap (E.row 0 (3 : Int))) := fact_ef (hG.2 _ (.head _))
      have f4 : ((IntKind.u64.wrap (E.row 0 (0 : Int))).tmod (3 : Int)) = (0 : Int) := fact_et (hG.2 _ (.tail _ (.tail _ (.tail _ (.tail _ (.head _))))))
      have f5 : ¬ (E.int 3) = (0 : Int) := fact_ef (hG.2 _ (.tail _ (.tail _ (.tail _ (.tail _ (.tail _ (.head _)))))))
      have f6 : ¬ (E.int 3) < (E.int 1) := fact_lf (hG.2 _ (.tail _ (.tail _ (.tail _ (.tail _ (.tail _ (.tail _ (.head _))))))))
      have f7 : ¬ (E.int 1) < (E.int 3) := fact_lf (hG.2 _ (.tail _ (.tail _ (.tail _ (.tail _ (.tail _ (.tail _ (.tail _ (.head _)))))))))
      have f8 : ¬ (E.int 4) < (E.int 1) := fact_lf (hG.2 _ (.tail _ (.tail _ (.tail _ (.tail _ (.tail _ (.tail _ (.tail _ (.tail _ (.head _))))))))))
      have fK : kd (E.row 0) (0 : Int) = 0 := f4
      have hc : E.row 1 (3 : Int) = evc (E.row 0) (0 : Int) 3 := by
        have h := hk (0 : Int) 3 (by omega) (by omega) (by omega) (by omega)
        first | exact h | (rw [Int.add_zero] at h; exact h)
      exact f0 ((congrArg IntKind.i64.wrap hc).trans ((evc_wrap _ _ _).trans (by simp [evc, fK])))))
  (leavesCons (.never (fun E hG hk => by
      have r1 := hG.1 1 (0, 60) rfl
      have r2 := hG.1 2 (0, 9223372036854775807) rfl
      have r3 := hG.1 3 (0, 60) rfl
      have r4 := hG.1 4 (0, 9223372036854775807) rfl
      have f0 : ¬ (IntKind.i64.wrap (E.row 1 (2 : Int))) = (IntKind.i64.wrap (E.row 0 (2 : Int))) := fact_ef (hG.2 _ (.head _))
      have f3 : ((IntKind.u64.wrap (E.row 0 (0 : Int))).tmod (3 : Int)) = (0 : Int) := fact_et (hG.2 _ (.tail _ (.tail _ (.tail _ (.head _)))))
      have f4 : ¬ (E.int 3) = (0 : Int) := fact_ef (hG.2 _ (.tail _ (.tail _ (.tail _ (.tail _ (.head _))))))
      have f5 : ¬ (E.int 3) < (E.int 1) := fact_lf (hG.2 _ (.tail _ (.tail _ (.tail _ (.tail _ (.tail _ (.head _)))))))
      have f6 : ¬ (E.int 1) < (E.int 3) := fact_lf (hG.2 _ (.tail _ (.tail _ (.tail _ (.tail _ (.tail _ (.tail _ (.head _))))))))
      have f7 : ¬ (E.int 4) < (E.int 1) := fact_lf (hG.2 _ (.tail _ (.tail _ (.tail _ (.tail _ (.tail _ (.tail _ (.tail _ (.head _)))))))))
      have fK : kd (E.row 0) (0 : Int) = 0 := f3
      have hc : E.row 1 (2 : Int) = evc (E.row 0) (0 : Int) 2 := by
        have h := hk (0 : Int) 2 (by omega) (by omega) (by omega) (by omega)
        first | exact h | (rw [Int.add_zero] at h; exact h)
      exact f0 ((congrArg IntKind.i64.wrap hc).trans ((evc_wrap _ _ _).trans (by simp [evc, fK])))))
  (leavesCons (.never (fun E hG hk => by
      have r1 := hG.1 1 (0, 60) rfl
      have r2 := hG.1 2 (0, 9223372036854775807) rfl
      have r3 := hG.1 3 (0, 60) rfl
      have r4 := hG.1 4 (0, 9223372036854775807) rfl
      have f0 : ¬ (IntKind.i64.wrap (E.row 1 (1 : Int))) = (IntKind.i64.wrap (E.row 0 (1 : Int))) := fact_ef (hG.2 _ (.head _))
      have f2 : ((IntKind.u64.wrap (E.row 0 (0 : Int))).tmod (3 : Int)) = (0 : Int) := fact_et (hG.2 _ (.tail _ (.tail _ (.head _))))
      have f3 : ¬ (E.int 3) = (0 : Int) := fact_ef (hG.2 _ (.tail _ (.tail _ (.tail _ (.head _)))))
      have f4 : ¬ (E.int 3) < (E.int 1) := fact_lf (hG.2 _ (.tail _ (.tail _ (.tail _ (.tail _ (.head _))))))
      have f5 : ¬ (E.int 1) < (E.int 3) := fact_lf (hG.2 _ (.tail _ (.tail _ (.tail _ (.tail _ (.tail _ (.head _)))))))
      have f6 : ¬ (E.int 4) < (E.int 1) := fact_lf (hG.2 _ (.tail _ (.tail _ (.tail _ (.tail _ (.tail _ (.tail _ (.head _))))))))
      have fK : kd (E.row 0) (0 : Int) = 0 := f2
      have hc : E.row 1 (1 : Int) = evc (E.row 0) (0 : Int) 1 := by
        have h := hk (0 : Int) 1 (by omega) (by omega) (by omega) (by omega)
        first | exact h | (rw [Int.add_zero] at h; exact h)
      exact f0 ((congrArg IntKind.i64.wrap hc).trans ((evc_wrap _ _ _).trans (by simp [evc])))))
  (leavesCons (.never (fun E hG hk => by
      have r1 := hG.1 1 (0, 60) rfl
      have r2 := hG.1 2 (0, 9223372036854775807) rfl
      have r3 := hG.1 3 (0, 60) rfl
      have r4 := hG.1 4 (0, 9223372036854775807) rfl
      have f0 : ¬ (IntKind.i64.wrap (E.row 1 (0 : Int))) = ((IntKind.u64.wrap (E.row 0 (0 : Int))).tmod (3 : Int)) := fact_ef (hG.2 _ (.head _))
      have f1 : ((IntKind.u64.wrap (E.row 0 (0 : Int))).tmod (3 : Int)) = (0 : Int) := fact_et (hG.2 _ (.tail _ (.head _)))
      have f2 : ¬ (E.int 3) = (0 : Int) := fact_ef (hG.2 _ (.tail _ (.tail _ (.head _))))
      have f3 : ¬ (E.int 3) < (E.int 1) := fact_lf (hG.2 _ (.tail _ (.tail _ (.tail _ (.head _)))))
      have f4 : ¬ (E.int 1) < (E.int 3) := fact_lf (hG.2 _ (.tail _ (.tail _ (.tail _ (.tail _ (.head _))))))
      have f5 : ¬ (E.int 4) < (E.int 1) := fact_lf (hG.2 _ (.tail _ (.tail _ (.tail _ (.tail _ (.tail _ (.head _)))))))
      have fK : kd (E.row 0) (0 : Int) = 0 := f1
      have hc : E.row 1 (0 : Int) = evc (E.row 0) (0 : Int) 0 := by
        have h := hk (0 : Int) 0 (by omega) (by omega) (by omega) (by omega)
        first | exact h | (rw [Int.add_zero] at h; exact h)
      exact f0 ((congrArg IntKind.i64.wrap hc).trans ((evc_wrap _ _ _).trans (by simp [evc, kd])))))
  (leavesCons (.cut (by kernel_rfl) (fun E hG hk => by
      have r1 := hG.1 1 (0, 60) rfl
      have r2 := hG.1 2 (0, 9223372036854775807) rfl
      have r3 := hG.1 3 (0, 60) rfl
      have r4 := hG.1 4 (0, 9223372036854775807) rfl
      have f0 : (IntKind.i64.wrap (E.row 1 (7 : Int))) = (0 : Int) := fact_et (hG.2 _ (.head _))
      have f8 : ((IntKind.u64.wrap (E.row 0 (0 : Int))).tmod (3 : Int)) = (1 : Int) := fact_et (hG.2 _ (.tail _ (.tail _ (.tail _ (.tail _ (.tail _ (.tail _ (.tail _ (.tail _ (.head _))))))))))
      have f9 : ¬ ((IntKind.u64.wrap (E.row 0 (0 : Int))).tmod (3 : Int)) = (0 : Int) := fact_ef (hG.2 _ (.tail _ (.tail _ (.tail _ (.tail _ (.tail _ (.tail _ (.tail _ (.tail _ (.tail _ (.head _)))))))))))
      have f10 : ¬ (E.int 3) = (0 : Int) := fact_ef (hG.2 _ (.tail _ (.tail _ (.tail _ (.tail _ (.tail _ (.tail _ (.tail _ (.tail _ (.tail _ (.tail _ (.head _))))))))))))
      have f11 : ¬ (E.int 3) < (E.int 1) := fact_lf (hG.2 _ (.tail _ (.tail _ (.tail _ (.tail _ (.tail _ (.tail _ (.tail _ (.tail _ (.tail _ (.tail _ (.tail _ (.head _)))))))))))))
      have f12 : ¬ (E.int 1) < (E.int 3) := fact_lf (hG.2 _ (.tail _ (.tail _ (.tail _ (.tail _ (.tail _ (.tail _ (.tail _ (.tail _ (.tail _ (.tail _ (.tail _ (.tail _ (.head _))))))))))))))
      have f13 : ¬ (E.int 4) < (E.int 1) := fact_lf (hG.2 _ (.tail _ (.tail _ (.tail _ (.tail _ (.tail _ (.tail _ (.tail _ (.tail _ (.tail _ (.tail _ (.tail _ (.tail _ (.tail _ (.head _)))))))))))))))
      exact fun j c a b d e => hk j c a b d e))
  (leavesCons (.never (fun E hG hk => by
      have r1 := hG.1 1 (0, 60) rfl
      have r2 := hG.1 2 (0, 9223372036854775807) rfl
      have r3 := hG.1 3 (0, 60) rfl
      have r4 := hG.1 4 (0, 9223372036854775807) rfl
      have f0 : ¬ (IntKind.i64.wrap (E.row 1 (7 : Int))) = (0 : Int) := fact_ef (hG.2 _ (.head _))
      have f8 : ((IntKind.u64.wrap (E.row 0 (0 : Int))).tmod (3 : Int)) = (1 : Int) := fact_et (hG.2 _ (.tail _ (.tail _ (.tail _ (.tail _ (.tail _ (.tail _ (.tail _ (.tail _ (.head _))))))))))
      have f9 : ¬ ((IntKind.u64.wrap (E.row 0 (0 : Int))).tmod (3 : Int)) = (0 : Int) := fact_ef (hG.2 _ (.tail _ (.tail _ (.tail _ (.tail _ (.tail _ (.tail _ (.tail _ (.tail _ (.tail _ (.head _)))))))))))
      have f10 : ¬ (E.int 3) = (0 : Int) := fact_ef (hG.2 _ (.tail _ (.tail _ (.tail _ (.tail _ (.tail _ (.tail _ (.tail _ (.tail _ (.tail _ (.tail _ (.head _))))))))))))
      have f11 : ¬ (E.int 3) < (E.int 1) := fact_lf (hG.2 _ (.tail _ (.tail _ (.tail _ (.tail _ (.tail _ (.tail _ (.tail _ (.tail _ (.tail _ (.tail _ (.tail _ (.head _)))))))))))))
      have f12 : ¬ (E.int 1) < (E.int 3) := fact_lf (hG.2 _ (.tail _ (.tail _ (.tail _ (.tail _ (.tail _ (.tail _ (.tail _ (.tail _ (.tail _ (.tail _ (.tail _ (.tail _ (.head _))))))))))))))
      have f13 : ¬ (E.int 4) < (E.int 1) := fact_lf (hG.2 _ (.tail _ (.tail _ (.tail _ (.tail _ (.tail _ (.tail _ (.tail _ (.tail _ (.tail _ (.tail _ (.tail _ (.tail _ (.tail _ (.head _)))))))))))))))
      have fK : kd (E.row 0) (0 : Int) = 1 := f8
      have hc : E.row 1 (7 : Int) = evc (E.row 0) (0 : Int) 7 := by
        have h := hk (0 : Int) 7 (by omega) (by omega) (by omega) (by omega)
        first | exact h | (rw [Int.add_zero] at h; exact h)
      exact f0 ((congrArg IntKind.i64.wrap hc).trans ((evc_wrap _ _ _).trans (by simp [evc, fK])))))
  (leavesCons (.never (fun E hG hk => by
      have r1 := hG.1 1 (0, 60) rfl
      have r2 := hG.1 2 (0, 9223372036854775807) rfl
      have r3 := hG.1 3 (0, 60) rfl
      have r4 := hG.1 4 (0, 9223372036854775807) rfl
      have f0 : ¬ (IntKind.i64.wrap (E.row 1 (6 : Int))) = (0 : Int) := fact_ef (hG.2 _ (.head _))
      have f7 : ((IntKind.u64.wrap (E.row 0 (0 : Int))).tmod (3 : Int)) = (1 : Int) := fact_et (hG.2 _ (.tail _ (.tail _ (.tail _ (.tail _ (.tail _ (.tail _ (.tail _ (.head _)))))))))
      have f8 : ¬ ((IntKind.u64.wrap (E.row 0 (0 : Int))).tmod (3 : Int)) = (0 : Int) := fact_ef (hG.2 _ (.tail _ (.tail _ (.tail _ (.tail _ (.tail _ (.tail _ (.tail _ (.tail _ (.head _))))))))))
      have f9 : ¬ (E.int 3) = (0 : Int) := fact_ef (hG.2 _ (.tail _ (.tail _ (.tail _ (.tail _ (.tail _ (.tail _ (.tail _ (.tail _ (.tail _ (.head _)))))))))))
      have f10 : ¬ (E.int 3) < (E.int 1) := fact_lf (hG.2 _ (.tail _ (.tail _ (.tail _ (.tail _ (.tail _ (.tail _ (.tail _ (.tail _ (.tail _ (.tail _ (.head _))))))))))))
      have f11 : ¬ (E.int 1) < (E.int 3) := fact_lf (hG.2 _ (.tail _ (.tail _ (.tail _ (.tail _ (.tail _ (.tail _ (.tail _ (.tail _ (.tail _ (.tail _ (.tail _ (.head _)))))))))))))
      have f12 : ¬ (E.int 4) < (E.int 1) := fact_lf (hG.2 _ (.tail _ (.tail _ (.tail _ (.tail _ (.tail _ (.tail _ (.tail _ (.tail _ (.tail _ (.tail _ (.tail _ (.tail _ (.head _))))))))))))))
      have fK : kd (E.row 0) (0 : Int) = 1 := f7
      have hc : E.row 1 (6 : Int) = evc (E.row 0) (0 : Int) 6 := by
        have h := hk (0 : Int) 6 (by omega) (by omega) (by omega) (by omega)
        first | exact h | (rw [Int.add_zero] at h; exact h)
      exact f0 ((congrArg IntKind.i64.wrap hc).trans ((evc_wrap _ _ _).trans (by simp [evc, fK])))))
  (leavesCons (.never (fun E hG hk => by
      have r1 := hG.1 1 (0, 60) rfl
      have r2 := hG.1 2 (0, 9223372036854775807) rfl
      have r3 := hG.1 3 (0, 60) rfl
      have r4 := hG.1 4 (0, 9223372036854775807) rfl
      have f0 : ¬ (IntKind.i64.wrap (E.row 1 (5 : Int))) = (IntKind.i64.wrap (E.row 0 (5 : Int))) := fact_ef (hG.2 _ (.head _))
      have f6 : ((IntKind.u64.wrap (E.row 0 (0 : Int))).tmod (3 : Int)) = (1 : Int) := fact_et (hG.2 _ (.tail _ (.tail _ (.tail _ (.tail _ (.tail _ (.tail _ (.head _))))))))
      have f7 : ¬ ((IntKind.u64.wrap (E.row 0 (0 : Int))).tmod (3 : Int)) = (0 : Int) := fact_ef (hG.2 _ (.tail _ (.tail _ (.tail _ (.tail _ (.tail _ (.tail _ (.tail _ (.head _)))))))))
      have f8 : ¬ (E.int 3) = (0 : Int) := fact_ef (hG.2 _ (.tail _ (.tail _ (.tail _ (.tail _ (.tail _ (.tail _ (.tail _ (.tail _ (.head _))))))))))
      have f9 : ¬ (E.int 3) < (E.int 1) := fact_lf (hG.2 _ (.tail _ (.tail _ (.tail _ (.tail _ (.tail _ (.tail _ (.tail _ (.tail _ (.tail _ (.head _)))))))))))
      have f10 : ¬ (E.int 1) < (E.int 3) := fact_lf (hG.2 _ (.tail _ (.tail _ (.tail _ (.tail _ (.tail _ (.tail _ (.tail _ (.tail _ (.tail _ (.tail _ (.head _))))))))))))
      have f11 : ¬ (E.int 4) < (E.int 1) := fact_lf (hG.2 _ (.tail _ (.tail _ (.tail _ (.tail _ (.tail _ (.tail _ (.tail _ (.tail _ (.tail _ (.tail _ (.tail _ (.head _)))))))))))))
      have fK : kd (E.row 0) (0 : Int) = 1 := f6
      have hc : E.row 1 (5 : Int) = evc (E.row 0) (0 : Int) 5 := by
        have h := hk (0 : Int) 5 (by omega) (by omega) (by omega) (by omega)
        first | exact h | (rw [Int.add_zero] at h; exact h)
      exact f0 ((congrArg IntKind.i64.wrap hc).trans ((evc_wrap _ _ _).trans (by simp [evc, fK])))))
  (leavesCons (.never (fun E hG hk => by
      have r1 := hG.1 1 (0, 60) rfl
      have r2 := hG.1 2 (0, 9223372036854775807) rfl
      have r3 := hG.1 3 (0, 60) rfl
      have r4 := hG.1 4 (0, 9223372036854775807) rfl
      have f0 : ¬ (IntKind.i64.wrap (E.row 1 (4 : Int))) = (IntKind.i64.wrap (E.row 0 (4 : Int))) := fact_ef (hG.2 _ (.head _))
      have f5 : ((IntKind.u64.wrap (E.row 0 (0 : Int))).tmod (3 : Int)) = (1 : Int) := fact_et (hG.2 _ (.tail _ (.tail _ (.tail _ (.tail _ (.tail _ (.head _)))))))
      have f6 : ¬ ((IntKind.u64.wrap (E.row 0 (0 : Int))).tmod (3 : Int)) = (0 : Int) := fact_ef (hG.2 _ (.tail _ (.tail _ (.tail _ (.tail _ (.tail _ (.tail _ (.head _))))))))
      have f7 : ¬ (E.int 3) = (0 : Int) := fact_ef (hG.2 _ (.tail _ (.tail _ (.tail _ (.tail _ (.tail _ (.tail _ (.tail _ (.head _)))))))))
      have f8 : ¬ (E.int 3) < (E.int 1) := fact_lf (hG.2 _ (.tail _ (.tail _ (.tail _ (.tail _ (.tail _ (.tail _ (.tail _ (.tail _ (.head _))))))))))
      have f9 : ¬ (E.int 1) < (E.int 3) := fact_lf (hG.2 _ (.tail _ (.tail _ (.tail _ (.tail _ (.tail _ (.tail _ (.tail _ (.tail _ (.tail _ (.head _)))))))))))
      have f10 : ¬ (E.int 4) < (E.int 1) := fact_lf (hG.2 _ (.tail _ (.tail _ (.tail _ (.tail _ (.tail _ (.tail _ (.tail _ (.tail _ (.tail _ (.tail _ (.head _))))))))))))
      have fK : kd (E.row 0) (0 : Int) = 1 := f5
      have hc : E.row 1 (4 : Int) = evc (E.row 0) (0 : Int) 4 := by
        have h := hk (0 : Int) 4 (by omega) (by omega) (by omega) (by omega)
        first | exact h | (rw [Int.add_zero] at h; exact h)
      exact f0 ((congrArg IntKind.i64.wrap hc).trans ((evc_wrap _ _ _).trans (by simp [evc, fK])))))
  (leavesCons (.never (fun E hG hk => by
      have r1 := hG.1 1 (0, 60) rfl
      have r2 := hG.1 2 (0, 9223372036854775807) rfl
      have r3 := hG.1 3 (0, 60) rfl
      have r4 := hG.1 4 (0, 9223372036854775807) rfl
      have f0 : ¬ (IntKind.i64.wrap (E.row 1 (3 : Int))) = (IntKind.i64.wrap (E.row 0 (3 : Int))) := fact_ef (hG.2 _ (.head _))
      have f4 : ((IntKind.u64.wrap (E.row 0 (0 : Int))).tmod (3 : Int)) = (1 : Int) := fact_et (hG.2 _ (.tail _ (.tail _ (.tail _ (.tail _ (.head _))))))
      have f5 : ¬ ((IntKind.u64.wrap (E.row 0 (0 : Int))).tmod (3 : Int)) = (0 : Int) := fact_ef (hG.2 _ (.tail _ (.tail _ (.tail _ (.tail _ (.tail _ (.head _)))))))
      have f6 : ¬ (E.int 3) = (0 : Int) := fact_ef (hG.2 _ (.tail _ (.tail _ (.tail _ (.tail _ (.tail _ (.tail _ (.head _))))))))
      have f7 : ¬ (E.int 3) < (E.int 1) := fact_lf (hG.2 _ (.tail _ (.tail _ (.tail _ (.tail _ (.tail _ (.tail _ (.tail _ (.head _)))))))))
      have f8 : ¬ (E.int 1) < (E.int 3) := fact_lf (hG.2 _ (.tail _ (.tail _ (.tail _ (.tail _ (.tail _ (.tail _ (.tail _ (.tail _ (.head _))))))))))
      have f9 : ¬ (E.int 4) < (E.int 1) := fact_lf (hG.2 _ (.tail _ (.tail _ (.tail _ (.tail _ (.tail _ (.tail _ (.tail _ (.tail _ (.tail _ (.head _)))))))))))
      have fK : kd (E.row 0) (0 : Int) = 1 := f4
      have hc : E.row 1 (3 : Int) = evc (E.row 0) (0 : Int) 3 := by
        have h := hk (0 : Int) 3 (by omega) (by omega) (by omega) (by omega)
        first | exact h | (rw [Int.add_zero] at h; exact h)
      exact f0 ((congrArg IntKind.i64.wrap hc).trans ((evc_wrap _ _ _).trans (by simp [evc, fK])))))
  (leavesCons (.never (fun E hG hk => by
      have r1 := hG.1 1 (0, 60) rfl
      have r2 := hG.1 2 (0, 9223372036854775807) rfl
      have r3 := hG.1 3 (0, 60) rfl
      have r4 := hG.1 4 (0, 9223372036854775807) rfl
      have f0 : ¬ (IntKind.i64.wrap (E.row 1 (2 : Int))) = (0 : Int) := fact_ef (hG.2 _ (.head _))
      have f3 : ((IntKind.u64.wrap (E.row 0 (0 : Int))).tmod (3 : Int)) = (1 : Int) := fact_et (hG.2 _ (.tail _ (.tail _ (.tail _ (.head _)))))
      have f4 : ¬ ((IntKind.u64.wrap (E.row 0 (0 : Int))).tmod (3 : Int)) = (0 : Int) := fact_ef (hG.2 _ (.tail _ (.tail _ (.tail _ (.tail _ (.head _))))))
      have f5 : ¬ (E.int 3) = (0 : Int) := fact_ef (hG.2 _ (.tail _ (.tail _ (.tail _ (.tail _ (.tail _ (.head _)))))))
      have f6 : ¬ (E.int 3) < (E.int 1) := fact_lf (hG.2 _ (.tail _ (.tail _ (.tail _ (.tail _ (.tail _ (.tail _ (.head _))))))))
      have f7 : ¬ (E.int 1) < (E.int 3) := fact_lf (hG.2 _ (.tail _ (.tail _ (.tail _ (.tail _ (.tail _ (.tail _ (.tail _ (.head _)))))))))
      have f8 : ¬ (E.int 4) < (E.int 1) := fact_lf (hG.2 _ (.tail _ (.tail _ (.tail _ (.tail _ (.tail _ (.tail _ (.tail _ (.tail _ (.head _))))))))))
      have fK : kd (E.row 0) (0 : Int) = 1 := f3
      have hc : E.row 1 (2 : Int) = evc (E.row 0) (0 : Int) 2 := by
        have h := hk (0 : Int) 2 (by omega) (by omega) (by omega) (by omega)
        first | exact h | (rw [Int.add_zero] at h; exact h)
      exact f0 ((congrArg IntKind.i64.wrap hc).trans ((evc_wrap _ _ _).trans (by simp [evc, fK])))))
  (leavesCons (.never (fun E hG hk => by
      have r1 := hG.1 1 (0, 60) rfl
      have r2 := hG.1 2 (0, 9223372036854775807) rfl
      have r3 := hG.1 3 (0, 60) rfl
      have r4 := hG.1 4 (0, 9223372036854775807) rfl
      have f0 : ¬ (IntKind.i64.wrap (E.row 1 (1 : Int))) = (IntKind.i64.wrap (E.row 0 (1 : Int))) := fact_ef (hG.2 _ (.head _))
      have f2 : ((IntKind.u64.wrap (E.row 0 (0 : Int))).tmod (3 : Int)) = (1 : Int) := fact_et (hG.2 _ (.tail _ (.tail _ (.head _))))
      have f3 : ¬ ((IntKind.u64.wrap (E.row 0 (0 : Int))).tmod (3 : Int)) = (0 : Int) := fact_ef (hG.2 _ (.tail _ (.tail _ (.tail _ (.head _)))))
      have f4 : ¬ (E.int 3) = (0 : Int) := fact_ef (hG.2 _ (.tail _ (.tail _ (.tail _ (.tail _ (.head _))))))
      have f5 : ¬ (E.int 3) < (E.int 1) := fact_lf (hG.2 _ (.tail _ (.tail _ (.tail _ (.tail _ (.tail _ (.head _)))))))
      have f6 : ¬ (E.int 1) < (E.int 3) := fact_lf (hG.2 _ (.tail _ (.tail _ (.tail _ (.tail _ (.tail _ (.tail _ (.head _))))))))
      have f7 : ¬ (E.int 4) < (E.int 1) := fact_lf (hG.2 _ (.tail _ (.tail _ (.tail _ (.tail _ (.tail _ (.tail _ (.tail _ (.head _)))))))))
      have fK : kd (E.row 0) (0 : Int) = 1 := f2
      have hc : E.row 1 (1 : Int) = evc (E.row 0) (0 : Int) 1 := by
        have h := hk (0 : Int) 1 (by omega) (by omega) (by omega) (by omega)
        first | exact h | (rw [Int.add_zero] at h; exact h)
      exact f0 ((congrArg IntKind.i64.wrap hc).trans ((evc_wrap _ _ _).trans (by simp [evc])))))
  (leavesCons (.never (fun E hG hk => by
      have r1 := hG.1 1 (0, 60) rfl
      have r2 := hG.1 2 (0, 9223372036854775807) rfl
      have r3 := hG.1 3 (0, 60) rfl
      have r4 := hG.1 4 (0, 9223372036854775807) rfl
      have f0 : ¬ (IntKind.i64.wrap (E.row 1 (0 : Int))) = ((IntKind.u64.wrap (E.row 0 (0 : Int))).tmod (3 : Int)) := fact_ef (hG.2 _ (.head _))
      have f1 : ((IntKind.u64.wrap (E.row 0 (0 : Int))).tmod (3 : Int)) = (1 : Int) := fact_et (hG.2 _ (.tail _ (.head _)))
      have f2 : ¬ ((IntKind.u64.wrap (E.row 0 (0 : Int))).tmod (3 : Int)) = (0 : Int) := fact_ef (hG.2 _ (.tail _ (.tail _ (.head _))))
      have f3 : ¬ (E.int 3) = (0 : Int) := fact_ef (hG.2 _ (.tail _ (.tail _ (.tail _ (.head _)))))
      have f4 : ¬ (E.int 3) < (E.int 1) := fact_lf (hG.2 _ (.tail _ (.tail _ (.tail _ (.tail _ (.head _))))))
      have f5 : ¬ (E.int 1) < (E.int 3) := fact_lf (hG.2 _ (.tail _ (.tail _ (.tail _ (.tail _ (.tail _ (.head _)))))))
      have f6 : ¬ (E.int 4) < (E.int 1) := fact_lf (hG.2 _ (.tail _ (.tail _ (.tail _ (.tail _ (.tail _ (.tail _ (.head _))))))))
      have fK : kd (E.row 0) (0 : Int) = 1 := f1
      have hc : E.row 1 (0 : Int) = evc (E.row 0) (0 : Int) 0 := by
        have h := hk (0 : Int) 0 (by omega) (by omega) (by omega) (by omega)
        first | exact h | (rw [Int.add_zero] at h; exact h)
      exact f0 ((congrArg IntKind.i64.wrap hc).trans ((evc_wrap _ _ _).trans (by simp [evc, kd])))))
  (leavesCons (.cut (by kernel_rfl) (fun E hG hk => by
      have r1 := hG.1 1 (0, 60) rfl
      have r2 := hG.1 2 (0, 9223372036854775807) rfl
      have r3 := hG.1 3 (0, 60) rfl
      have r4 := hG.1 4 (0, 9223372036854775807) rfl
      have f0 : (IntKind.i64.wrap (E.row 1 (7 : Int))) = (IntKind.i64.wrap (E.row 0 (7 : Int))) := fact_et (hG.2 _ (.head _))
      have f8 : ¬ ((IntKind.u64.wrap (E.row 0 (0 : Int))).tmod (3 : Int)) = (1 : Int) := fact_ef (hG.2 _ (.tail _ (.tail _ (.tail _ (.tail _ (.tail _ (.tail _ (.tail _ (.tail _ (.head _))))))))))
      have f9 : ¬ ((IntKind.u64.wrap (E.row 0 (0 : Int))).tmod (3 : Int)) = (0 : Int) := fact_ef (hG.2 _ (.tail _ (.tail _ (.tail _ (.tail _ (.tail _ (.tail _ (.tail _ (.tail _ (.tail _ (.head _)))))))))))
      have f10 : ¬ (E.int 3) = (0 : Int) := fact_ef (hG.2 _ (.tail _ (.tail _ (.tail _ (.tail _ (.tail _ (.tail _ (.tail _ (.tail _ (.tail _ (.tail _ (.head _))))))))))))
      have f11 : ¬ (E.int 3) < (E.int 1) := fact_lf (hG.2 _ (.tail _ (.tail _ (.tail _ (.tail _ (.tail _ (.tail _ (.tail _ (.tail _ (.tail _ (.tail _ (.tail _ (.head _)))))))))))))
      have f12 : ¬ (E.int 1) < (E.int 3) := fact_lf (hG.2 _ (.tail _ (.tail _ (.tail _ (.tail _ (.tail _ (.tail _ (.tail _ (.tail _ (.tail _ (.tail _ (.tail _ (.tail _ (.head _))))))))))))))
      have f13 : ¬ (E.int 4) < (E.int 1) := fact_lf (hG.2 _ (.tail _ (.tail _ (.tail _ (.tail _ (.tail _ (.tail _ (.tail _ (.tail _ (.tail _ (.tail _ (.tail _ (.tail _ (.tail _ (.head _)))))))))))))))
      exact fun j c a b d e => hk j c a b d e))
  (leavesCons (.never (fun E hG hk => by
      have r1 := hG.1 1 (0, 60) rfl
      have r2 := hG.1 2 (0, 9223372036854775807) rfl
      have r3 := hG.1 3 (0, 60) rfl
      have r4 := hG.1 4 (0, 9223372036854775807) rfl
      have f0 : ¬ (IntKind.i64.wrap (E.row 1 (7 : Int))) = (IntKind.i64.wrap (E.row 0 (7 : Int))) := fact_ef (hG.2 _ (.head _))
      have f8 : ¬ ((IntKind.u64.wrap (E.row 0 (0 : Int))).tmod (3 : Int)) = (1 : Int) := fact_ef (hG.2 _ (.tail _ (.tail _ (.tail _ (.tail _ (.tail _ (.tail _ (.tail _ (.tail _ (.head _))))))))))
      have f9 : ¬ ((IntKind.u64.wrap (E.row 0 (0 : Int))).tmod (3 : Int)) = (0 : Int) := fact_ef (hG.2 _ (.tail _ (.tail _ (.tail _ (.tail _ (.tail _ (.tail _ (.tail _ (.tail _ (.tail _ (.head _)))))))))))
      have f10 : ¬ (E.int 3) = (0 : Int) := fact_ef (hG.2 _ (.tail _ (.tail _ (.tail _ (.tail _ (.tail _ (.tail _ (.tail _ (.tail _ (.tail _ (.tail _ (.head _))))))))))))
      have f11 : ¬ (E.int 3) < (E.int 1) := fact_lf (hG.2 _ (.tail _ (.tail _ (.tail _ (.tail _ (.tail _ (.tail _ (.tail _ (.tail _ (.tail _ (.tail _ (.tail _ (.head _)))))))))))))
      have f12 : ¬ (E.int 1) < (E.int 3) := fact_lf (hG.2 _ (.tail _ (.tail _ (.tail _ (.tail _ (.tail _ (.tail _ (.tail _ (.tail _ (.tail _ (.tail _ (.tail _ (.tail _ (.head _))))))))))))))
      have f13 : ¬ (E.int 4) < (E.int 1) := fact_lf (hG.2 _ (.tail _ (.tail _ (.tail _ (.tail _ (.tail _ (.tail _ (.tail _ (.tail _ (.tail _ (.tail _ (.tail _ (.tail _ (.tail _ (.head _)))))))))))))))
      have fK : kd (E.row 0) (0 : Int) = 2 := kd2 f9 f8
      have hc : E.row 1 (7 : Int) = evc (E.row 0) (0 : Int) 7 := by
        have h := hk (0 : Int) 7 (by omega) (by omega) (by omega) (by omega)
        first | exact h | (rw [Int.add_zero] at h; exact h)
      exact f0 ((congrArg IntKind.i64.wrap hc).trans ((evc_wrap _ _ _).trans (by simp [evc, fK])))))
  (leavesCons (.never (fun E hG hk => by
      have r1 := hG.1 1 (0, 60) rfl
      have r2 := hG.1 2 (0, 9223372036854775807) rfl
      have r3 := hG.1 3 (0, 60) rfl
      have r4 := hG.1 4 (0, 9223372036854775807) rfl
      have f0 : ¬ (IntKind.i64.wrap (E.row 1 (6 : Int))) = (IntKind.i64.wrap (E.row 0 (6 : Int))) := fact_ef (hG.2 _ (.head _))
      have f7 : ¬ ((IntKind.u64.wrap (E.row 0 (0 : Int))).tmod (3 : Int)) = (1 : Int) := fact_ef (hG.2 _ (.tail _ (.tail _ (.tail _ (.tail _ (.tail _ (.tail _ (.tail _ (.head _)))))))))
      have f8 : ¬ ((IntKind.u64.wrap (E.row 0 (0 : Int))).tmod (3 : Int)) = (0 : Int) := fact_ef (hG.2 _ (.tail _ (.tail _ (.tail _ (.tail _ (.tail _ (.tail _ (.tail _ (.tail _ (.head _))))))))))
      have f9 : ¬ (E.int 3) = (0 : Int) := fact_ef (hG.2 _ (.tail _ (.tail _ (.tail _ (.tail _ (.tail _ (.tail _ (.tail _ (.tail _ (.tail _ (.head _)))))))))))
      have f10 : ¬ (E.int 3) < (E.int 1) := fact_lf (hG.2 _ (.tail _ (.tail _ (.tail _ (.tail _ (.tail _ (.tail _ (.tail _ (.tail _ (.tail _ (.tail _ (.head _))))))))))))
      have f11 : ¬ (E.int 1) < (E.int 3) := fact_lf (hG.2 _ (.tail _ (.tail _ (.tail _ (.tail _ (.tail _ (.tail _ (.tail _ (.tail _ (.tail _ (.tail _ (.tail _ (.head _)))))))))))))
      have f12 : ¬ (E.int 4) < (E.int 1) := fact_lf (hG.2 _ (.tail _ (.tail _ (.tail _ (.tail _ (.tail _ (.tail _ (.tail _ (.tail _ (.tail _ (.tail _ (.tail _ (.tail _ (.head _))))))))))))))
      have fK : kd (E.row 0) (0 : Int) = 2 := kd2 f8 f7
      have hc : E.row 1 (6 : Int) = evc (E.row 0) (0 : Int) 6 := by
        have h := hk (0 : Int) 6 (by omega) (by omega) (by omega) (by omega)
        first | exact h | (rw [Int.add_zero] at h; exact h)
      exact f0 ((congrArg IntKind.i64.wrap hc).trans ((evc_wrap _ _ _).trans (by simp [evc, fK])))))
  (leavesCons (.never (fun E hG hk => by
      have r1 := hG.1 1 (0, 60) rfl
      have r2 := hG.1 2 (0, 9223372036854775807) rfl
      have r3 := hG.1 3 (0, 60) rfl
      have r4 := hG.1 4 (0, 9223372036854775807) rfl
      have f0 : ¬ (IntKind.i64.wrap (E.row 1 (5 : Int))) = (0 : Int) := fact_ef (hG.2 _ (.head _))
      have f6 : ¬ ((IntKind.u64.wrap (E.row 0 (0 : Int))).tmod (3 : Int)) = (1 : Int) := fact_ef (hG.2 _ (.tail _ (.tail _ (.tail _ (.tail _ (.tail _ (.tail _ (.head _))))))))
      have f7 : ¬ ((IntKind.u64.wrap (E.row 0 (0 : Int))).tmod (3 : Int)) = (0 : Int) := fact_ef (hG.2 _ (.tail _ (.tail _ (.tail _ (.tail _ (.tail _ (.tail _ (.tail _ (.head _)))))))))
      have f8 : ¬ (E.int 3) = (0 : Int) := fact_ef (hG.2 _ (.tail _ (.tail _ (.tail _ (.tail _ (.tail _ (.tail _ (.tail _ (.tail _ (.head _))))))))))
      have f9 : ¬ (E.int 3) < (E.int 1) := fact_lf (hG.2 _ (.tail _ (.tail _ (.tail _ (.tail _ (.tail _ (.tail _ (.tail _ (.tail _ (.tail _ (.head _)))))))))))
      have f10 : ¬ (E.int 1) < (E.int 3) := fact_lf (hG.2 _ (.tail _ (.tail _ (.tail _ (.tail _ (.tail _ (.tail _ (.tail _ (.tail _ (.tail _ (.tail _ (.head _))))))))))))
      have f11 : ¬ (E.int 4) < (E.int 1) := fact_lf (hG.2 _ (.tail _ (.tail _ (.tail _ (.tail _ (.tail _ (.tail _ (.tail _ (.tail _ (.tail _ (.tail _ (.tail _ (.head _)))))))))))))
      have fK : kd (E.row 0) (0 : Int) = 2 := kd2 f7 f6
      have hc : E.row 1 (5 : Int) = evc (E.row 0) (0 : Int) 5 := by
        have h := hk (0 : Int) 5 (by omega) (by omega) (by omega) (by omega)
        first | exact h | (rw [Int.add_zero] at h; exact h)
      exact f0 ((congrArg IntKind.i64.wrap hc).trans ((evc_wrap _ _ _).trans (by simp [evc, fK])))))
  (leavesCons (.never (fun E hG hk => by
      have r1 := hG.1 1 (0, 60) rfl
      have r2 := hG.1 2 (0, 9223372036854775807) rfl
      have r3 := hG.1 3 (0, 60) rfl
      have r4 := hG.1 4 (0, 9223372036854775807) rfl
      have f0 : ¬ (IntKind.i64.wrap (E.row 1 (4 : Int))) = (0 : Int) := fact_ef (hG.2 _ (.head _))
      have f5 : ¬ ((IntKind.u64.wrap (E.row 0 (0 : Int))).tmod (3 : Int)) = (1 : Int) := fact_ef (hG.2 _ (.tail _ (.tail _ (.tail _ (.tail _ (.tail _ (.head _)))))))
      have f6 : ¬ ((IntKind.u64.wrap (E.row 0 (0 : Int))).tmod (3 : Int)) = (0 : Int) := fact_ef (hG.2 _ (.tail _ (.tail _ (.tail _ (.tail _ (.tail _ (.tail _ (.head _))))))))
      have f7 : ¬ (E.int 3) = (0 : Int) := fact_ef (hG.2 _ (.tail _ (.tail _ (.tail _ (.tail _ (.tail _ (.tail _ (.tail _ (.head _)))))))))
      have f8 : ¬ (E.int 3) < (E.int 1) := fact_lf (hG.2 _ (.tail _ (.tail _ (.tail _ (.tail _ (.tail _ (.tail _ (.tail _ (.tail _ (.head _))))))))))
      have f9 : ¬ (E.int 1) < (E.int 3) := fact_lf (hG.2 _ (.tail _ (.tail _ (.tail _ (.tail _ (.tail _ (.tail _ (.tail _ (.tail _ (.tail _ (.head _)))))))))))
      have f10 : ¬ (E.int 4) < (E.int 1) := fact_lf (hG.2 _ (.tail _ (.tail _ (.tail _ (.tail _ (.tail _ (.tail _ (.tail _ (.tail _ (.tail _ (.tail _ (.head _))))))))))))
      have fK : kd (E.row 0) (0 : Int) = 2 := kd2 f6 f5
      have hc : E.row 1 (4 : Int) = evc (E.row 0) (0 : Int) 4 := by
        have h := hk (0 : Int) 4 (by omega) (by omega) (by omega) (by omega)
        first | exact h | (rw [Int.add_zero] at h; exact h)
      exact f0 ((congrArg IntKind.i64.wrap hc).trans ((evc_wrap _ _ _).trans (by simp [evc, fK])))))
  (leavesCons (.never (fun E hG hk => by
      have r1 := hG.1 1 (0, 60) rfl
      have r2 := hG.1 2 (0, 9223372036854775807) rfl
      have r3 := hG.1 3 (0, 60) rfl
      have r4 := hG.1 4 (0, 9223372036854775807) rfl
      have f0 : ¬ (IntKind.i64.wrap (E.row 1 (3 : Int))) = (0 : Int) := fact_ef (hG.2 _ (.head _))
      have f4 : ¬ ((IntKind.u64.wrap (E.row 0 (0 : Int))).tmod (3 : Int)) = (1 : Int) := fact_ef (hG.2 _ (.tail _ (.tail _ (.tail _ (.tail _ (.head _))))))
      have f5 : ¬ ((IntKind.u64.wrap (E.row 0 (0 : Int))).tmod (3 : Int)) = (0 : Int) := fact_ef (hG.2 _ (.tail _ (.tail _ (.tail _ (.tail _ (.tail _ (.head _)))))))
      have f6 : ¬ (E.int 3) = (0 : Int) := fact_ef (hG.2 _ (.tail _ (.tail _ (.tail _ (.tail _ (.tail _ (.tail _ (.head _))))))))
      have f7 : ¬ (E.int 3) < (E.int 1) := fact_lf (hG.2 _ (.tail _ (.tail _ (.tail _ (.tail _ (.tail _ (.tail _ (.tail _ (.head _)))))))))
      have f8 : ¬ (E.int 1) < (E.int 3) := fact_lf (hG.2 _ (.tail _ (.tail _ (.tail _ (.tail _ (.tail _ (.tail _ (.tail _ (.tail _ (.head _))))))))))
      have f9 : ¬ (E.int 4) < (E.int 1) := fact_lf (hG.2 _ (.tail _ (.tail _ (.tail _ (.tail _ (.tail _ (.tail _ (.tail _ (.tail _ (.tail _ (.head _)))))))))))
      have fK : kd (E.row 0) (0 : Int) = 2 := kd2 f5 f4
      have hc : E.row 1 (3 : Int) = evc (E.row 0) (0 : Int) 3 := by
        have h := hk (0 : Int) 3 (by omega) (by omega) (by omega) (by omega)
        first | exact h | (rw [Int.add_zero] at h; exact h)
      exact f0 ((congrArg IntKind.i64.wrap hc).trans ((evc_wrap _ _ _).trans (by simp [evc, fK])))))
  (leavesCons (.never (fun E hG hk => by
      have r1 := hG.1 1 (0, 60) rfl
      have r2 := hG.1 2 (0, 9223372036854775807) rfl
      have r3 := hG.1 3 (0, 60) rfl
      have r4 := hG.1 4 (0, 9223372036854775807) rfl
      have f0 : ¬ (IntKind.i64.wrap (E.row 1 (2 : Int))) = (IntKind.i64.wrap (E.row 0 (2 : Int))) := fact_ef (hG.2 _ (.head _))
      have f3 : ¬ ((IntKind.u64.wrap (E.row 0 (0 : Int))).tmod (3 : Int)) = (1 : Int) := fact_ef (hG.2 _ (.tail _ (.tail _ (.tail _ (.head _)))))
      have f4 : ¬ ((IntKind.u64.wrap (E.row 0 (0 : Int))).tmod (3 : Int)) = (0 : Int) := fact_ef (hG.2 _ (.tail _ (.tail _ (.tail _ (.tail _ (.head _))))))
      have f5 : ¬ (E.int 3) = (0 : Int) := fact_ef (hG.2 _ (.tail _ (.tail _ (.tail _ (.tail _ (.tail _ (.head _)))))))
      have f6 : ¬ (E.int 3) < (E.int 1) := fact_lf (hG.2 _ (.tail _ (.tail _ (.tail _ (.tail _ (.tail _ (.tail _ (.head _))))))))
      have f7 : ¬ (E.int 1) < (E.int 3) := fact_lf (hG.2 _ (.tail _ (.tail _ (.tail _ (.tail _ (.tail _ (.tail _ (.tail _ (.head _)))))))))
      have f8 : ¬ (E.int 4) < (E.int 1) := fact_lf (hG.2 _ (.tail _ (.tail _ (.tail _ (.tail _ (.tail _ (.tail _ (.tail _ (.tail _ (.head _))))))))))
      have fK : kd (E.row 0) (0 : Int) = 2 := kd2 f4 f3
      have hc : E.row 1 (2 : Int) = evc (E.row 0) (0 : Int) 2 := by
        have h := hk (0 : Int) 2 (by omega) (by omega) (by omega) (by omega)
        first | exact h | (rw [Int.add_zero] at h; exact h)
      exact f0 ((congrArg IntKind.i64.wrap hc).trans ((evc_wrap _ _ _).trans (by simp [evc, fK])))))
  (leavesCons (.never (fun E hG hk => by
      have r1 := hG.1 1 (0, 60) rfl
      have r2 := hG.1 2 (0, 9223372036854775807) rfl
      have r3 := hG.1 3 (0, 60) rfl
      have r4 := hG.1 4 (0, 9223372036854775807) rfl
      have f0 : ¬ (IntKind.i64.wrap (E.row 1 (1 : Int))) = (IntKind.i64.wrap (E.row 0 (1 : Int))) := fact_ef (hG.2 _ (.head _))
      have f2 : ¬ ((IntKind.u64.wrap (E.row 0 (0 : Int))).tmod (3 : Int)) = (1 : Int) := fact_ef (hG.2 _ (.tail _ (.tail _ (.head _))))
      have f3 : ¬ ((IntKind.u64.wrap (E.row 0 (0 : Int))).tmod (3 : Int)) = (0 : Int) := fact_ef (hG.2 _ (.tail _ (.tail _ (.tail _ (.head _)))))
      have f4 : ¬ (E.int 3) = (0 : Int) := fact_ef (hG.2 _ (.tail _ (.tail _ (.tail _ (.tail _ (.head _))))))
      have f5 : ¬ (E.int 3) < (E.int 1) := fact_lf (hG.2 _ (.tail _ (.tail _ (.tail _ (.tail _ (.tail _ (.head _)))))))
      have f6 : ¬ (E.int 1) < (E.int 3) := fact_lf (hG.2 _ (.tail _ (.tail _ (.tail _ (.tail _ (.tail _ (.tail _ (.head _))))))))
      have f7 : ¬ (E.int 4) < (E.int 1) := fact_lf (hG.2 _ (.tail _ (.tail _ (.tail _ (.tail _ (.tail _ (.tail _ (.tail _ (.head _)))))))))
      have fK : kd (E.row 0) (0 : Int) = 2 := kd2 f3 f2
      have hc : E.row 1 (1 : Int) = evc (E.row 0) (0 : Int) 1 := by
        have h := hk (0 : Int) 1 (by omega) (by omega) (by omega) (by omega)
        first | exact h | (rw [Int.add_zero] at h; exact h)
      exact f0 ((congrArg IntKind.i64.wrap hc).trans ((evc_wrap _ _ _).trans (by simp [evc])))))
  (leavesCons (.never (fun E hG hk => by
      have r1 := hG.1 1 (0, 60) rfl
      have r2 := hG.1 2 (0, 9223372036854775807) rfl
      have r3 := hG.1 3 (0, 60) rfl
      have r4 := hG.1 4 (0, 9223372036854775807) rfl
      have f0 : ¬ (IntKind.i64.wrap (E.row 1 (0 : Int))) = ((IntKind.u64.wrap (E.row 0 (0 : Int))).tmod (3 : Int)) := fact_ef (hG.2 _ (.head _))
      have f1 : ¬ ((IntKind.u64.wrap (E.row 0 (0 : Int))).tmod (3 : Int)) = (1 : Int) := fact_ef (hG.2 _ (.tail _ (.head _)))
      have f2 : ¬ ((IntKind.u64.wrap (E.row 0 (0 : Int))).tmod (3 : Int)) = (0 : Int) := fact_ef (hG.2 _ (.tail _ (.tail _ (.head _))))
      have f3 : ¬ (E.int 3) = (0 : Int) := fact_ef (hG.2 _ (.tail _ (.tail _ (.tail _ (.head _)))))
      have f4 : ¬ (E.int 3) < (E.int 1) := fact_lf (hG.2 _ (.tail _ (.tail _ (.tail _ (.tail _ (.head _))))))
      have f5 : ¬ (E.int 1) < (E.int 3) := fact_lf (hG.2 _ (.tail _ (.tail _ (.tail _ (.tail _ (.tail _ (.head _)))))))
      have f6 : ¬ (E.int 4) < (E.int 1) := fact_lf (hG.2 _ (.tail _ (.tail _ (.tail _ (.tail _ (.tail _ (.tail _ (.head _))))))))
      have fK : kd (E.row 0) (0 : Int) = 2 := kd2 f2 f1
      have hc : E.row 1 (0 : Int) = evc (E.row 0) (0 : Int) 0 := by
        have h := hk (0 : Int) 0 (by omega) (by omega) (by omega) (by omega)
        first | exact h | (rw [Int.add_zero] at h; exact h)
      exact f0 ((congrArg IntKind.i64.wrap hc).trans ((evc_wrap _ _ _).trans (by simp [evc, kd])))))
  leavesNil)))))))))))))))))))))))))))))))
def d3 : List (List (SB × Bool) × Leaf) := [
  ([((.eql (.sel .i64 (.row 1) (.add (.mul (.var 3) (.lit 8)) (.lit 7))) (.lit 0)), true), h30, h18, h10, h9, h6, h1, h0, h16, h11, h3, h4], .cut 3 [(.var 0), (.var 1), (.var 2), (.add (.var 3) (.lit 1)), (.var 4)] [] [(.row 0), (.row 1)]),
  ([((.eql (.sel .i64 (.row 1) (.add (.mul (.var 3) (.lit 8)) (.lit 7))) (.lit 0)), false), h30, h18, h10, h9, h6, h1, h0, h16, h11, h3, h4], .fin (.lit false)),
  ([((.eql (.sel .i64 (.row 1) (.add (.mul (.var 3) (.lit 8)) (.lit 6))) (.lit 0)), false), h18, h10, h9, h6, h1, h0, h16, h11, h3, h4], .fin (.lit false)),
  ([((.eql (.sel .i64 (.row 1) (.add (.mul (.var 3) (.lit 8)) (.lit 5))) (.sel .i64 (.row 0) (.add (.mul (.var 3) (.lit 8)) (.lit 5)))), false), h10, h9, h6, h1, h0, h16, h11, h3, h4], .fin (.lit false)),
  ([((.eql (.sel .i64 (.row 1) (.add (.mul (.var 3) (.lit 8)) (.lit 4))) (.sel .i64 (.row 0) (.add (.mul (.var 3) (.lit 8)) (.lit 4)))), false), h9, h6, h1, h0, h16, h11, h3, h4], .fin (.lit false)),
  ([((.eql (.sel .i64 (.row 1) (.add (.mul (.var 3) (.lit 8)) (.lit 3))) (.sel .i64 (.row 0) (.add (.mul (.var 3) (.lit 8)) (.lit 3)))), false), h6, h1, h0, h16, h11, h3, h4], .fin (.lit false)),
  ([((.eql (.sel .i64 (.row 1) (.add (.mul (.var 3) (.lit 8)) (.lit 2))) (.sel .i64 (.row 0) (.add (.mul (.var 3) (.lit 8)) (.lit 2)))), false), h1, h0, h16, h11, h3, h4], .fin (.lit false)),
  ([h27, h0, h16, h11, h3, h4], .fin (.lit false)),
  ([h28, h16, h11, h3, h4], .fin (.lit false)),
  ([((.eql (.sel .i64 (.row 1) (.add (.mul (.var 3) (.lit 8)) (.lit 7))) (.lit 0)), true), h30, h18, h10, h9, h24, h1, h0, h17, h5, h11, h3, h4], .cut 3 [(.var 0), (.var 1), (.var 2), (.add (.var 3) (.lit 1)), (.var 4)] [] [(.row 0), (.row 1)]),
  ([((.eql (.sel .i64 (.row 1) (.add (.mul (.var 3) (.lit 8)) (.lit 7))) (.lit 0)), false), h30, h18, h10, h9, h24, h1, h0, h17, h5, h11, h3, h4], .fin (.lit false)),
  ([((.eql (.sel .i64 (.row 1) (.add (.mul (.var 3) (.lit 8)) (.lit 6))) (.lit 0)), false), h18, h10, h9, h24, h1, h0, h17, h5, h11, h3, h4], .fin (.lit false)),
  ([((.eql (.sel .i64 (.row 1) (.add (.mul (.var 3) (.lit 8)) (.lit 5))) (.sel .i64 (.row 0) (.add (.mul (.var 3) (.lit 8)) (.lit 5)))), false), h10, h9, h24, h1, h0, h17, h5, h11, h3, h4], .fin (.lit false)),
  ([((.eql (.sel .i64 (.row 1) (.add (.mul (.var 3) (.lit 8)) (.lit 4))) (.sel .i64 (.row 0) (.add (.mul (.var 3) (.lit 8)) (.lit 4)))), false), h9, h24, h1, h0, h17, h5, h11, h3, h4], .fin (.lit false)),
  ([((.eql (.sel .i64 (.row 1) (.add (.mul (.var 3) (.lit 8)) (.lit 3))) (.sel .i64 (.row 0) (.add (.mul (.var 3) (.lit 8)) (.lit 3)))), false), h24, h1, h0, h17, h5, h11, h3, h4], .fin (.lit false)),
  ([((.eql (.sel .i64 (.row 1) (.add (.mul (.var 3) (.lit 8)) (.lit 2))) (.lit 0)), false), h1, h0, h17, h5, h11, h3, h4], .fin (.lit false)),
  ([h27, h0, h17, h5, h11, h3, h4], .fin (.lit false)),
  ([h28, h17, h5, h11, h3, h4], .fin (.lit false)),
  ([((.eql (.sel .i64 (.row 1) (.add (.mul (.var 3) (.lit 8)) (.lit 7))) (.sel .i64 (.row 0) (.add (.mul (.var 3) (.lit 8)) (.lit 7)))), true), ((.eql (.sel .i64 (.row 1) (.add (.mul (.var 3) (.lit 8)) (.lit 6))) (.sel .i64 (.row 0) (.add (.mul (.var 3) (.lit 8)) (.lit 6)))), true), h35, h31, h26, h6, h1, h0, h15, h5, h11, h3, h4], .cut 3 [(.var 0), (.var 1), (.var 2), (.add (.var 3) (.lit 1)), (.var 4)] [] [(.row 0), (.row 1)]),
  ([((.eql (.sel .i64 (.row 1) (.add (.mul (.var 3) (.lit 8)) (.lit 7))) (.sel .i64 (.row 0) (.add (.mul (.var 3) (.lit 8)) (.lit 7)))), false), ((.eql (.sel .i64 (.row 1) (.add (.mul (.var 3) (.lit 8)) (.lit 6))) (.sel .i64 (.row 0) (.add (.mul (.var 3) (.lit 8)) (.lit 6)))), true), h35, h31, h26, h6, h1, h0, h15, h5, h11, h3, h4], .fin (.lit false)),
  ([((.eql (.sel .i64 (.row 1) (.add (.mul (.var 3) (.lit 8)) (.lit 6))) (.sel .i64 (.row 0) (.add (.mul (.var 3) (.lit 8)) (.lit 6)))), false), h35, h31, h26, h6, h1, h0, h15, h5, h11, h3, h4], .fin (.lit false)),
  ([((.eql (.sel .i64 (.row 1) (.add (.mul (.var 3) (.lit 8)) (.lit 5))) (.lit 0)), false), h31, h26, h6, h1, h0, h15, h5, h11, h3, h4], .fin (.lit false)),
  ([((.eql (.sel .i64 (.row 1) (.add (.mul (.var 3) (.lit 8)) (.lit 4))) (.lit 0)), false), h26, h6, h1, h0, h15, h5, h11, h3, h4], .fin (.lit false)),
  ([((.eql (.sel .i64 (.row 1) (.add (.mul (.var 3) (.lit 8)) (.lit 3))) (.lit 0)), false), h6, h1, h0, h15, h5, h11, h3, h4], .fin (.lit false)),
  ([((.eql (.sel .i64 (.row 1) (.add (.mul (.var 3) (.lit 8)) (.lit 2))) (.sel .i64 (.row 0) (.add (.mul (.var 3) (.lit 8)) (.lit 2)))), false), h1, h0, h15, h5, h11, h3, h4], .fin (.lit false)),
  ([h27, h0, h15, h5, h11, h3, h4], .fin (.lit false)),
  ([h28, h15, h5, h11, h3, h4], .fin (.lit false)),
  ([h12, h3, h4], .fin (.lit true))]
theorem q3 : PartΦ Try.prog cuts φ 3 m3 true g2 t3.cfg := .of 1000000 d3 (by kernel_rfl) (by kernel_rfl)
  (leavesCons (.cut (by kernel_rfl) (fun E hG hk => by
      have r1 := hG.1 1 (0, 60) rfl
      have r2 := hG.1 2 (0, 9223372036854775807) rfl
      have r3 := hG.1 3 (0, 60) rfl
      have r4 := hG.1 4 (0, 9223372036854775807) rfl
      have f0 : (IntKind.i64.wrap (E.row 1 (((E.int 3) * (8 : Int)) + (7 : Int)))) = (0 : Int) := fact_et (hG.2 _ (.head _))
      have f8 : ((IntKind.u64.wrap (E.row 0 ((E.int 3) * (8 : Int)))).tmod (3 : Int)) = (0 : Int) := fact_et (hG.2 _ (.tail _ (.tail _ (.tail _ (.tail _ (.tail _ (.tail _ (.tail _ (.tail _ (.head _))))))))))
      have f9 : (E.int 3) < (E.int 1) := fact_lt (hG.2 _ (.tail _ (.tail _ (.tail _ (.tail _ (.tail _ (.tail _ (.tail _ (.tail _ (.tail _ (.head _)))))))))))
      have f10 : ¬ (E.int 1) < (E.int 3) := fact_lf (hG.2 _ (.tail _ (.tail _ (.tail _ (.tail _ (.tail _ (.tail _ (.tail _ (.tail _ (.tail _ (.tail _ (.head _))))))))))))
      have f11 : ¬ (E.int 4) < (E.int 1) := fact_lf (hG.2 _ (.tail _ (.tail _ (.tail _ (.tail _ (.tail _ (.tail _ (.tail _ (.tail _ (.tail _ (.tail _ (.tail _ (.head _)))))))))))))
      exact fun j c a b d e => hk j c a b d e))
  (leavesCons (.never (fun E hG hk => by
      have r1 := hG.1 1 (0, 60) rfl
      have r2 := hG.1 2 (0, 9223372036854775807) rfl
      have r3 := hG.1 3 (0, 60) rfl
      have r4 := hG.1 4 (0, 9223372036854775807) rfl
      have f0 : ¬ (IntKind.i64.wrap (E.row 1 (((E.int 3) * (8 : Int)) + (7 : Int)))) = (0 : Int) := fact_ef (hG.2 _ (.head _))
      have f8 : ((IntKind.u64.wrap (E.row 0 ((E.int 3) * (8 : Int)))).tmod (3 : Int)) = (0 : Int) := fact_et (hG.2 _ (.tail _ (.tail _ (.tail _ (.tail _ (.tail _ (.tail _ (.tail _ (.tail _ (.head _))))))))))
      have f9 : (E.int 3) < (E.int 1) := fact_lt (hG.2 _ (.tail _ (.tail _ (.tail _ (.tail _ (.tail _ (.tail _ (.tail _ (.tail _ (.tail _ (.head _)))))))))))
      have f10 : ¬ (E.int 1) < (E.int 3) := fact_lf (hG.2 _ (.tail _ (.tail _ (.tail _ (.tail _ (.tail _ (.tail _ (.tail _ (.tail _ (.tail _ (.tail _ (.head _))))))))))))
      have f11 : ¬ (E.int 4) < (E.int 1) := fact_lf (hG.2 _ (.tail _ (.tail _ (.tail _ (.tail _ (.tail _ (.tail _ (.tail _ (.tail _ (.tail _ (.tail _ (.tail _ (.head _)))))))))))))
      have fK : kd (E.row 0) (E.int 3) = 0 := f8
      have hc : E.row 1 (((E.int 3) * (8 : Int)) + (7 : Int)) = evc (E.row 0) (E.int 3) 7 := by
        have h := hk (E.int 3) 7 (by omega) (by omega) (by omega) (by omega)
        first | exact h | (rw [Int.add_zero] at h; exact h)
      exact f0 ((congrArg IntKind.i64.wrap hc).trans ((evc_wrap _ _ _).trans (by simp [evc, fK])))))
  (leavesCons (.never (fun E hG hk => by
      have r1 := hG.1 1 (0, 60) rfl
      have r2 := hG.1 2 (0, 9223372036854775807) rfl
      have r3 := hG.1 3 (0, 60) rfl
      have r4 := hG.1 4 (0, 9223372036854775807) rfl
      have f0 : ¬ (IntKind.i64.wrap (E.row 1 (((E.int 3) * (8 : Int)) + (6 : Int)))) = (0 : Int) := fact_ef (hG.2 _ (.head _))
      have f7 : ((IntKind.u64.wrap (E.row 0 ((E.int 3) * (8 : Int)))).tmod (3 : Int)) = (0 : Int) := fact_et (hG.2 _ (.tail _ (.tail _ (.tail _ (.tail _ (.tail _ (.tail _ (.tail _ (.head _)))))))))
      have f8 : (E.int 3) < (E.int 1) := fact_lt (hG.2 _ (.tail _ (.tail _ (.tail _ (.tail _ (.tail _ (.tail _ (.tail _ (.tail _ (.head _))))))))))
      have f9 : ¬ (E.int 1) < (E.int 3) := fact_lf (hG.2 _ (.tail _ (.tail _ (.tail _ (.tail _ (.tail _ (.tail _ (.tail _ (.tail _ (.tail _ (.head _)))))))))))
      have f10 : ¬ (E.int 4) < (E.int 1) := fact_lf (hG.2 _ (.tail _ (.tail _ (.tail _ (.tail _ (.tail _ (.tail _ (.tail _ (.tail _ (.tail _ (.tail _ (.head _))))))))))))
      have fK : kd (E.row 0) (E.int 3) = 0 := f7
      have hc : E.row 1 (((E.int 3) * (8 : Int)) + (6 : Int)) = evc (E.row 0) (E.int 3) 6 := by
        have h := hk (E.int 3) 6 (by omega) (by omega) (by omega) (by omega)
        first | exact h | (rw [Int.add_zero] at h; exact h)
      exact f0 ((congrArg IntKind.i64.wrap hc).trans ((evc_wrap _ _ _).trans (by simp [evc, fK])))))
  (leavesCons (.never (fun E hG hk => by
      have r1 := hG.1 1 (0, 60) rfl
      have r2 := hG.1 2 (0, 9223372036854775807) rfl
      have r3 := hG.1 3 (0, 60) rfl
      have r4 := hG.1 4 (0, 9223372036854775807) rfl
      have f0 : ¬ (IntKind.i64.wrap (E.row 1 (((E.int 3) * (8 : Int)) + (5 : Int)))) = (IntKind.i64.wrap (E.row 0 (((E.int 3) * (8 : Int)) + (5 : Int)))) := fact_ef (hG.2 _ (.head _))
      have f6 : ((IntKind.u64.wrap (E.row 0 ((E.int 3) * (8 : Int)))).tmod (3 : Int)) = (0 : Int) := fact_et (hG.2 _ (.tail _ (.tail _ (.tail _ (.tail _ (.tail _ (.tail _ (.head _))))))))
      have f7 : (E.int 3) < (E.int 1) := fact_lt (hG.2 _ (.tail _ (.tail _ (.tail _ (.tail _ (.tail _ (.tail _ (.tail _ (.head _)))))))))
      have f8 : ¬ (E.int 1) < (E.int 3) := fact_lf (hG.2 _ (.tail _ (.tail _ (.tail _ (.tail _ (.tail _ (.tail _ (.tail _ (.tail _ (.head _))))))))))
      have f9 : ¬ (E.int 4) < (E.int 1) := fact_lf (hG.2 _ (.tail _ (.tail _ (.tail _ (.tail _ (.tail _ (.tail _ (.tail _ (.tail _ (.tail _ (.head _)))))))))))
      have fK : kd (E.row 0) (E.int 3) = 0 := f6
      have hc : E.row 1 (((E.int 3) * (8 : Int)) + (5 : Int)) = evc (E.row 0) (E.int 3) 5 := by
        have h := hk (E.int 3) 5 (by omega) (by omega) (by omega) (by omega)
        first | exact h | (rw [Int.add_zero] at h; exact h)
      exact f0 ((congrArg IntKind.i64.wrap hc).trans ((evc_wrap _ _ _).trans (by simp [evc, fK])))))
  (leavesCons (.never (fun E hG hk => by
      have r1 := hG.1 1 (0, 60) rfl
      have r2 := hG.1 2 (0, 9223372036854775807) rfl
      have r3 := hG.1 3 (0, 60) rfl
      have r4 := hG.1 4 (0, 9223372036854775807) rfl
      have f0 : ¬ (IntKind.i64.wrap (E.row 1 (((E.int 3) * (8 : Int)) + (4 : Int)))) = (IntKind.i64.wrap (E.row 0 (((E.int 3) * (8 : Int)) + (4 : Int)))) := fact_ef (hG.2 _ (.head _))
      have f5 : ((IntKind.u64.wrap (E.row 0 ((E.int 3) * (8 : Int)))).tmod (3 : Int)) = (0 : Int) := fact_et (hG.2 _ (.tail _ (.tail _ (.tail _ (.tail _ (.tail _ (.head _)))))))
      have f6 : (E.int 3) < (E.int 1) := fact_lt (hG.2 _ (.tail _ (.tail _ (.tail _ (.tail _ (.tail _ (.tail _ (.head _))))))))
      have f7 : ¬ (E.int 1) < (E.int 3) := fact_lf (hG.2 _ (.tail _ (.tail _ (.tail _ (.tail _ (.tail _ (.tail _ (.tail _ (.head _)))))))))
      have f8 : ¬ (E.int 4) < (E.int 1) := fact_lf (hG.2 _ (.tail _ (.tail _ (.tail _ (.tail _ (.tail _ (.tail _ (.tail _ (.tail _ (.head _))))))))))
      have fK : kd (E.row 0) (E.int 3) = 0 := f5
      have hc : E.row 1 (((E.int 3) * (8 : Int)) + (4 : Int)) = evc (E.row 0) (E.int 3) 4 := by
        have h := hk (E.int 3) 4 (by omega) (by omega) (by omega) (by omega)
        first | exact h | (rw [Int.add_zero] at h; exact h)
      exact f0 ((congrArg IntKind.i64.wrap hc).trans ((evc_wrap _ _ _).trans (by simp [evc, fK])))))
  (leavesCons (.never (fun E hG hk => by
      have r1 := hG.1 1 (0, 60) rfl
      have r2 := hG.1 2 (0, 9223372036854775807) rfl
      have r3 := hG.1 3 (0, 60) rfl
      have r4 := hG.1 4 (0, 9223372036854775807) rfl
      have f0 : ¬ (IntKind.i64.wrap (E.row 1 (((E.int 3) * (8 : Int)) + (3 : Int)))) = (IntKind.i64.wrap (E.row 0 (((E.int 3) * (8 : Int)) + (3 : Int)))) := fact_ef (hG.2 _ (.head _))
      have f4 : ((IntKind.u64.wrap (E.row 0 ((E.int 3) * (8 : Int)))).tmod (3 : Int)) = (0 : Int) := fact_et (hG.2 _ (.tail _ (.tail _ (.tail _ (.tail _ (.head _))))))
      have f5 : (E.int 3) < (E.int 1) := fact_lt (hG.2 _ (.tail _ (.tail _ (.tail _ (.tail _ (.tail _ (.head _)))))))
      have f6 : ¬ (E.int 1) < (E.int 3) := fact_lf (hG.2 _ (.tail _ (.tail _ (.tail _ (.tail _ (.tail _ (.tail _ (.head _))))))))
      have f7 : ¬ (E.int 4) < (E.int 1) := fact_lf (hG.2 _ (.tail _ (.tail _ (.tail _ (.tail _ (.tail _ (.tail _ (.tail _ (.head _)))))))))
      have fK : kd (E.row 0) (E.int 3) = 0 := f4
      have hc : E.row 1 (((E.int 3) * (8 : Int)) + (3 : Int)) = evc (E.row 0) (E.int 3) 3 := by
        have h := hk (E.int 3) 3 (by omega) (by omega) (by omega) (by omega)
        first | exact h | (rw [Int.add_zero] at h; exact h)
      exact f0 ((congrArg IntKind.i64.wrap hc).trans ((evc_wrap _ _ _).trans (by simp [evc, fK])))))
  (leavesCons (.never (fun E hG hk => by
      have r1 := hG.1 1 (0, 60) rfl
      have r2 := hG.1 2 (0, 9223372036854775807) rfl
      have r3 := hG.1 3 (0, 60) rfl
      have r4 := hG.1 4 (0, 9223372036854775807) rfl
      have f0 : ¬ (IntKind.i64.wrap (E.row 1 (((E.int 3) * (8 : Int)) + (2 : Int)))) = (IntKind.i64.wrap (E.row 0 (((E.int 3) * (8 : Int)) + (2 : Int)))) := fact_ef (hG.2 _ (.head _))
      have f3 : ((IntKind.u64.wrap (E.row 0 ((E.int 3) * (8 : Int)))).tmod (3 : Int)) = (0 : Int) := fact_et (hG.2 _ (.tail _ (.tail _ (.tail _ (.head _)))))
      have f4 : (E.int 3) < (E.int 1) := fact_lt (hG.2 _ (.tail _ (.tail _ (.tail _ (.tail _ (.head _))))))
      have f5 : ¬ (E.int 1) < (E.int 3) := fact_lf (hG.2 _ (.tail _ (.tail _ (.tail _ (.tail _ (.tail _ (.head _)))))))
      have f6 : ¬ (E.int 4) < (E.int 1) := fact_lf (hG.2 _ (.tail _ (.tail _ (.tail _ (.tail _ (.tail _ (.tail _ (.head _))))))))
      have fK : kd (E.row 0) (E.int 3) = 0 := f3
      have hc : E.row 1 (((E.int 3) * (8 : Int)) + (2 : Int)) = evc (E.row 0) (E.int 3) 2 := by
        have h := hk (E.int 3) 2 (by omega) (by omega) (by omega) (by omega)
        first | exact h | (rw [Int.add_zero] at h; exact h)
      exact f0 ((congrArg IntKind.i64.wrap hc).trans ((evc_wrap _ _ _).trans (by simp [evc, fK])))))
  (leavesCons (.never (fun E hG hk => by
      have r1 := hG.1 1 (0, 60) rfl
      have r2 := hG.1 2 (0, 9223372036854775807) rfl
      have r3 := hG.1 3 (0, 60) rfl
      have r4 := hG.1 4 (0, 9223372036854775807) rfl
      have f0 : ¬ (IntKind.i64.wrap (E.row 1 (((E.int 3) * (8 : Int)) + (1 : Int)))) = (IntKind.i64.wrap (E.row 0 (((E.int 3) * (8 : Int)) + (1 : Int)))) := fact_ef (hG.2 _ (.head _))
      have f2 : ((IntKind.u64.wrap (E.row 0 ((E.int 3) * (8 : Int)))).tmod (3 : Int)) = (0 : Int) := fact_et (hG.2 _ (.tail _ (.tail _ (.head _))))
      have f3 : (E.int 3) < (E.int 1) := fact_lt (hG.2 _ (.tail _ (.tail _ (.tail _ (.head _)))))
      have f4 : ¬ (E.int 1) < (E.int 3) := fact_lf (hG.2 _ (.tail _ (.tail _ (.tail _ (.tail _ (.head _))))))
      have f5 : ¬ (E.int 4) < (E.int 1) := fact_lf (hG.2 _ (.tail _ (.tail _ (.tail _ (.tail _ (.tail _ (.head _)))))))
      have fK : kd (E.row 0) (E.int 3) = 0 := f2
      have hc : E.row 1 (((E.int 3) * (8 : Int)) + (1 : Int)) = evc (E.row 0) (E.int 3) 1 := by
        have h := hk (E.int 3) 1 (by omega) (by omega) (by omega) (by omega)
        first | exact h | (rw [Int.add_zero] at h; exact h)
      exact f0 ((congrArg IntKind.i64.wrap hc).trans ((evc_wrap _ _ _).trans (by simp [evc])))))
  (leavesCons (.never (fun E hG hk => by
      have r1 := hG.1 1 (0, 60) rfl
      have r2 := hG.1 2 (0, 9223372036854775807) rfl
      have r3 := hG.1 3 (0, 60) rfl
      have r4 := hG.1 4 (0, 9223372036854775807) rfl
      have f0 : ¬ (IntKind.i64.wrap (E.row 1 ((E.int 3) * (8 : Int)))) = ((IntKind.u64.wrap (E.row 0 ((E.int 3) * (8 : Int)))).tmod (3 : Int)) := fact_ef (hG.2 _ (.head _))
      have f1 : ((IntKind.u64.wrap (E.row 0 ((E.int 3) * (8 : Int)))).tmod (3 : Int)) = (0 : Int) := fact_et (hG.2 _ (.tail _ (.head _)))
      have f2 : (E.int 3) < (E.int 1) := fact_lt (hG.2 _ (.tail _ (.tail _ (.head _))))
      have f3 : ¬ (E.int 1) < (E.int 3) := fact_lf (hG.2 _ (.tail _ (.tail _ (.tail _ (.head _)))))
      have f4 : ¬ (E.int 4) < (E.int 1) := fact_lf (hG.2 _ (.tail _ (.tail _ (.tail _ (.tail _ (.head _))))))
      have fK : kd (E.row 0) (E.int 3) = 0 := f1
      have hc : E.row 1 ((E.int 3) * (8 : Int)) = evc (E.row 0) (E.int 3) 0 := by
        have h := hk (E.int 3) 0 (by omega) (by omega) (by omega) (by omega)
        first | exact h | (rw [Int.add_zero] at h; exact h)
      exact f0 ((congrArg IntKind.i64.wrap hc).trans ((evc_wrap _ _ _).trans (by simp [evc, kd])))))
  (leavesCons (.cut (by kernel_rfl) (fun E hG hk => by
      have r1 := hG.1 1 (0, 60) rfl
      have r2 := hG.1 2 (0, 9223372036854775807) rfl
      have r3 := hG.1 3 (0, 60) rfl
      have r4 := hG.1 4 (0, 9223372036854775807) rfl
      have f0 : (IntKind.i64.wrap (E.row 1 (((E.int 3) * (8 : Int)) + (7 : Int)))) = (0 : Int) := fact_et (hG.2 _ (.head _))
      have f8 : ((IntKind.u64.wrap (E.row 0 ((E.int 3) * (8 : Int)))).tmod (3 : Int)) = (1 : Int) := fact_et (hG.2 _ (.tail _ (.tail _ (.tail _ (.tail _ (.tail _ (.tail _ (.tail _ (.tail _ (.head _))))))))))
      have f9 : ¬ ((IntKind.u64.wrap (E.row 0 ((E.int 3) * (8 : Int)))).tmod (3 : Int)) = (0 : Int) := fact_ef (hG.2 _ (.tail _ (.tail _ (.tail _ (.tail _ (.tail _ (.tail _ (.tail _ (.tail _ (.tail _ (.head _)))))))))))
      have f10 : (E.int 3) < (E.int 1) := fact_lt (hG.2 _ (.tail _ (.tail _ (.tail _ (.tail _ (.tail _ (.tail _ (.tail _ (.tail _ (.tail _ (.tail _ (.head _))))))))))))
      have f11 : ¬ (E.int 1) < (E.int 3) := fact_lf (hG.2 _ (.tail _ (.tail _ (.tail _ (.tail _ (.tail _ (.tail _ (.tail _ (.tail _ (.tail _ (.tail _ (.tail _ (.head _)))))))))))))
      have f12 : ¬ (E.int 4) < (E.int 1) := fact_lf (hG.2 _ (.tail _ (.tail _ (.tail _ (.tail _ (.tail _ (.tail _ (.tail _ (.tail _ (.tail _ (.tail _ (.tail _ (.tail _ (.head _))))))))))))))
      exact fun j c a b d e => hk j c a b d e))
  (leavesCons (.never (fun E hG hk => by
      have r1 := hG.1 1 (0, 60) rfl
      have r2 := hG.1 2 (0, 9223372036854775807) rfl
      have r3 := hG.1 3 (0, 60) rfl
      have r4 := hG.1 4 (0, 9223372036854775807) rfl
      have f0 : ¬ (IntKind.i64.wrap (E.row 1 (((E.int 3) * (8 : Int)) + (7 : Int)))) = (0 : Int) := fact_ef (hG.2 _ (.head _))
      have f8 : ((IntKind.u64.wrap (E.row 0 ((E.int 3) * (8 : Int)))).tmod (3 : Int)) = (1 : Int) := fact_et (hG.2 _ (.tail _ (.tail _ (.tail _ (.tail _ (.tail _ (.tail _ (.tail _ (.tail _ (.head _))))))))))
      have f9 : ¬ ((IntKind.u64.wrap (E.row 0 ((E.int 3) * (8 : Int)))).tmod (3 : Int)) = (0 : Int) := fact_ef (hG.2 _ (.tail _ (.tail _ (.tail _ (.tail _ (.tail _ (.tail _ (.tail _ (.tail _ (.tail _ (.head _)))))))))))
      have f10 : (E.int 3) < (E.int 1) := fact_lt (hG.2 _ (.tail _ (.tail _ (.tail _ (.tail _ (.tail _ (.tail _ (.tail _ (.tail _ (.tail _ (.tail _ (.head _))))))))))))
      have f11 : ¬ (E.int 1) < (E.int 3) := fact_lf (hG.2 _ (.tail _ (.tail _ (.tail _ (.tail _ (.tail _ (.tail _ (.tail _ (.tail _ (.tail _ (.tail _ (.tail _ (.head _)))))))))))))
      have f12 : ¬ (E.int 4) < (E.int 1) := fact_lf (hG.2 _ (.tail _ (.tail _ (.tail _ (.tail _ (.tail _ (.tail _ (.tail _ (.tail _ (.tail _ (.tail _ (.tail _ (.tail _ (.head _))))))))))))))
      have fK : kd (E.row 0) (E.int 3) = 1 := f8
      have hc : E.row 1 (((E.int 3) * (8 : Int)) + (7 : Int)) = evc (E.row 0) (E.int 3) 7 := by
        have h := hk (E.int 3) 7 (by omega) (by omega) (by omega) (by omega)
        first | exact h | (rw [Int.add_zero] at h; exact h)
      exact f0 ((congrArg IntKind.i64.wrap hc).trans ((evc_wrap _ _ _).trans (by simp [evc, fK])))))
  (leavesCons (.never (fun E hG hk => by
      have r1 := hG.1 1 (0, 60) rfl
      have r2 := hG.1 2 (0, 9223372036854775807) rfl
      have r3 := hG.1 3 (0, 60) rfl
      have r4 := hG.1 4 (0, 9223372036854775807) rfl
      have f0 : ¬ (IntKind.i64.wrap (E.row 1 (((E.int 3) * (8 : Int)) + (6 : Int)))) = (0 : Int) := fact_ef (hG.2 _ (.head _))
      have f7 : ((IntKind.u64.wrap (E.row 0 ((E.int 3) * (8 : Int)))).tmod (3 : Int)) = (1 : Int) := fact_et (hG.2 _ (.tail _ (.tail _ (.tail _ (.tail _ (.tail _ (.tail _ (.tail _ (.head _)))))))))
      have f8 : ¬ ((IntKind.u64.wrap (E.row 0 ((E.int 3) * (8 : Int)))).tmod (3 : Int)) = (0 : Int) := fact_ef (hG.2 _ (.tail _ (.tail _ (.tail _ (.tail _ (.tail _ (.tail _ (.tail _ (.tail _ (.head _))))))))))
      have f9 : (E.int 3) < (E.int 1) := fact_lt (hG.2 _ (.tail _ (.tail _ (.tail _ (.tail _ (.tail _ (.tail _ (.tail _ (.tail _ (.tail _ (.head _)))))))))))
      have f10 : ¬ (E.int 1) < (E.int 3) := fact_lf (hG.2 _ (.tail _ (.tail _ (.tail _ (.tail _ (.tail _ (.tail _ (.tail _ (.tail _ (.tail _ (.tail _ (.head _))))))))))))
      have f11 : ¬ (E.int 4) < (E.int 1) := fact_lf (hG.2 _ (.tail _ (.tail _ (.tail _ (.tail _ (.tail _ (.tail _ (.tail _ (.tail _ (.tail _ (.tail _ (.tail _ (.head _)))))))))))))
      have fK : kd (E.row 0) (E.int 3) = 1 := f7
      have hc : E.row 1 (((E.int 3) * (8 : Int)) + (6 : Int)) = evc (E.row 0) (E.int 3) 6 := by
        have h := hk (E.int 3) 6 (by omega) (by omega) (by omega) (by omega)
        first | exact h | (rw [Int.add_zero] at h; exact h)
      exact f0 ((congrArg IntKind.i64.wrap hc).trans ((evc_wrap _ _ _).trans (by simp [evc, fK])))))
  (leavesCons (.never (fun E hG hk => by
      have r1 := hG.1 1 (0, 60) rfl
      have r2 := hG.1 2 (0, 9223372036854775807) rfl
      have r3 := hG.1 3 (0, 60) rfl
      have r4 := hG.1 4 (0, 9223372036854775807) rfl
      have f0 : ¬ (IntKind.i64.wrap (E.row 1 (((E.int 3) * (8 : Int)) + (5 : Int)))) = (IntKind.i64.wrap (E.row 0 (((E.int 3) * (8 : Int)) + (5 : Int)))) := fact_ef (hG.2 _ (.head _))
      have f6 : ((IntKind.u64.wrap (E.row 0 ((E.int 3) * (8 : Int)))).tmod (3 : Int)) = (1 : Int) := fact_et (hG.2 _ (.tail _ (.tail _ (.tail _ (.tail _ (.tail _ (.tail _ (.head _))))))))
      have f7 : ¬ ((IntKind.u64.wrap (E.row 0 ((E.int 3) * (8 : Int)))).tmod (3 : Int)) = (0 : Int) := fact_ef (hG.2 _ (.tail _ (.tail _ (.tail _ (.tail _ (.tail _ (.tail _ (.tail _ (.head _)))))))))
      have f8 : (E.int 3) < (E.int 1) := fact_lt (hG.2 _ (.tail _ (.tail _ (.tail _ (.tail _ (.tail _ (.tail _ (.tail _ (.tail _ (.head _))))))))))
      have f9 : ¬ (E.int 1) < (E.int 3) := fact_lf (hG.2 _ (.tail _ (.tail _ (.tail _ (.tail _ (.tail _ (.tail _ (.tail _ (.tail _ (.tail _ (.head _)))))))))))
      have f10 : ¬ (E.int 4) < (E.int 1) := fact_lf (hG.2 _ (.tail _ (.tail _ (.tail _ (.tail _ (.tail _ (.tail _ (.tail _ (.tail _ (.tail _ (.tail _ (.head _))))))))))))
      have fK : kd (E.row 0) (E.int 3) = 1 := f6
      have hc : E.row 1 (((E.int 3) * (8 : Int)) + (5 : Int)) = evc (E.row 0) (E.int 3) 5 := by
        have h := hk (E.int 3) 5 (by omega) (by omega) (by omega) (by omega)
        first | exact h | (rw [Int.add_zero] at h; exact h)
      exact f0 ((congrArg IntKind.i64.wrap hc).trans ((evc_wrap _ _ _).trans (by simp [evc, fK])))))
  (leavesCons (.never (fun E hG hk => by
      have r1 := hG.1 1 (0, 60) rfl
      have r2 := hG.1 2 (0, 9223372036854775807) rfl
      have r3 := hG.1 3 (0, 60) rfl
      have r4 := hG.1 4 (0, 9223372036854775807) rfl
      have f0 : ¬ (IntKind.i64.wrap (E.row 1 (((E.int 3) * (8 : Int)) + (4 : Int)))) = (IntKind.i64.wrap (E.row 0 (((E.int 3) * (8 : Int)) + (4 : Int)))) := fact_ef (hG.2 _ (.head _))
      have f5 : ((IntKind.u64.wrap (E.row 0 ((E.int 3) * (8 : Int)))).tmod (3 : Int)) = (1 : Int) := fact_et (hG.2 _ (.tail _ (.tail _ (.tail _ (.tail _ (.tail _ (.head _)))))))
      have f6 : ¬ ((IntKind.u64.wrap (E.row 0 ((E.int 3) * (8 : Int)))).tmod (3 : Int)) = (0 : Int) := fact_ef (hG.2 _ (.tail _ (.tail _ (.tail _ (.tail _ (.tail _ (.tail _ (.head _))))))))
      have f7 : (E.int 3) < (E.int 1) := fact_lt (hG.2 _ (.tail _ (.tail _ (.tail _ (.tail _ (.tail _ (.tail _ (.tail _ (.head _)))))))))
      have f8 : ¬ (E.int 1) < (E.int 3) := fact_lf (hG.2 _ (.tail _ (.tail _ (.tail _ (.tail _ (.tail _ (.tail _ (.tail _ (.tail _ (.head _))))))))))
      have f9 : ¬ (E.int 4) < (E.int 1) := fact_lf (hG.2 _ (.tail _ (.tail _ (.tail _ (.tail _ (.tail _ (.tail _ (.tail _ (.tail _ (.tail _ (.head _)))))))))))
      have fK : kd (E.row 0) (E.int 3) = 1 := f5
      have hc : E.row 1 (((E.int 3) * (8 : Int)) + (4 : Int)) = evc (E.row 0) (E.int 3) 4 := by
        have h := hk (E.int 3) 4 (by omega) (by omega) (by omega) (by omega)
        first | exact h | (rw [Int.add_zero] at h; exact h)
      exact f0 ((congrArg IntKind.i64.wrap hc).trans ((evc_wrap _ _ _).trans (by simp [evc, fK])))))
  (leavesCons (.never (fun E hG hk => by
      have r1 := hG.1 1 (0, 60) rfl
      have r2 := hG.1 2 (0, 9223372036854775807) rfl
      have r3 := hG.1 3 (0, 60) rfl
      have r4 := hG.1 4 (0, 9223372036854775807) rfl
      have f0 : ¬ (IntKind.i64.wrap (E.row 1 (((E.int 3) * (8 : Int)) + (3 : Int)))) = (IntKind.i64.wrap (E.row 0 (((E.int 3) * (8 : Int)) + (3 : Int)))) := fact_ef (hG.2 _ (.head _))
      have f4 : ((IntKind.u64.wrap (E.row 0 ((E.int 3) * (8 : Int)))).tmod (3 : Int)) = (1 : Int) := fact_et (hG.2 _ (.tail _ (.tail _ (.tail _ (.tail _ (.head _))))))
      have f5 : ¬ ((IntKind.u64.wrap (E.row 0 ((E.int 3) * (8 : Int)))).tmod (3 : Int)) = (0 : Int) := fact_ef (hG.2 _ (.tail _ (.tail _ (.tail _ (.tail _ (.tail _ (.head _)))))))
      have f6 : (E.int 3) < (E.int 1) := fact_lt (hG.2 _ (.tail _ (.tail _ (.tail _ (.tail _ (.tail _ (.tail _ (.head _))))))))
      have f7 : ¬ (E.int 1) < (E.int 3) := fact_lf (hG.2 _ (.tail _ (.tail _ (.tail _ (.tail _ (.tail _ (.tail _ (.tail _ (.head _)))))))))
      have f8 : ¬ (E.int 4) < (E.int 1) := fact_lf (hG.2 _ (.tail _ (.tail _ (.tail _ (.tail _ (.tail _ (.tail _ (.tail _ (.tail _ (.head _))))))))))
      have fK : kd (E.row 0) (E.int 3) = 1 := f4
      have hc : E.row 1 (((E.int 3) * (8 : Int)) + (3 : Int)) = evc (E.row 0) (E.int 3) 3 := by
        have h := hk (E.int 3) 3 (by omega) (by omega) (by omega) (by omega)
        first | exact h | (rw [Int.add_zero] at h; exact h)
      exact f0 ((congrArg IntKind.i64.wrap hc).trans ((evc_wrap _ _ _).trans (by simp [evc, fK])))))
  (leavesCons (.never (fun E hG hk => by
      have r1 := hG.1 1 (0, 60) rfl
      have r2 := hG.1 2 (0, 9223372036854775807) rfl
      have r3 := hG.1 3 (0, 60) rfl
      have r4 := hG.1 4 (0, 9223372036854775807) rfl
      have f0 : ¬ (IntKind.i64.wrap (E.row 1 (((E.int 3) * (8 : Int)) + (2 : Int)))) = (0 : Int) := fact_ef (hG.2 _ (.head _))
      have f3 : ((IntKind.u64.wrap (E.row 0 ((E.int 3) * (8 : Int)))).tmod (3 : Int)) = (1 : Int) := fact_et (hG.2 _ (.tail _ (.tail _ (.tail _ (.head _)))))
      have f4 : ¬ ((IntKind.u64.wrap (E.row 0 ((E.int 3) * (8 : Int)))).tmod (3 : Int)) = (0 : Int) := fact_ef (hG.2 _ (.tail _ (.tail _ (.tail _ (.tail _ (.head _))))))
      have f5 : (E.int 3) < (E.int 1) := fact_lt (hG.2 _ (.tail _ (.tail _ (.tail _ (.tail _ (.tail _ (.head _)))))))
      have f6 : ¬ (E.int 1) < (E.int 3) := fact_lf (hG.2 _ (.tail _ (.tail _ (.tail _ (.tail _ (.tail _ (.tail _ (.head _))))))))
      have f7 : ¬ (E.int 4) < (E.int 1) := fact_lf (hG.2 _ (.tail _ (.tail _ (.tail _ (.tail _ (.tail _ (.tail _ (.tail _ (.head _)))))))))
      have fK : kd (E.row 0) (E.int 3) = 1 := f3
      have hc : E.row 1 (((E.int 3) * (8 : Int)) + (2 : Int)) = evc (E.row 0) (E.int 3) 2 := by
        have h := hk (E.int 3) 2 (by omega) (by omega) (by omega) (by omega)
        first | exact h | (rw [Int.add_zero] at h; exact h)
      exact f0 ((congrArg IntKind.i64.wrap hc).trans ((evc_wrap _ _ _).trans (by simp [evc, fK])))))
  (leavesCons (.never (fun E hG hk => by
      have r1 := hG.1 1 (0, 60) rfl
      have r2 := hG.1 2 (0, 9223372036854775807) rfl
      have r3 := hG.1 3 (0, 60) rfl
      have r4 := hG.1 4 (0, 9223372036854775807) rfl
      have f0 : ¬ (IntKind.i64.wrap (E.row 1 (((E.int 3) * (8 : Int)) + (1 : Int)))) = (IntKind.i64.wrap (E.row 0 (((E.int 3) * (8 : Int)) + (1 : Int)))) := fact_ef (hG.2 _ (.head _))
      have f2 : ((IntKind.u64.wrap (E.row 0 ((E.int 3) * (8 : Int)))).tmod (3 : Int)) = (1 : Int) := fact_et (hG.2 _ (.tail _ (.tail _ (.head _))))
      have f3 : ¬ ((IntKind.u64.wrap (E.row 0 ((E.int 3) * (8 : Int)))).tmod (3 : Int)) = (0 : Int) := fact_ef (hG.2 _ (.tail _ (.tail _ (.tail _ (.head _)))))
      have f4 : (E.int 3) < (E.int 1) := fact_lt (hG.2 _ (.tail _ (.tail _ (.tail _ (.tail _ (.head _))))))
      have f5 : ¬ (E.int 1) < (E.int 3) := fact_lf (hG.2 _ (.tail _ (.tail _ (.tail _ (.tail _ (.tail _ (.head _)))))))
      have f6 : ¬ (E.int 4) < (E.int 1) := fact_lf (hG.2 _ (.tail _ (.tail _ (.tail _ (.tail _ (.tail _ (.tail _ (.head _))))))))
      have fK : kd (E.row 0) (E.int 3) = 1 := f2
      have hc : E.row 1 (((E.int 3) * (8 : Int)) + (1 : Int)) = evc (E.row 0) (E.int 3) 1 := by
        have h := hk (E.int 3) 1 (by omega) (by omega) (by omega) (by omega)
        first | exact h | (rw [Int.add_zero] at h; exact h)
      exact f0 ((congrArg IntKind.i64.wrap hc).trans ((evc_wrap _ _ _).trans (by simp [evc])))))
  (leavesCons (.never (fun E hG hk => by
      have r1 := hG.1 1 (0, 60) rfl
      have r2 := hG.1 2 (0, 9223372036854775807) rfl
      have r3 := hG.1 3 (0, 60) rfl
      have r4 := hG.1 4 (0, 9223372036854775807) rfl
      have f0 : ¬ (IntKind.i64.wrap (E.row 1 ((E.int 3) * (8 : Int)))) = ((IntKind.u64.wrap (E.row 0 ((E.int 3) * (8 : Int)))).tmod (3 : Int)) := fact_ef (hG.2 _ (.head _))
      have f1 : ((IntKind.u64.wrap (E.row 0 ((E.int 3) * (8 : Int)))).tmod (3 : Int)) = (1 : Int) := fact_et (hG.2 _ (.tail _ (.head _)))
      have f2 : ¬ ((IntKind.u64.wrap (E.row 0 ((E.int 3) * (8 : Int)))).tmod (3 : Int)) = (0 : Int) := fact_ef (hG.2 _ (.tail _ (.tail _ (.head _))))
      have f3 : (E.int 3) < (E.int 1) := fact_lt (hG.2 _ (.tail _ (.tail _ (.tail _ (.head _)))))
      have f4 : ¬ (E.int 1) < (E.int 3) := fact_lf (hG.2 _ (.tail _ (.tail _ (.tail _ (.tail _ (.head _))))))
      have f5 : ¬ (E.int 4) < (E.int 1) := fact_lf (hG.2 _ (.tail _ (.tail _ (.tail _ (.tail _ (.tail _ (.head _)))))))
      have fK : kd (E.row 0) (E.int 3) = 1 := f1
      have hc : E.row 1 ((E.int 3) * (8 : Int)) = evc (E.row 0) (E.int 3) 0 := by
        have h := hk (E.int 3) 0 (by omega) (by omega) (by omega) (by omega)
        first | exact h | (rw [Int.add_zero] at h; exact h)
      exact f0 ((congrArg IntKind.i64.wrap hc).trans ((evc_wrap _ _ _).trans (by simp [evc, kd])))))
  (leavesCons (.cut (by kernel_rfl) (fun E hG hk => by
      have r1 := hG.1 1 (0, 60) rfl
      have r2 := hG.1 2 (0, 9223372036854775807) rfl
      have r3 := hG.1 3 (0, 60) rfl
      have r4 := hG.1 4 (0, 9223372036854775807) rfl
      have f0 : (IntKind.i64.wrap (E.row 1 (((E.int 3) * (8 : Int)) + (7 : Int)))) = (IntKind.i64.wrap (E.row 0 (((E.int 3) * (8 : Int)) + (7 : Int)))) := fact_et (hG.2 _ (.head _))
      have f8 : ¬ ((IntKind.u64.wrap (E.row 0 ((E.int 3) * (8 : Int)))).tmod (3 : Int)) = (1 : Int) := fact_ef (hG.2 _ (.tail _ (.tail _ (.tail _ (.tail _ (.tail _ (.tail _ (.tail _ (.tail _ (.head _))))))))))
      have f9 : ¬ ((IntKind.u64.wrap (E.row 0 ((E.int 3) * (8 : Int)))).tmod (3 : Int)) = (0 : Int) := fact_ef (hG.2 _ (.tail _ (.tail _ (.tail _ (.tail _ (.tail _ (.tail _ (.tail _ (.tail _ (.tail _ (.head _)))))))))))
      have f10 : (E.int 3) < (E.int 1) := fact_lt (hG.2 _ (.tail _ (.tail _ (.tail _ (.tail _ (.tail _ (.tail _ (.tail _ (.tail _ (.tail _ (.tail _ (.head _))))))))))))
      have f11 : ¬ (E.int 1) < (E.int 3) := fact_lf (hG.2 _ (.tail _ (.tail _ (.tail _ (.tail _ (.tail _ (.tail _ (.tail _ (.tail _ (.tail _ (.tail _ (.tail _ (.head _)))))))))))))
      have f12 : ¬ (E.int 4) < (E.int 1) := fact_lf (hG.2 _ (.tail _ (.tail _ (.tail _ (.tail _ (.tail _ (.tail _ (.tail _ (.tail _ (.tail _ (.tail _ (.tail _ (.tail _ (.head _))))))))))))))
      exact fun j c a b d e => hk j c a b d e))
  (leavesCons (.never (fun E hG hk => by
      have r1 := hG.1 1 (0, 60) rfl
      have r2 := hG.1 2 (0, 9223372036854775807) rfl
      have r3 := hG.1 3 (0, 60) rfl
      have r4 := hG.1 4 (0, 9223372036854775807) rfl
      have f0 : ¬ (IntKind.i64.wrap (E.row 1 (((E.int 3) * (8 : Int)) + (7 : Int)))) = (IntKind.i64.wrap (E.row 0 (((E.int 3) * (8 : Int)) + (7 : Int)))) := fact_ef (hG.2 _ (.head _))
      have f8 : ¬ ((IntKind.u64.wrap (E.row 0 ((E.int 3) * (8 : Int)))).tmod (3 : Int)) = (1 : Int) := fact_ef (hG.2 _ (.tail _ (.tail _ (.tail _ (.tail _ (.tail _ (.tail _ (.tail _ (.tail _ (.head _))))))))))
      have f9 : ¬ ((IntKind.u64.wrap (E.row 0 ((E.int 3) * (8 : Int)))).tmod (3 : Int)) = (0 : Int) := fact_ef (hG.2 _ (.tail _ (.tail _ (.tail _ (.tail _ (.tail _ (.tail _ (.tail _ (.tail _ (.tail _ (.head _)))))))))))
      have f10 : (E.int 3) < (E.int 1) := fact_lt (hG.2 _ (.tail _ (.tail _ (.tail _ (.tail _ (.tail _ (.tail _ (.tail _ (.tail _ (.tail _ (.tail _ (.head _))))))))))))
      have f11 : ¬ (E.int 1) < (E.int 3) := fact_lf (hG.2 _ (.tail _ (.tail _ (.tail _ (.tail _ (.tail _ (.tail _ (.tail _ (.tail _ (.tail _ (.tail _ (.tail _ (.head _)))))))))))))
      have f12 : ¬ (E.int 4) < (E.int 1) := fact_lf (hG.2 _ (.tail _ (.tail _ (.tail _ (.tail _ (.tail _ (.tail _ (.tail _ (.tail _ (.tail _ (.tail _ (.tail _ (.tail _ (.head _))))))))))))))
      have fK : kd (E.row 0) (E.int 3) = 2 := kd2 f9 f8
      have hc : E.row 1 (((E.int 3) * (8 : Int)) + (7 : Int)) = evc (E.row 0) (E.int 3) 7 := by
        have h := hk (E.int 3) 7 (by omega) (by omega) (by omega) (by omega)
        first | exact h | (rw [Int.add_zero] at h; exact h)
      exact f0 ((congrArg IntKind.i64.wrap hc).trans ((evc_wrap _ _ _).trans (by simp [evc, fK])))))
  (leavesCons (.never (fun E hG hk => by
      have r1 := hG.1 1 (0, 60) rfl
      have r2 := hG.1 2 (0, 9223372036854775807) rfl
      have r3 := hG.1 3 (0, 60) rfl
      have r4 := hG.1 4 (0, 9223372036854775807) rfl
      have f0 : ¬ (IntKind.i64.wrap (E.row 1 (((E.int 3) * (8 : Int)) + (6 : Int)))) = (IntKind.i64.wrap (E.row 0 (((E.int 3) * (8 : Int)) + (6 : Int)))) := fact_ef (hG.2 _ (.head _))
      have f7 : ¬ ((IntKind.u64.wrap (E.row 0 ((E.int 3) * (8 : Int)))).tmod (3 : Int)) = (1 : Int) := fact_ef (hG.2 _ (.tail _ (.tail _ (.tail _ (.tail _ (.tail _ (.tail _ (.tail _ (.head _)))))))))
      have f8 : ¬ ((IntKind.u64.wrap (E.row 0 ((E.int 3) * (8 : Int)))).tmod (3 : Int)) = (0 : Int) := fact_ef (hG.2 _ (.tail _ (.tail _ (.tail _ (.tail _ (.tail _ (.tail _ (.tail _ (.tail _ (.head _))))))))))
      have f9 : (E.int 3) < (E.int 1) := fact_lt (hG.2 _ (.tail _ (.tail _ (.tail _ (.tail _ (.tail _ (.tail _ (.tail _ (.tail _ (.tail _ (.head _)))))))))))
      have f10 : ¬ (E.int 1) < (E.int 3) := fact_lf (hG.2 _ (.tail _ (.tail _ (.tail _ (.tail _ (.tail _ (.tail _ (.tail _ (.tail _ (.tail _ (.tail _ (.head _))))))))))))
      have f11 : ¬ (E.int 4) < (E.int 1) := fact_lf (hG.2 _ (.tail _ (.tail _ (.tail _ (.tail _ (.tail _ (.tail _ (.tail _ (.tail _ (.tail _ (.tail _ (.tail _ (.head _)))))))))))))
      have fK : kd (E.row 0) (E.int 3) = 2 := kd2 f8 f7
      have hc : E.row 1 (((E.int 3) * (8 : Int)) + (6 : Int)) = evc (E.row 0) (E.int 3) 6 := by
        have h := hk (E.int 3) 6 (by omega) (by omega) (by omega) (by omega)
        first | exact h | (rw [Int.add_zero] at h; exact h)
      exact f0 ((congrArg IntKind.i64.wrap hc).trans ((evc_wrap _ _ _).trans (by simp [evc, fK])))))
  (leavesCons (.never (fun E hG hk => by
      have r1 := hG.1 1 (0, 60) rfl
      have r2 := hG.1 2 (0, 9223372036854775807) rfl
      have r3 := hG.1 3 (0, 60) rfl
      have r4 := hG.1 4 (0, 9223372036854775807) rfl
      have f0 : ¬ (IntKind.i64.wrap (E.row 1 (((E.int 3) * (8 : Int)) + (5 : Int)))) = (0 : Int) := fact_ef (hG.2 _ (.head _))
      have f6 : ¬ ((IntKind.u64.wrap (E.row 0 ((E.int 3) * (8 : Int)))).tmod (3 : Int)) = (1 : Int) := fact_ef (hG.2 _ (.tail _ (.tail _ (.tail _ (.tail _ (.tail _ (.tail _ (.head _))))))))
      have f7 : ¬ ((IntKind.u64.wrap (E.row 0 ((E.int 3) * (8 : Int)))).tmod (3 : Int)) = (0 : Int) := fact_ef (hG.2 _ (.tail _ (.tail _ (.tail _ (.tail _ (.tail _ (.tail _ (.tail _ (.head _)))))))))
      have f8 : (E.int 3) < (E.int 1) := fact_lt (hG.2 _ (.tail _ (.tail _ (.tail _ (.tail _ (.tail _ (.tail _ (.tail _ (.tail _ (.head _))))))))))
      have f9 : ¬ (E.int 1) < (E.int 3) := fact_lf (hG.2 _ (.tail _ (.tail _ (.tail _ (.tail _ (.tail _ (.tail _ (.tail _ (.tail _ (.tail _ (.head _)))))))))))
      have f10 : ¬ (E.int 4) < (E.int 1) := fact_lf (hG.2 _ (.tail _ (.tail _ (.tail _ (.tail _ (.tail _ (.tail _ (.tail _ (.tail _ (.tail _ (.tail _ (.head _))))))))))))
      have fK : kd (E.row 0) (E.int 3) = 2 := kd2 f7 f6
      have hc : E.row 1 (((E.int 3) * (8 : Int)) + (5 : Int)) = evc (E.row 0) (E.int 3) 5 := by
        have h := hk (E.int 3) 5 (by omega) (by omega) (by omega) (by omega)
        first | exact h | (rw [Int.add_zero] at h; exact h)
      exact f0 ((congrArg IntKind.i64.wrap hc).trans ((evc_wrap _ _ _).trans (by simp [evc, fK])))))
  (leavesCons (.never (fun E hG hk => by
      have r1 := hG.1 1 (0, 60) rfl
      have r2 := hG.1 2 (0, 9223372036854775807) rfl
      have r3 := hG.1 3 (0, 60) rfl
      have r4 := hG.1 4 (0, 9223372036854775807) rfl
      have f0 : ¬ (IntKind.i64.wrap (E.row 1 (((E.int 3) * (8 : Int)) + (4 : Int)))) = (0 : Int) := fact_ef (hG.2 _ (.head _))
      have f5 : ¬ ((IntKind.u64.wrap (E.row 0 ((E.int 3) * (8 : Int)))).tmod (3 : Int)) = (1 : Int) := fact_ef (hG.2 _ (.tail _ (.tail _ (.tail _ (.tail _ (.tail _ (.head _)))))))
      have f6 : ¬ ((IntKind.u64.wrap (E.row 0 ((E.int 3) * (8 : Int)))).tmod (3 : Int)) = (0 : Int) := fact_ef (hG.2 _ (.tail _ (.tail _ (.tail _ (.tail _ (.tail _ (.tail _ (.head _))))))))
      have f7 : (E.int 3) < (E.int 1) := fact_lt (hG.2 _ (.tail _ (.tail _ (.tail _ (.tail _ (.tail _ (.tail _ (.tail _ (.head _)))))))))
      have f8 : ¬ (E.int 1) < (E.int 3) := fact_lf (hG.2 _ (.tail _ (.tail _ (.tail _ (.tail _ (.tail _ (.tail _ (.tail _ (.tail _ (.head _))))))))))
      have f9 : ¬ (E.int 4) < (E.int 1) := fact_lf (hG.2 _ (.tail _ (.tail _ (.tail _ (.tail _ (.tail _ (.tail _ (.tail _ (.tail _ (.tail _ (.head _)))))))))))
      have fK : kd (E.row 0) (E.int 3) = 2 := kd2 f6 f5
      have hc : E.row 1 (((E.int 3) * (8 : Int)) + (4 : Int)) = evc (E.row 0) (E.int 3) 4 := by
        have h := hk (E.int 3) 4 (by omega) (by omega) (by omega) (by omega)
        first | exact h | (rw [Int.add_zero] at h; exact h)
      exact f0 ((congrArg IntKind.i64.wrap hc).trans ((evc_wrap _ _ _).trans (by simp [evc, fK])))))
  (leavesCons (.never (fun E hG hk => by
      have r1 := hG.1 1 (0, 60) rfl
      have r2 := hG.1 2 (0, 9223372036854775807) rfl
      have r3 := hG.1 3 (0, 60) rfl
      have r4 := hG.1 4 (0, 9223372036854775807) rfl
      have f0 : ¬ (IntKind.i64.wrap (E.row 1 (((E.int 3) * (8 : Int)) + (3 : Int)))) = (0 : Int) := fact_ef (hG.2 _ (.head _))
      have f4 : ¬ ((IntKind.u64.wrap (E.row 0 ((E.int 3) * (8 : Int)))).tmod (3 : Int)) = (1 : Int) := fact_ef (hG.2 _ (.tail _ (.tail _ (.tail _ (.tail _ (.head _))))))
      have f5 : ¬ ((IntKind.u64.wrap (E.row 0 ((E.int 3) * (8 : Int)))).tmod (3 : Int)) = (0 : Int) := fact_ef (hG.2 _ (.tail _ (.tail _ (.tail _ (.tail _ (.tail _ (.head _)))))))
      have f6 : (E.int 3) < (E.int 1) := fact_lt (hG.2 _ (.tail _ (.tail _ (.tail _ (.tail _ (.tail _ (.tail _ (.head _))))))))
      have f7 : ¬ (E.int 1) < (E.int 3) := fact_lf (hG.2 _ (.tail _ (.tail _ (.tail _ (.tail _ (.tail _ (.tail _ (.tail _ (.head _)))))))))
      have f8 : ¬ (E.int 4) < (E.int 1) := fact_lf (hG.2 _ (.tail _ (.tail _ (.tail _ (.tail _ (.tail _ (.tail _ (.tail _ (.tail _ (.head _))))))))))
      have fK : kd (E.row 0) (E.int 3) = 2 := kd2 f5 f4
      have hc : E.row 1 (((E.int 3) * (8 : Int)) + (3 : Int)) = evc (E.row 0) (E.int 3) 3 := by
        have h := hk (E.int 3) 3 (by omega) (by omega) (by omega) (by omega)
        first | exact h | (rw [Int.add_zero] at h; exact h)
      exact f0 ((congrArg IntKind.i64.wrap hc).trans ((evc_wrap _ _ _).trans (by simp [evc, fK])))))
  (leavesCons (.never (fun E hG hk => by
      have r1 := hG.1 1 (0, 60) rfl
      have r2 := hG.1 2 (0, 9223372036854775807) rfl
      have r3 := hG.1 3 (0, 60) rfl
      have r4 := hG.1 4 (0, 9223372036854775807) rfl
      have f0 : ¬ (IntKind.i64.wrap (E.row 1 (((E.int 3) * (8 : Int)) + (2 : Int)))) = (IntKind.i64.wrap (E.row 0 (((E.int 3) * (8 : Int)) + (2 : Int)))) := fact_ef (hG.2 _ (.head _))
      have f3 : ¬ ((IntKind.u64.wrap (E.row 0 ((E.int 3) * (8 : Int)))).tmod (3 : Int)) = (1 : Int) := fact_ef (hG.2 _ (.tail _ (.tail _ (.tail _ (.head _)))))
      have f4 : ¬ ((IntKind.u64.wrap (E.row 0 ((E.int 3) * (8 : Int)))).tmod (3 : Int)) = (0 : Int) := fact_ef (hG.2 _ (.tail _ (.tail _ (.tail _ (.tail _ (.head _))))))
      have f5 : (E.int 3) < (E.int 1) := fact_lt (hG.2 _ (.tail _ (.tail _ (.tail _ (.tail _ (.tail _ (.head _)))))))
      have f6 : ¬ (E.int 1) < (E.int 3) := fact_lf (hG.2 _ (.tail _ (.tail _ (.tail _ (.tail _ (.tail _ (.tail _ (.head _))))))))
      have f7 : ¬ (E.int 4) < (E.int 1) := fact_lf (hG.2 _ (.tail _ (.tail _ (.tail _ (.tail _ (.tail _ (.tail _ (.tail _ (.head _)))))))))
      have fK : kd (E.row 0) (E.int 3) = 2 := kd2 f4 f3
      have hc : E.row 1 (((E.int 3) * (8 : Int)) + (2 : Int)) = evc (E.row 0) (E.int 3) 2 := by
        have h := hk (E.int 3) 2 (by omega) (by omega) (by omega) (by omega)
        first | exact h | (rw [Int.add_zero] at h; exact h)
      exact f0 ((congrArg IntKind.i64.wrap hc).trans ((evc_wrap _ _ _).trans (by simp [evc, fK])))))
  (leavesCons (.never (fun E hG hk => by
      have r1 := hG.1 1 (0, 60) rfl
      have r2 := hG.1 2 (0, 9223372036854775807) rfl
      have r3 := hG.1 3 (0, 60) rfl
      have r4 := hG.1 4 (0, 9223372036854775807) rfl
      have f0 : ¬ (IntKind.i64.wrap (E.row 1 (((E.int 3) * (8 : Int)) + (1 : Int)))) = (IntKind.i64.wrap (E.row 0 (((E.int 3) * (8 : Int)) + (1 : Int)))) := fact_ef (hG.2 _ (.head _))
      have f2 : ¬ ((IntKind.u64.wrap (E.row 0 ((E.int 3) * (8 : Int)))).tmod (3 : Int)) = (1 : Int) := fact_ef (hG.2 _ (.tail _ (.tail _ (.head _))))
      have f3 : ¬ ((IntKind.u64.wrap (E.row 0 ((E.int 3) * (8 : Int)))).tmod (3 : Int)) = (0 : Int) := fact_ef (hG.2 _ (.tail _ (.tail _ (.tail _ (.head _)))))
      have f4 : (E.int 3) < (E.int 1) := fact_lt (hG.2 _ (.tail _ (.tail _ (.tail _ (.tail _ (.head _))))))
      have f5 : ¬ (E.int 1) < (E.int 3) := fact_lf (hG.2 _ (.tail _ (.tail _ (.tail _ (.tail _ (.tail _ (.head _)))))))
      have f6 : ¬ (E.int 4) < (E.int 1) := fact_lf (hG.2 _ (.tail _ (.tail _ (.tail _ (.tail _ (.tail _ (.tail _ (.head _))))))))
      have fK : kd (E.row 0) (E.int 3) = 2 := kd2 f3 f2
      have hc : E.row 1 (((E.int 3) * (8 : Int)) + (1 : Int)) = evc (E.row 0) (E.int 3) 1 := by
        have h := hk (E.int 3) 1 (by omega) (by omega) (by omega) (by omega)
        first | exact h | (rw [Int.add_zero] at h; exact h)
      exact f0 ((congrArg IntKind.i64.wrap hc).trans ((evc_wrap _ _ _).trans (by simp [evc])))))
  (leavesCons (.never (fun E hG hk => by
      have r1 := hG.1 1 (0, 60) rfl
      have r2 := hG.1 2 (0, 9223372036854775807) rfl
      have r3 := hG.1 3 (0, 60) rfl
      have r4 := hG.1 4 (0, 9223372036854775807) rfl
      have f0 : ¬ (IntKind.i64.wrap (E.row 1 ((E.int 3) * (8 : Int)))) = ((IntKind.u64.wrap (E.row 0 ((E.int 3) * (8 : Int)))).tmod (3 : Int)) := fact_ef (hG.2 _ (.head _))
      have f1 : ¬ ((IntKind.u64.wrap (E.row 0 ((E.int 3) * (8 : Int)))).tmod (3 : Int)) = (1 : Int) := fact_ef (hG.2 _ (.tail _ (.head _)))
      have f2 : ¬ ((IntKind.u64.wrap (E.row 0 ((E.int 3) * (8 : Int)))).tmod (3 : Int)) = (0 : Int) := fact_ef (hG.2 _ (.tail _ (.tail _ (.head _))))
      have f3 : (E.int 3) < (E.int 1) := fact_lt (hG.2 _ (.tail _ (.tail _ (.tail _ (.head _)))))
      have f4 : ¬ (E.int 1) < (E.int 3) := fact_lf (hG.2 _ (.tail _ (.tail _ (.tail _ (.tail _ (.head _))))))
      have f5 : ¬ (E.int 4) < (E.int 1) := fact_lf (hG.2 _ (.tail _ (.tail _ (.tail _ (.tail _ (.tail _ (.head _)))))))
      have fK : kd (E.row 0) (E.int 3) = 2 := kd2 f2 f1
      have hc : E.row 1 ((E.int 3) * (8 : Int)) = evc (E.row 0) (E.int 3) 0 := by
        have h := hk (E.int 3) 0 (by omega) (by omega) (by omega) (by omega)
        first | exact h | (rw [Int.add_zero] at h; exact h)
      exact f0 ((congrArg IntKind.i64.wrap hc).trans ((evc_wrap _ _ _).trans (by simp [evc, kd])))))
  (leavesCons (.fin (by kernel_rfl))
  leavesNil))))))))))))))))))))))))))))
def d1 : List (List (SB × Bool) × Leaf) := [
  ([((.lss (.var 4) (.add (.var 3) (.lit 1))), true), ((.lss (.add (.var 1) (.lit (-1))) (.var 3)), false), ((.lss (.add (.var 3) (.lit 1)) (.var 4)), false), ((.lss (.var 5) (.var 1)), false)], .cut 1 [(.var 0), (.var 1), (.var 2), (.var 3), (.add (.var 4) (.lit 1)), (.var 5)] [] [(.row 0), (.upd (.row 1) (.add (.mul (.var 4) (.lit 8)) (.lit 1)) (.lit (-7))), (.row 2)]),
  ([((.lss (.var 4) (.add (.var 3) (.lit 1))), false), ((.lss (.add (.var 1) (.lit (-1))) (.var 3)), false), ((.lss (.add (.var 3) (.lit 1)) (.var 4)), false), ((.lss (.var 5) (.var 1)), false)], .cut 2 [(.var 0), (.var 1), (.var 2), (.add (.var 3) (.lit 1)), (.var 5)] [] [(.row 0), (.row 2)])]
theorem q1 : PartΦ Try.prog cuts φ 1 m1 true g1 t1.cfg := .of 1000000 d1 (by kernel_rfl) (by kernel_rfl)
  (leavesCons (.cut (by kernel_rfl) (fun E hG hk => by
      have r1 := hG.1 1 (0, 60) rfl
      have r2 := hG.1 2 (0, 9223372036854775807) rfl
      have r3 := hG.1 3 (0, 60) rfl
      have r4 := hG.1 4 (0, 61) rfl
      have r5 := hG.1 5 (0, 9223372036854775807) rfl
      have f0 : (E.int 4) < ((E.int 3) + (1 : Int)) := fact_lt (hG.2 _ (.head _))
      have f1 : ¬ ((E.int 1) + (-1 : Int)) < (E.int 3) := fact_lf (hG.2 _ (.tail _ (.head _)))
      have f2 : ¬ ((E.int 3) + (1 : Int)) < (E.int 4) := fact_lf (hG.2 _ (.tail _ (.tail _ (.head _))))
      have f3 : ¬ (E.int 5) < (E.int 1) := fact_lf (hG.2 _ (.tail _ (.tail _ (.tail _ (.head _)))))
      exact fun j c a b d e => hk j c a b d e))
  (leavesCons (.cut (by kernel_rfl) (fun E hG hk => by
      have r1 := hG.1 1 (0, 60) rfl
      have r2 := hG.1 2 (0, 9223372036854775807) rfl
      have r3 := hG.1 3 (0, 60) rfl
      have r4 := hG.1 4 (0, 61) rfl
      have r5 := hG.1 5 (0, 9223372036854775807) rfl
      have f0 : ¬ (E.int 4) < ((E.int 3) + (1 : Int)) := fact_lf (hG.2 _ (.head _))
      have f1 : ¬ ((E.int 1) + (-1 : Int)) < (E.int 3) := fact_lf (hG.2 _ (.tail _ (.head _)))
      have f2 : ¬ ((E.int 3) + (1 : Int)) < (E.int 4) := fact_lf (hG.2 _ (.tail _ (.tail _ (.head _))))
      have f3 : ¬ (E.int 5) < (E.int 1) := fact_lf (hG.2 _ (.tail _ (.tail _ (.tail _ (.head _)))))
      exact fun j c a b d e => hk j c a b d e))
  leavesNil))

end
end Go.Proofs.Ytndjepdfgegdkaa.groundLogs
