/- Parts of the plan for the law GroundLogs: each is one kernel run. -/
import Derived.Test.YtndjepdfgegdkaaGroundLogsPlan
set_option linter.unusedVariables false
namespace Go.Proofs.Ytndjepdfgegdkaa.groundLogs
open Go Go.Ev
noncomputable section

def d0 : List (List (SB × Bool) × Leaf) := [
  ([h20, ((.lss (.lit 60) (.var 1)), true), h42, h29], .cut 1 [(.var 0), (.lit 60), (.var 2), (.lit 0), (.lit 1), (.var 1)] [] [(.row 0), (.upd (.upd (.upd (.upd (.upd (.con 0) (.lit 1) (.lit (-7))) (.lit 2) (.sel .i64 (.row 0) (.lit 2))) (.lit 3) (.sel .i64 (.row 0) (.lit 3))) (.lit 4) (.sel .i64 (.row 0) (.lit 4))) (.lit 5) (.sel .i64 (.row 0) (.lit 5))), (.upd (.upd (.upd (.upd (.upd (.con 0) (.lit 1) (.sel .i64 (.row 0) (.lit 1))) (.lit 2) (.sel .i64 (.row 0) (.lit 2))) (.lit 3) (.sel .i64 (.row 0) (.lit 3))) (.lit 4) (.sel .i64 (.row 0) (.lit 4))) (.lit 5) (.sel .i64 (.row 0) (.lit 5)))]),
  ([h21, h8, ((.lss (.lit 60) (.var 1)), true), h42, h29], .cut 1 [(.var 0), (.lit 60), (.var 2), (.lit 0), (.lit 1), (.var 1)] [] [(.row 0), (.upd (.upd (.upd (.upd (.upd (.con 0) (.lit 0) (.lit 1)) (.lit 1) (.lit (-7))) (.lit 3) (.sel .i64 (.row 0) (.lit 3))) (.lit 4) (.sel .i64 (.row 0) (.lit 4))) (.lit 5) (.sel .i64 (.row 0) (.lit 5))), (.upd (.upd (.upd (.upd (.upd (.con 0) (.lit 0) (.lit 1)) (.lit 1) (.sel .i64 (.row 0) (.lit 1))) (.lit 3) (.sel .i64 (.row 0) (.lit 3))) (.lit 4) (.sel .i64 (.row 0) (.lit 4))) (.lit 5) (.sel .i64 (.row 0) (.lit 5)))]),
  ([h19, h8, ((.lss (.lit 60) (.var 1)), true), h42, h29], .cut 1 [(.var 0), (.lit 60), (.var 2), (.lit 0), (.lit 1), (.var 1)] [] [(.row 0), (.upd (.upd (.upd (.upd (.upd (.con 0) (.lit 0) (.lit 2)) (.lit 1) (.lit (-7))) (.lit 2) (.sel .i64 (.row 0) (.lit 2))) (.lit 6) (.sel .i64 (.row 0) (.lit 6))) (.lit 7) (.sel .i64 (.row 0) (.lit 7))), (.upd (.upd (.upd (.upd (.upd (.con 0) (.lit 0) (.lit 2)) (.lit 1) (.sel .i64 (.row 0) (.lit 1))) (.lit 2) (.sel .i64 (.row 0) (.lit 2))) (.lit 6) (.sel .i64 (.row 0) (.lit 6))) (.lit 7) (.sel .i64 (.row 0) (.lit 7)))]),
  ([((.eql (.var 2) (.lit 0)), true), h39, h42, h29], .fin (.eql (.lit 0) (.var 1))),
  ([h20, ((.lss (.lit 0) (.var 1)), true), h41, h39, h42, h29], .cut 1 [(.var 0), (.var 1), (.var 2), (.lit 0), (.lit 1), (.var 1)] [] [(.row 0), (.upd (.upd (.upd (.upd (.upd (.con 0) (.lit 1) (.lit (-7))) (.lit 2) (.sel .i64 (.row 0) (.lit 2))) (.lit 3) (.sel .i64 (.row 0) (.lit 3))) (.lit 4) (.sel .i64 (.row 0) (.lit 4))) (.lit 5) (.sel .i64 (.row 0) (.lit 5))), (.upd (.upd (.upd (.upd (.upd (.con 0) (.lit 1) (.sel .i64 (.row 0) (.lit 1))) (.lit 2) (.sel .i64 (.row 0) (.lit 2))) (.lit 3) (.sel .i64 (.row 0) (.lit 3))) (.lit 4) (.sel .i64 (.row 0) (.lit 4))) (.lit 5) (.sel .i64 (.row 0) (.lit 5)))]),
  ([h21, h8, ((.lss (.lit 0) (.var 1)), true), h41, h39, h42, h29], .cut 1 [(.var 0), (.var 1), (.var 2), (.lit 0), (.lit 1), (.var 1)] [] [(.row 0), (.upd (.upd (.upd (.upd (.upd (.con 0) (.lit 0) (.lit 1)) (.lit 1) (.lit (-7))) (.lit 3) (.sel .i64 (.row 0) (.lit 3))) (.lit 4) (.sel .i64 (.row 0) (.lit 4))) (.lit 5) (.sel .i64 (.row 0) (.lit 5))), (.upd (.upd (.upd (.upd (.upd (.con 0) (.lit 0) (.lit 1)) (.lit 1) (.sel .i64 (.row 0) (.lit 1))) (.lit 3) (.sel .i64 (.row 0) (.lit 3))) (.lit 4) (.sel .i64 (.row 0) (.lit 4))) (.lit 5) (.sel .i64 (.row 0) (.lit 5)))]),
  ([h19, h8, ((.lss (.lit 0) (.var 1)), true), h41, h39, h42, h29], .cut 1 [(.var 0), (.var 1), (.var 2), (.lit 0), (.lit 1), (.var 1)] [] [(.row 0), (.upd (.upd (.upd (.upd (.upd (.con 0) (.lit 0) (.lit 2)) (.lit 1) (.lit (-7))) (.lit 2) (.sel .i64 (.row 0) (.lit 2))) (.lit 6) (.sel .i64 (.row 0) (.lit 6))) (.lit 7) (.sel .i64 (.row 0) (.lit 7))), (.upd (.upd (.upd (.upd (.upd (.con 0) (.lit 0) (.lit 2)) (.lit 1) (.sel .i64 (.row 0) (.lit 1))) (.lit 2) (.sel .i64 (.row 0) (.lit 2))) (.lit 6) (.sel .i64 (.row 0) (.lit 6))) (.lit 7) (.sel .i64 (.row 0) (.lit 7)))]),
  ([((.lss (.lit 0) (.var 1)), false), h41, h39, h42, h29], .fin (.eql (.lit 0) (.var 1))),
  ([((.var 1), true), ((.var 0), false), h29], .fin (.lit true)),
  ([((.var 1), false), ((.var 0), false), h29], .fin (.lit true))]
theorem q0 : PartΦ Try.prog cuts φ 0 ⟨3, none, 0, none, 0, none⟩ true g0 t0.cfg := .of 1000000 d0 (by kernel_rfl) (by kernel_rfl)
  (leavesCons (.cut (by kernel_rfl) (fun E hG hk => by
      have r1 := hG.1 1 (0, 9223372036854775807) rfl
      have r2 := hG.1 2 (0, 9223372036854775807) rfl
      have f0 : ((IntKind.u64.wrap (E.row 0 (0 : Int))).tmod (3 : Int)) = (0 : Int) := fact_et (hG.2 _ (.head _))
      have f1 : (60 : Int) < (E.int 1) := fact_lt (hG.2 _ (.tail _ (.head _)))
      have f2 : E.bool 0 = true := fact_v (hG.2 _ (.tail _ (.tail _ (.head _))))
      have f3 : ¬ (E.int 2) < (E.int 1) := fact_lf (hG.2 _ (.tail _ (.tail _ (.tail _ (.head _)))))
      have fK : kd (E.row 0) (0 : Int) = 0 := f0
      have key : ∀ j c, 0 ≤ j → j < (0 : Int) + 1 → 0 ≤ c → c < 8 → SI.cells E (.upd (.upd (.upd (.upd (.upd (.con 0) (.lit 1) (.sel .i64 (.row 0) (.lit 1))) (.lit 2) (.sel .i64 (.row 0) (.lit 2))) (.lit 3) (.sel .i64 (.row 0) (.lit 3))) (.lit 4) (.sel .i64 (.row 0) (.lit 4))) (.lit 5) (.sel .i64 (.row 0) (.lit 5))) (j * 8 + c) = evc (E.row 0) j c := by
        intro j c h1 h2 h3 h4
        have hj : j = 0 := by omega
        subst hj
        have hc : c = 0 ∨ c = 1 ∨ c = 2 ∨ c = 3 ∨ c = 4 ∨ c = 5 ∨ c = 6 ∨ c = 7 := by omega
        rcases hc with rfl | rfl | rfl | rfl | rfl | rfl | rfl | rfl <;> simp [SI.cells, SI.den, evc, fK]
      exact key))
  (leavesCons (.cut (by kernel_rfl) (fun E hG hk => by
      have r1 := hG.1 1 (0, 9223372036854775807) rfl
      have r2 := hG.1 2 (0, 9223372036854775807) rfl
      have f0 : ((IntKind.u64.wrap (E.row 0 (0 : Int))).tmod (3 : Int)) = (1 : Int) := fact_et (hG.2 _ (.head _))
      have f1 : ¬ ((IntKind.u64.wrap (E.row 0 (0 : Int))).tmod (3 : Int)) = (0 : Int) := fact_ef (hG.2 _ (.tail _ (.head _)))
      have f2 : (60 : Int) < (E.int 1) := fact_lt (hG.2 _ (.tail _ (.tail _ (.head _))))
      have f3 : E.bool 0 = true := fact_v (hG.2 _ (.tail _ (.tail _ (.tail _ (.head _)))))
      have f4 : ¬ (E.int 2) < (E.int 1) := fact_lf (hG.2 _ (.tail _ (.tail _ (.tail _ (.tail _ (.head _))))))
      have fK : kd (E.row 0) (0 : Int) = 1 := f0
      have key : ∀ j c, 0 ≤ j → j < (0 : Int) + 1 → 0 ≤ c → c < 8 → SI.cells E (.upd (.upd (.upd (.upd (.upd (.con 0) (.lit 0) (.lit 1)) (.lit 1) (.sel .i64 (.row 0) (.lit 1))) (.lit 3) (.sel .i64 (.row 0) (.lit 3))) (.lit 4) (.sel .i64 (.row 0) (.lit 4))) (.lit 5) (.sel .i64 (.row 0) (.lit 5))) (j * 8 + c) = evc (E.row 0) j c := by
        intro j c h1 h2 h3 h4
        have hj : j = 0 := by omega
        subst hj
        have hc : c = 0 ∨ c = 1 ∨ c = 2 ∨ c = 3 ∨ c = 4 ∨ c = 5 ∨ c = 6 ∨ c = 7 := by omega
        rcases hc with rfl | rfl | rfl | rfl | rfl | rfl | rfl | rfl <;> simp [SI.cells, SI.den, evc, fK]
      exact key))
  (leavesCons (.cut (by kernel_rfl) (fun E hG hk => by
      have r1 := hG.1 1 (0, 9223372036854775807) rfl
      have r2 := hG.1 2 (0, 9223372036854775807) rfl
      have f0 : ¬ ((IntKind.u64.wrap (E.row 0 (0 : Int))).tmod (3 : Int)) = (1 : Int) := fact_ef (hG.2 _ (.head _))
      have f1 : ¬ ((IntKind.u64.wrap (E.row 0 (0 : Int))).tmod (3 : Int)) = (0 : Int) := fact_ef (hG.2 _ (.tail _ (.head _)))
      have f2 : (60 : Int) < (E.int 1) := fact_lt (hG.2 _ (.tail _ (.tail _ (.head _))))
      have f3 : E.bool 0 = true := fact_v (hG.2 _ (.tail _ (.tail _ (.tail _ (.head _)))))
      have f4 : ¬ (E.int 2) < (E.int 1) := fact_lf (hG.2 _ (.tail _ (.tail _ (.tail _ (.tail _ (.head _))))))
      have fK : kd (E.row 0) (0 : Int) = 2 := kd2 f1 f0
      have key : ∀ j c, 0 ≤ j → j < (0 : Int) + 1 → 0 ≤ c → c < 8 → SI.cells E (.upd (.upd (.upd (.upd (.upd (.con 0) (.lit 0) (.lit 2)) (.lit 1) (.sel .i64 (.row 0) (.lit 1))) (.lit 2) (.sel .i64 (.row 0) (.lit 2))) (.lit 6) (.sel .i64 (.row 0) (.lit 6))) (.lit 7) (.sel .i64 (.row 0) (.lit 7))) (j * 8 + c) = evc (E.row 0) j c := by
        intro j c h1 h2 h3 h4
        have hj : j = 0 := by omega
        subst hj
        have hc : c = 0 ∨ c = 1 ∨ c = 2 ∨ c = 3 ∨ c = 4 ∨ c = 5 ∨ c = 6 ∨ c = 7 := by omega
        rcases hc with rfl | rfl | rfl | rfl | rfl | rfl | rfl | rfl <;> simp [SI.cells, SI.den, evc, fK]
      exact key))
  (leavesCons (.fin (by kernel_rfl))
  (leavesCons (.cut (by kernel_rfl) (fun E hG hk => by
      have r1 := hG.1 1 (0, 9223372036854775807) rfl
      have r2 := hG.1 2 (0, 9223372036854775807) rfl
      have f0 : ((IntKind.u64.wrap (E.row 0 (0 : Int))).tmod (3 : Int)) = (0 : Int) := fact_et (hG.2 _ (.head _))
      have f1 : (0 : Int) < (E.int 1) := fact_lt (hG.2 _ (.tail _ (.head _)))
      have f2 : ¬ (E.int 2) = (0 : Int) := fact_ef (hG.2 _ (.tail _ (.tail _ (.head _))))
      have f3 : ¬ (60 : Int) < (E.int 1) := fact_lf (hG.2 _ (.tail _ (.tail _ (.tail _ (.head _)))))
      have f4 : E.bool 0 = true := fact_v (hG.2 _ (.tail _ (.tail _ (.tail _ (.tail _ (.head _))))))
      have f5 : ¬ (E.int 2) < (E.int 1) := fact_lf (hG.2 _ (.tail _ (.tail _ (.tail _ (.tail _ (.tail _ (.head _)))))))
      have fK : kd (E.row 0) (0 : Int) = 0 := f0
      have key : ∀ j c, 0 ≤ j → j < (0 : Int) + 1 → 0 ≤ c → c < 8 → SI.cells E (.upd (.upd (.upd (.upd (.upd (.con 0) (.lit 1) (.sel .i64 (.row 0) (.lit 1))) (.lit 2) (.sel .i64 (.row 0) (.lit 2))) (.lit 3) (.sel .i64 (.row 0) (.lit 3))) (.lit 4) (.sel .i64 (.row 0) (.lit 4))) (.lit 5) (.sel .i64 (.row 0) (.lit 5))) (j * 8 + c) = evc (E.row 0) j c := by
        intro j c h1 h2 h3 h4
        have hj : j = 0 := by omega
        subst hj
        have hc : c = 0 ∨ c = 1 ∨ c = 2 ∨ c = 3 ∨ c = 4 ∨ c = 5 ∨ c = 6 ∨ c = 7 := by omega
        rcases hc with rfl | rfl | rfl | rfl | rfl | rfl | rfl | rfl <;> simp [SI.cells, SI.den, evc, fK]
      exact key))
  (leavesCons (.cut (by kernel_rfl) (fun E hG hk => by
      have r1 := hG.1 1 (0, 9223372036854775807) rfl
      have r2 := hG.1 2 (0, 9223372036854775807) rfl
      have f0 : ((IntKind.u64.wrap (E.row 0 (0 : Int))).tmod (3 : Int)) = (1 : Int) := fact_et (hG.2 _ (.head _))
      have f1 : ¬ ((IntKind.u64.wrap (E.row 0 (0 : Int))).tmod (3 : Int)) = (0 : Int) := fact_ef (hG.2 _ (.tail _ (.head _)))
      have f2 : (0 : Int) < (E.int 1) := fact_lt (hG.2 _ (.tail _ (.tail _ (.head _))))
      have f3 : ¬ (E.int 2) = (0 : Int) := fact_ef (hG.2 _ (.tail _ (.tail _ (.tail _ (.head _)))))
      have f4 : ¬ (60 : Int) < (E.int 1) := fact_lf (hG.2 _ (.tail _ (.tail _ (.tail _ (.tail _ (.head _))))))
      have f5 : E.bool 0 = true := fact_v (hG.2 _ (.tail _ (.tail _ (.tail _ (.tail _ (.tail _ (.head _)))))))
      have f6 : ¬ (E.int 2) < (E.int 1) := fact_lf (hG.2 _ (.tail _ (.tail _ (.tail _ (.tail _ (.tail _ (.tail _ (.head _))))))))
      have fK : kd (E.row 0) (0 : Int) = 1 := f0
      have key : ∀ j c, 0 ≤ j → j < (0 : Int) + 1 → 0 ≤ c → c < 8 → SI.cells E (.upd (.upd (.upd (.upd (.upd (.con 0) (.lit 0) (.lit 1)) (.lit 1) (.sel .i64 (.row 0) (.lit 1))) (.lit 3) (.sel .i64 (.row 0) (.lit 3))) (.lit 4) (.sel .i64 (.row 0) (.lit 4))) (.lit 5) (.sel .i64 (.row 0) (.lit 5))) (j * 8 + c) = evc (E.row 0) j c := by
        intro j c h1 h2 h3 h4
        have hj : j = 0 := by omega
        subst hj
        have hc : c = 0 ∨ c = 1 ∨ c = 2 ∨ c = 3 ∨ c = 4 ∨ c = 5 ∨ c = 6 ∨ c = 7 := by omega
        rcases hc with rfl | rfl | rfl | rfl | rfl | rfl | rfl | rfl <;> simp [SI.cells, SI.den, evc, fK]
      exact key))
  (leavesCons (.cut (by kernel_rfl) (fun E hG hk => by
      have r1 := hG.1 1 (0, 9223372036854775807) rfl
      have r2 := hG.1 2 (0, 9223372036854775807) rfl
      have f0 : ¬ ((IntKind.u64.wrap (E.row 0 (0 : Int))).tmod (3 : Int)) = (1 : Int) := fact_ef (hG.2 _ (.head _))
      have f1 : ¬ ((IntKind.u64.wrap (E.row 0 (0 : Int))).tmod (3 : Int)) = (0 : Int) := fact_ef (hG.2 _ (.tail _ (.head _)))
      have f2 : (0 : Int) < (E.int 1) := fact_lt (hG.2 _ (.tail _ (.tail _ (.head _))))
      have f3 : ¬ (E.int 2) = (0 : Int) := fact_ef (hG.2 _ (.tail _ (.tail _ (.tail _ (.head _)))))
      have f4 : ¬ (60 : Int) < (E.int 1) := fact_lf (hG.2 _ (.tail _ (.tail _ (.tail _ (.tail _ (.head _))))))
      have f5 : E.bool 0 = true := fact_v (hG.2 _ (.tail _ (.tail _ (.tail _ (.tail _ (.tail _ (.head _)))))))
      have f6 : ¬ (E.int 2) < (E.int 1) := fact_lf (hG.2 _ (.tail _ (.tail _ (.tail _ (.tail _ (.tail _ (.tail _ (.head _))))))))
      have fK : kd (E.row 0) (0 : Int) = 2 := kd2 f1 f0
      have key : ∀ j c, 0 ≤ j → j < (0 : Int) + 1 → 0 ≤ c → c < 8 → SI.cells E (.upd (.upd (.upd (.upd (.upd (.con 0) (.lit 0) (.lit 2)) (.lit 1) (.sel .i64 (.row 0) (.lit 1))) (.lit 2) (.sel .i64 (.row 0) (.lit 2))) (.lit 6) (.sel .i64 (.row 0) (.lit 6))) (.lit 7) (.sel .i64 (.row 0) (.lit 7))) (j * 8 + c) = evc (E.row 0) j c := by
        intro j c h1 h2 h3 h4
        have hj : j = 0 := by omega
        subst hj
        have hc : c = 0 ∨ c = 1 ∨ c = 2 ∨ c = 3 ∨ c = 4 ∨ c = 5 ∨ c = 6 ∨ c = 7 := by omega
        rcases hc with rfl | rfl | rfl | rfl | rfl | rfl | rfl | rfl <;> simp [SI.cells, SI.den, evc, fK]
      exact key))
  (leavesCons (.fin (by kernel_rfl))
  (leavesCons (.fin (by kernel_rfl))
  (leavesCons (.fin (by kernel_rfl))
  leavesNil))))))))))

end
end Go.Proofs.Ytndjepdfgegdkaa.groundLogs
