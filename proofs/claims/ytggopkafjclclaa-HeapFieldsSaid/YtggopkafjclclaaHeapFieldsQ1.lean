/- Parts of the plan for the law HeapFields: each is one kernel run. -/
import Derived.Test.YtggopkafjclclaaHeapFieldsPlan
set_option linter.unusedVariables false
namespace Go.Proofs.Ytggopkafjclclaa.heapFields
open Go Go.Ev
noncomputable section

def ds : List (List (SB × Bool) × Leaf) := [
  ([((.eql (.var 15) (.lit 0)), true), h9, h0, h11, h2], .cut 0 [(.lit 0), (.lit 0), (.lit 1), (.add (.add (.mul (.rem (.var 0) (.lit 20)) (.lit 8)) (.rem (.var 3) (.lit 8))) (.lit 1)), (.wrap .u64 (.var 12)), (.add (.add (.mul (.rem (.var 6) (.lit 20)) (.lit 8)) (.rem (.var 9) (.lit 8))) (.lit 1)), (.wrap .u64 (.var 15))] [] []),
  ([((.eql (.var 15) (.lit 0)), false), h9, h0, h11, h2], .cut 0 [(.lit 1), (.lit 0), (.lit 1), (.add (.add (.mul (.rem (.var 0) (.lit 20)) (.lit 8)) (.rem (.var 3) (.lit 8))) (.lit 1)), (.wrap .u64 (.var 12)), (.add (.add (.mul (.rem (.var 6) (.lit 20)) (.lit 8)) (.rem (.var 9) (.lit 8))) (.lit 1)), (.wrap .u64 (.var 15))] [] []),
  ([h3, h0, h11, h2], .cut 0 [(.lit 0), (.lit 0), (.lit 1), (.add (.add (.mul (.rem (.var 0) (.lit 20)) (.lit 8)) (.rem (.var 3) (.lit 8))) (.lit 1)), (.wrap .u64 (.var 12)), (.add (.add (.mul (.rem (.var 6) (.lit 20)) (.lit 8)) (.rem (.var 9) (.lit 8))) (.lit 1)), (.wrap .u64 (.var 15))] [] []),
  ([h7, h11, h2], .cut 0 [(.lit 0), (.lit 0), (.lit 1), (.add (.add (.mul (.rem (.var 0) (.lit 20)) (.lit 8)) (.rem (.var 3) (.lit 8))) (.lit 1)), (.wrap .u64 (.var 12)), (.add (.add (.mul (.rem (.var 6) (.lit 20)) (.lit 8)) (.rem (.var 9) (.lit 8))) (.lit 1)), (.wrap .u64 (.var 15))] [] []),
  ([((.eql (.var 15) (.lit 0)), true), h9, h0, h4, h2], .cut 0 [(.lit 0), (.lit 0), (.lit 1), (.add (.add (.mul (.rem (.var 0) (.lit 20)) (.lit 8)) (.rem (.var 3) (.lit 8))) (.lit 1)), (.wrap .u64 (.var 12)), (.add (.add (.mul (.rem (.var 6) (.lit 20)) (.lit 8)) (.rem (.var 9) (.lit 8))) (.lit 1)), (.wrap .u64 (.var 15))] [] []),
  ([((.eql (.var 15) (.lit 0)), false), h9, h0, h4, h2], .cut 0 [(.lit 1), (.lit 0), (.lit 1), (.add (.add (.mul (.rem (.var 0) (.lit 20)) (.lit 8)) (.rem (.var 3) (.lit 8))) (.lit 1)), (.wrap .u64 (.var 12)), (.add (.add (.mul (.rem (.var 6) (.lit 20)) (.lit 8)) (.rem (.var 9) (.lit 8))) (.lit 1)), (.wrap .u64 (.var 15))] [] []),
  ([((.eql (.var 12) (.lit 0)), true), h10, h3, h0, h4, h2], .cut 0 [(.lit 0), (.lit 0), (.lit 1), (.add (.add (.mul (.rem (.var 0) (.lit 20)) (.lit 8)) (.rem (.var 3) (.lit 8))) (.lit 1)), (.wrap .u64 (.var 12)), (.add (.add (.mul (.rem (.var 6) (.lit 20)) (.lit 8)) (.rem (.var 9) (.lit 8))) (.lit 1)), (.wrap .u64 (.var 15))] [] []),
  ([((.eql (.var 12) (.lit 0)), false), h10, h3, h0, h4, h2], .cut 0 [(.lit 1), (.lit 0), (.lit 1), (.add (.add (.mul (.rem (.var 0) (.lit 20)) (.lit 8)) (.rem (.var 3) (.lit 8))) (.lit 1)), (.wrap .u64 (.var 12)), (.add (.add (.mul (.rem (.var 6) (.lit 20)) (.lit 8)) (.rem (.var 9) (.lit 8))) (.lit 1)), (.wrap .u64 (.var 15))] [] []),
  ([h16, h3, h0, h4, h2], .cut 0 [(.lit 0), (.lit 0), (.lit 1), (.add (.add (.mul (.rem (.var 0) (.lit 20)) (.lit 8)) (.rem (.var 3) (.lit 8))) (.lit 1)), (.wrap .u64 (.var 12)), (.add (.add (.mul (.rem (.var 6) (.lit 20)) (.lit 8)) (.rem (.var 9) (.lit 8))) (.lit 1)), (.wrap .u64 (.var 15))] [] []),
  ([h7, h4, h2], .cut 0 [(.lit 0), (.lit 0), (.lit 1), (.add (.add (.mul (.rem (.var 0) (.lit 20)) (.lit 8)) (.rem (.var 3) (.lit 8))) (.lit 1)), (.wrap .u64 (.var 12)), (.add (.add (.mul (.rem (.var 6) (.lit 20)) (.lit 8)) (.rem (.var 9) (.lit 8))) (.lit 1)), (.wrap .u64 (.var 15))] [] []),
  ([((.eql (.var 15) (.lit 0)), true), h9, h0, h1], .cut 0 [(.lit 0), (.lit 0), (.lit 1), (.add (.add (.mul (.rem (.var 0) (.lit 20)) (.lit 8)) (.rem (.var 3) (.lit 8))) (.lit 1)), (.wrap .u64 (.var 12)), (.add (.add (.mul (.rem (.var 6) (.lit 20)) (.lit 8)) (.rem (.var 9) (.lit 8))) (.lit 1)), (.wrap .u64 (.var 15))] [] []),
  ([((.eql (.var 15) (.lit 0)), false), h9, h0, h1], .cut 0 [(.lit 1), (.lit 0), (.lit 1), (.add (.add (.mul (.rem (.var 0) (.lit 20)) (.lit 8)) (.rem (.var 3) (.lit 8))) (.lit 1)), (.wrap .u64 (.var 12)), (.add (.add (.mul (.rem (.var 6) (.lit 20)) (.lit 8)) (.rem (.var 9) (.lit 8))) (.lit 1)), (.wrap .u64 (.var 15))] [] []),
  ([((.eql (.var 12) (.lit 0)), true), h10, h8, h3, h0, h1], .cut 0 [(.lit 0), (.lit 0), (.lit 1), (.add (.add (.mul (.rem (.var 0) (.lit 20)) (.lit 8)) (.rem (.var 3) (.lit 8))) (.lit 1)), (.wrap .u64 (.var 12)), (.add (.add (.mul (.rem (.var 6) (.lit 20)) (.lit 8)) (.rem (.var 9) (.lit 8))) (.lit 1)), (.wrap .u64 (.var 15))] [] []),
  ([((.eql (.var 12) (.lit 0)), false), h10, h8, h3, h0, h1], .cut 0 [(.lit 1), (.lit 0), (.lit 1), (.add (.add (.mul (.rem (.var 0) (.lit 20)) (.lit 8)) (.rem (.var 3) (.lit 8))) (.lit 1)), (.wrap .u64 (.var 12)), (.add (.add (.mul (.rem (.var 6) (.lit 20)) (.lit 8)) (.rem (.var 9) (.lit 8))) (.lit 1)), (.wrap .u64 (.var 15))] [] []),
  ([h16, h8, h3, h0, h1], .cut 0 [(.lit 0), (.lit 0), (.lit 1), (.add (.add (.mul (.rem (.var 0) (.lit 20)) (.lit 8)) (.rem (.var 3) (.lit 8))) (.lit 1)), (.wrap .u64 (.var 12)), (.add (.add (.mul (.rem (.var 6) (.lit 20)) (.lit 8)) (.rem (.var 9) (.lit 8))) (.lit 1)), (.wrap .u64 (.var 15))] [] []),
  ([((.eql (.rem (.var 0) (.lit 20)) (.lit 0)), false), h3, h0, h1], .cut 0 [(.lit 0), (.lit 0), (.lit 1), (.add (.add (.mul (.rem (.var 0) (.lit 20)) (.lit 8)) (.rem (.var 3) (.lit 8))) (.lit 1)), (.wrap .u64 (.var 12)), (.add (.add (.mul (.rem (.var 6) (.lit 20)) (.lit 8)) (.rem (.var 9) (.lit 8))) (.lit 1)), (.wrap .u64 (.var 15))] [] []),
  ([((.eql (.var 12) (.lit 0)), true), h10, h8, h7, h1], .cut 0 [(.lit 0), (.lit 0), (.lit 1), (.add (.add (.mul (.rem (.var 0) (.lit 20)) (.lit 8)) (.rem (.var 3) (.lit 8))) (.lit 1)), (.wrap .u64 (.var 12)), (.add (.add (.mul (.rem (.var 6) (.lit 20)) (.lit 8)) (.rem (.var 9) (.lit 8))) (.lit 1)), (.wrap .u64 (.var 15))] [] []),
  ([((.eql (.var 12) (.lit 0)), false), h10, h8, h7, h1], .cut 0 [(.lit 1), (.lit 0), (.lit 1), (.add (.add (.mul (.rem (.var 0) (.lit 20)) (.lit 8)) (.rem (.var 3) (.lit 8))) (.lit 1)), (.wrap .u64 (.var 12)), (.add (.add (.mul (.rem (.var 6) (.lit 20)) (.lit 8)) (.rem (.var 9) (.lit 8))) (.lit 1)), (.wrap .u64 (.var 15))] [] []),
  ([h16, h8, h7, h1], .cut 0 [(.lit 0), (.lit 0), (.lit 1), (.add (.add (.mul (.rem (.var 0) (.lit 20)) (.lit 8)) (.rem (.var 3) (.lit 8))) (.lit 1)), (.wrap .u64 (.var 12)), (.add (.add (.mul (.rem (.var 6) (.lit 20)) (.lit 8)) (.rem (.var 9) (.lit 8))) (.lit 1)), (.wrap .u64 (.var 15))] [] []),
  ([((.eql (.rem (.var 0) (.lit 20)) (.lit 0)), false), h7, h1], .cut 0 [(.lit 0), (.lit 0), (.lit 1), (.add (.add (.mul (.rem (.var 0) (.lit 20)) (.lit 8)) (.rem (.var 3) (.lit 8))) (.lit 1)), (.wrap .u64 (.var 12)), (.add (.add (.mul (.rem (.var 6) (.lit 20)) (.lit 8)) (.rem (.var 9) (.lit 8))) (.lit 1)), (.wrap .u64 (.var 15))] [] [])]
theorem qs : PartΦ Try.prog cuts φ 2 { rank := top } false (Go.Ev.ctxP shape) (Go.Ev.startP Try.prog 5 shape) := .of 1000000 ds (by kernel_rfl) (by kernel_rfl)
  (leavesCons (.cut (by kernel_rfl) (fun E hG hk => by
      have f0 : (E.int 15) = (0 : Int) := fact_et (hG.2 _ (.head _))
      have f1 : ((E.int 9).tmod (8 : Int)) = (0 : Int) := fact_et (hG.2 _ (.tail _ (.head _)))
      have f2 : ((E.int 6).tmod (20 : Int)) = (0 : Int) := fact_et (hG.2 _ (.tail _ (.tail _ (.head _))))
      have f3 : ((E.int 3).tmod (8 : Int)) = ((E.int 9).tmod (8 : Int)) := fact_et (hG.2 _ (.tail _ (.tail _ (.tail _ (.head _)))))
      have f4 : ((E.int 0).tmod (20 : Int)) = ((E.int 6).tmod (20 : Int)) := fact_et (hG.2 _ (.tail _ (.tail _ (.tail _ (.tail _ (.head _))))))
      simp only [φ, inst_int, nthS_zero, nthS_succ, SI.den]
      omega))
  (leavesCons (.cut (by kernel_rfl) (fun E hG hk => by
      have f0 : ¬ (E.int 15) = (0 : Int) := fact_ef (hG.2 _ (.head _))
      have f1 : ((E.int 9).tmod (8 : Int)) = (0 : Int) := fact_et (hG.2 _ (.tail _ (.head _)))
      have f2 : ((E.int 6).tmod (20 : Int)) = (0 : Int) := fact_et (hG.2 _ (.tail _ (.tail _ (.head _))))
      have f3 : ((E.int 3).tmod (8 : Int)) = ((E.int 9).tmod (8 : Int)) := fact_et (hG.2 _ (.tail _ (.tail _ (.tail _ (.head _)))))
      have f4 : ((E.int 0).tmod (20 : Int)) = ((E.int 6).tmod (20 : Int)) := fact_et (hG.2 _ (.tail _ (.tail _ (.tail _ (.tail _ (.head _))))))
      simp only [φ, inst_int, nthS_zero, nthS_succ, SI.den]
      omega))
  (leavesCons (.cut (by kernel_rfl) (fun E hG hk => by
      have f0 : ¬ ((E.int 9).tmod (8 : Int)) = (0 : Int) := fact_ef (hG.2 _ (.head _))
      have f1 : ((E.int 6).tmod (20 : Int)) = (0 : Int) := fact_et (hG.2 _ (.tail _ (.head _)))
      have f2 : ((E.int 3).tmod (8 : Int)) = ((E.int 9).tmod (8 : Int)) := fact_et (hG.2 _ (.tail _ (.tail _ (.head _))))
      have f3 : ((E.int 0).tmod (20 : Int)) = ((E.int 6).tmod (20 : Int)) := fact_et (hG.2 _ (.tail _ (.tail _ (.tail _ (.head _)))))
      simp only [φ, inst_int, nthS_zero, nthS_succ, SI.den]
      omega))
  (leavesCons (.cut (by kernel_rfl) (fun E hG hk => by
      have f0 : ¬ ((E.int 6).tmod (20 : Int)) = (0 : Int) := fact_ef (hG.2 _ (.head _))
      have f1 : ((E.int 3).tmod (8 : Int)) = ((E.int 9).tmod (8 : Int)) := fact_et (hG.2 _ (.tail _ (.head _)))
      have f2 : ((E.int 0).tmod (20 : Int)) = ((E.int 6).tmod (20 : Int)) := fact_et (hG.2 _ (.tail _ (.tail _ (.head _))))
      simp only [φ, inst_int, nthS_zero, nthS_succ, SI.den]
      omega))
  (leavesCons (.cut (by kernel_rfl) (fun E hG hk => by
      have f0 : (E.int 15) = (0 : Int) := fact_et (hG.2 _ (.head _))
      have f1 : ((E.int 9).tmod (8 : Int)) = (0 : Int) := fact_et (hG.2 _ (.tail _ (.head _)))
      have f2 : ((E.int 6).tmod (20 : Int)) = (0 : Int) := fact_et (hG.2 _ (.tail _ (.tail _ (.head _))))
      have f3 : ¬ ((E.int 3).tmod (8 : Int)) = ((E.int 9).tmod (8 : Int)) := fact_ef (hG.2 _ (.tail _ (.tail _ (.tail _ (.head _)))))
      have f4 : ((E.int 0).tmod (20 : Int)) = ((E.int 6).tmod (20 : Int)) := fact_et (hG.2 _ (.tail _ (.tail _ (.tail _ (.tail _ (.head _))))))
      simp only [φ, inst_int, nthS_zero, nthS_succ, SI.den]
      omega))
  (leavesCons (.cut (by kernel_rfl) (fun E hG hk => by
      have f0 : ¬ (E.int 15) = (0 : Int) := fact_ef (hG.2 _ (.head _))
      have f1 : ((E.int 9).tmod (8 : Int)) = (0 : Int) := fact_et (hG.2 _ (.tail _ (.head _)))
      have f2 : ((E.int 6).tmod (20 : Int)) = (0 : Int) := fact_et (hG.2 _ (.tail _ (.tail _ (.head _))))
      have f3 : ¬ ((E.int 3).tmod (8 : Int)) = ((E.int 9).tmod (8 : Int)) := fact_ef (hG.2 _ (.tail _ (.tail _ (.tail _ (.head _)))))
      have f4 : ((E.int 0).tmod (20 : Int)) = ((E.int 6).tmod (20 : Int)) := fact_et (hG.2 _ (.tail _ (.tail _ (.tail _ (.tail _ (.head _))))))
      simp only [φ, inst_int, nthS_zero, nthS_succ, SI.den]
      omega))
  (leavesCons (.cut (by kernel_rfl) (fun E hG hk => by
      have f0 : (E.int 12) = (0 : Int) := fact_et (hG.2 _ (.head _))
      have f1 : ((E.int 3).tmod (8 : Int)) = (0 : Int) := fact_et (hG.2 _ (.tail _ (.head _)))
      have f2 : ¬ ((E.int 9).tmod (8 : Int)) = (0 : Int) := fact_ef (hG.2 _ (.tail _ (.tail _ (.head _))))
      have f3 : ((E.int 6).tmod (20 : Int)) = (0 : Int) := fact_et (hG.2 _ (.tail _ (.tail _ (.tail _ (.head _)))))
      have f4 : ¬ ((E.int 3).tmod (8 : Int)) = ((E.int 9).tmod (8 : Int)) := fact_ef (hG.2 _ (.tail _ (.tail _ (.tail _ (.tail _ (.head _))))))
      have f5 : ((E.int 0).tmod (20 : Int)) = ((E.int 6).tmod (20 : Int)) := fact_et (hG.2 _ (.tail _ (.tail _ (.tail _ (.tail _ (.tail _ (.head _)))))))
      simp only [φ, inst_int, nthS_zero, nthS_succ, SI.den]
      omega))
  (leavesCons (.cut (by kernel_rfl) (fun E hG hk => by
      have f0 : ¬ (E.int 12) = (0 : Int) := fact_ef (hG.2 _ (.head _))
      have f1 : ((E.int 3).tmod (8 : Int)) = (0 : Int) := fact_et (hG.2 _ (.tail _ (.head _)))
      have f2 : ¬ ((E.int 9).tmod (8 : Int)) = (0 : Int) := fact_ef (hG.2 _ (.tail _ (.tail _ (.head _))))
      have f3 : ((E.int 6).tmod (20 : Int)) = (0 : Int) := fact_et (hG.2 _ (.tail _ (.tail _ (.tail _ (.head _)))))
      have f4 : ¬ ((E.int 3).tmod (8 : Int)) = ((E.int 9).tmod (8 : Int)) := fact_ef (hG.2 _ (.tail _ (.tail _ (.tail _ (.tail _ (.head _))))))
      have f5 : ((E.int 0).tmod (20 : Int)) = ((E.int 6).tmod (20 : Int)) := fact_et (hG.2 _ (.tail _ (.tail _ (.tail _ (.tail _ (.tail _ (.head _)))))))
      simp only [φ, inst_int, nthS_zero, nthS_succ, SI.den]
      omega))
  (leavesCons (.cut (by kernel_rfl) (fun E hG hk => by
      have f0 : ¬ ((E.int 3).tmod (8 : Int)) = (0 : Int) := fact_ef (hG.2 _ (.head _))
      have f1 : ¬ ((E.int 9).tmod (8 : Int)) = (0 : Int) := fact_ef (hG.2 _ (.tail _ (.head _)))
      have f2 : ((E.int 6).tmod (20 : Int)) = (0 : Int) := fact_et (hG.2 _ (.tail _ (.tail _ (.head _))))
      have f3 : ¬ ((E.int 3).tmod (8 : Int)) = ((E.int 9).tmod (8 : Int)) := fact_ef (hG.2 _ (.tail _ (.tail _ (.tail _ (.head _)))))
      have f4 : ((E.int 0).tmod (20 : Int)) = ((E.int 6).tmod (20 : Int)) := fact_et (hG.2 _ (.tail _ (.tail _ (.tail _ (.tail _ (.head _))))))
      simp only [φ, inst_int, nthS_zero, nthS_succ, SI.den]
      omega))
  (leavesCons (.cut (by kernel_rfl) (fun E hG hk => by
      have f0 : ¬ ((E.int 6).tmod (20 : Int)) = (0 : Int) := fact_ef (hG.2 _ (.head _))
      have f1 : ¬ ((E.int 3).tmod (8 : Int)) = ((E.int 9).tmod (8 : Int)) := fact_ef (hG.2 _ (.tail _ (.head _)))
      have f2 : ((E.int 0).tmod (20 : Int)) = ((E.int 6).tmod (20 : Int)) := fact_et (hG.2 _ (.tail _ (.tail _ (.head _))))
      simp only [φ, inst_int, nthS_zero, nthS_succ, SI.den]
      omega))
  (leavesCons (.cut (by kernel_rfl) (fun E hG hk => by
      have f0 : (E.int 15) = (0 : Int) := fact_et (hG.2 _ (.head _))
      have f1 : ((E.int 9).tmod (8 : Int)) = (0 : Int) := fact_et (hG.2 _ (.tail _ (.head _)))
      have f2 : ((E.int 6).tmod (20 : Int)) = (0 : Int) := fact_et (hG.2 _ (.tail _ (.tail _ (.head _))))
      have f3 : ¬ ((E.int 0).tmod (20 : Int)) = ((E.int 6).tmod (20 : Int)) := fact_ef (hG.2 _ (.tail _ (.tail _ (.tail _ (.head _)))))
      simp only [φ, inst_int, nthS_zero, nthS_succ, SI.den]
      omega))
  (leavesCons (.cut (by kernel_rfl) (fun E hG hk => by
      have f0 : ¬ (E.int 15) = (0 : Int) := fact_ef (hG.2 _ (.head _))
      have f1 : ((E.int 9).tmod (8 : Int)) = (0 : Int) := fact_et (hG.2 _ (.tail _ (.head _)))
      have f2 : ((E.int 6).tmod (20 : Int)) = (0 : Int) := fact_et (hG.2 _ (.tail _ (.tail _ (.head _))))
      have f3 : ¬ ((E.int 0).tmod (20 : Int)) = ((E.int 6).tmod (20 : Int)) := fact_ef (hG.2 _ (.tail _ (.tail _ (.tail _ (.head _)))))
      simp only [φ, inst_int, nthS_zero, nthS_succ, SI.den]
      omega))
  (leavesCons (.cut (by kernel_rfl) (fun E hG hk => by
      have f0 : (E.int 12) = (0 : Int) := fact_et (hG.2 _ (.head _))
      have f1 : ((E.int 3).tmod (8 : Int)) = (0 : Int) := fact_et (hG.2 _ (.tail _ (.head _)))
      have f2 : ((E.int 0).tmod (20 : Int)) = (0 : Int) := fact_et (hG.2 _ (.tail _ (.tail _ (.head _))))
      have f3 : ¬ ((E.int 9).tmod (8 : Int)) = (0 : Int) := fact_ef (hG.2 _ (.tail _ (.tail _ (.tail _ (.head _)))))
      have f4 : ((E.int 6).tmod (20 : Int)) = (0 : Int) := fact_et (hG.2 _ (.tail _ (.tail _ (.tail _ (.tail _ (.head _))))))
      have f5 : ¬ ((E.int 0).tmod (20 : Int)) = ((E.int 6).tmod (20 : Int)) := fact_ef (hG.2 _ (.tail _ (.tail _ (.tail _ (.tail _ (.tail _ (.head _)))))))
      simp only [φ, inst_int, nthS_zero, nthS_succ, SI.den]
      omega))
  (leavesCons (.cut (by kernel_rfl) (fun E hG hk => by
      have f0 : ¬ (E.int 12) = (0 : Int) := fact_ef (hG.2 _ (.head _))
      have f1 : ((E.int 3).tmod (8 : Int)) = (0 : Int) := fact_et (hG.2 _ (.tail _ (.head _)))
      have f2 : ((E.int 0).tmod (20 : Int)) = (0 : Int) := fact_et (hG.2 _ (.tail _ (.tail _ (.head _))))
      have f3 : ¬ ((E.int 9).tmod (8 : Int)) = (0 : Int) := fact_ef (hG.2 _ (.tail _ (.tail _ (.tail _ (.head _)))))
      have f4 : ((E.int 6).tmod (20 : Int)) = (0 : Int) := fact_et (hG.2 _ (.tail _ (.tail _ (.tail _ (.tail _ (.head _))))))
      have f5 : ¬ ((E.int 0).tmod (20 : Int)) = ((E.int 6).tmod (20 : Int)) := fact_ef (hG.2 _ (.tail _ (.tail _ (.tail _ (.tail _ (.tail _ (.head _)))))))
      simp only [φ, inst_int, nthS_zero, nthS_succ, SI.den]
      omega))
  (leavesCons (.cut (by kernel_rfl) (fun E hG hk => by
      have f0 : ¬ ((E.int 3).tmod (8 : Int)) = (0 : Int) := fact_ef (hG.2 _ (.head _))
      have f1 : ((E.int 0).tmod (20 : Int)) = (0 : Int) := fact_et (hG.2 _ (.tail _ (.head _)))
      have f2 : ¬ ((E.int 9).tmod (8 : Int)) = (0 : Int) := fact_ef (hG.2 _ (.tail _ (.tail _ (.head _))))
      have f3 : ((E.int 6).tmod (20 : Int)) = (0 : Int) := fact_et (hG.2 _ (.tail _ (.tail _ (.tail _ (.head _)))))
      have f4 : ¬ ((E.int 0).tmod (20 : Int)) = ((E.int 6).tmod (20 : Int)) := fact_ef (hG.2 _ (.tail _ (.tail _ (.tail _ (.tail _ (.head _))))))
      simp only [φ, inst_int, nthS_zero, nthS_succ, SI.den]
      omega))
  (leavesCons (.cut (by kernel_rfl) (fun E hG hk => by
      have f0 : ¬ ((E.int 0).tmod (20 : Int)) = (0 : Int) := fact_ef (hG.2 _ (.head _))
      have f1 : ¬ ((E.int 9).tmod (8 : Int)) = (0 : Int) := fact_ef (hG.2 _ (.tail _ (.head _)))
      have f2 : ((E.int 6).tmod (20 : Int)) = (0 : Int) := fact_et (hG.2 _ (.tail _ (.tail _ (.head _))))
      have f3 : ¬ ((E.int 0).tmod (20 : Int)) = ((E.int 6).tmod (20 : Int)) := fact_ef (hG.2 _ (.tail _ (.tail _ (.tail _ (.head _)))))
      simp only [φ, inst_int, nthS_zero, nthS_succ, SI.den]
      omega))
  (leavesCons (.cut (by kernel_rfl) (fun E hG hk => by
      have f0 : (E.int 12) = (0 : Int) := fact_et (hG.2 _ (.head _))
      have f1 : ((E.int 3).tmod (8 : Int)) = (0 : Int) := fact_et (hG.2 _ (.tail _ (.head _)))
      have f2 : ((E.int 0).tmod (20 : Int)) = (0 : Int) := fact_et (hG.2 _ (.tail _ (.tail _ (.head _))))
      have f3 : ¬ ((E.int 6).tmod (20 : Int)) = (0 : Int) := fact_ef (hG.2 _ (.tail _ (.tail _ (.tail _ (.head _)))))
      have f4 : ¬ ((E.int 0).tmod (20 : Int)) = ((E.int 6).tmod (20 : Int)) := fact_ef (hG.2 _ (.tail _ (.tail _ (.tail _ (.tail _ (.head _))))))
      simp only [φ, inst_int, nthS_zero, nthS_succ, SI.den]
      omega))
  (leavesCons (.cut (by kernel_rfl) (fun E hG hk => by
      have f0 : ¬ (E.int 12) = (0 : Int) := fact_ef (hG.2 _ (.head _))
      have f1 : ((E.int 3).tmod (8 : Int)) = (0 : Int) := fact_et (hG.2 _ (.tail _ (.head _)))
      have f2 : ((E.int 0).tmod (20 : Int)) = (0 : Int) := fact_et (hG.2 _ (.tail _ (.tail _ (.head _))))
      have f3 : ¬ ((E.int 6).tmod (20 : Int)) = (0 : Int) := fact_ef (hG.2 _ (.tail _ (.tail _ (.tail _ (.head _)))))
      have f4 : ¬ ((E.int 0).tmod (20 : Int)) = ((E.int 6).tmod (20 : Int)) := fact_ef (hG.2 _ (.tail _ (.tail _ (.tail _ (.tail _ (.head _))))))
      simp only [φ, inst_int, nthS_zero, nthS_succ, SI.den]
      omega))
  (leavesCons (.cut (by kernel_rfl) (fun E hG hk => by
      have f0 : ¬ ((E.int 3).tmod (8 : Int)) = (0 : Int) := fact_ef (hG.2 _ (.head _))
      have f1 : ((E.int 0).tmod (20 : Int)) = (0 : Int) := fact_et (hG.2 _ (.tail _ (.head _)))
      have f2 : ¬ ((E.int 6).tmod (20 : Int)) = (0 : Int) := fact_ef (hG.2 _ (.tail _ (.tail _ (.head _))))
      have f3 : ¬ ((E.int 0).tmod (20 : Int)) = ((E.int 6).tmod (20 : Int)) := fact_ef (hG.2 _ (.tail _ (.tail _ (.tail _ (.head _)))))
      simp only [φ, inst_int, nthS_zero, nthS_succ, SI.den]
      omega))
  (leavesCons (.cut (by kernel_rfl) (fun E hG hk => by
      have f0 : ¬ ((E.int 0).tmod (20 : Int)) = (0 : Int) := fact_ef (hG.2 _ (.head _))
      have f1 : ¬ ((E.int 6).tmod (20 : Int)) = (0 : Int) := fact_ef (hG.2 _ (.tail _ (.head _)))
      have f2 : ¬ ((E.int 0).tmod (20 : Int)) = ((E.int 6).tmod (20 : Int)) := fact_ef (hG.2 _ (.tail _ (.tail _ (.head _))))
      simp only [φ, inst_int, nthS_zero, nthS_succ, SI.den]
      omega))
  leavesNil))))))))))))))))))))
def d1 : List (List (SB × Bool) × Leaf) := [
  ([((.eql (.wrap .i64 (.var 5)) (.lit 0)), true), ((.eql (.add (.mul (.var 1) (.lit 8)) (.lit 1)) (.var 4)), true), h14, h6], .cut 0 [(.var 0), (.var 1), (.lit 1), (.var 2), (.var 3), (.var 4), (.var 5)] [] []),
  ([((.eql (.wrap .i64 (.var 5)) (.lit 0)), false), ((.eql (.add (.mul (.var 1) (.lit 8)) (.lit 1)) (.var 4)), true), h14, h6], .cut 0 [(.add (.var 0) (.lit 1)), (.var 1), (.lit 1), (.var 2), (.var 3), (.var 4), (.var 5)] [] []),
  ([((.eql (.wrap .i64 (.var 3)) (.lit 0)), true), ((.eql (.add (.mul (.var 1) (.lit 8)) (.lit 1)) (.var 2)), true), h13, h14, h6], .cut 0 [(.var 0), (.var 1), (.lit 1), (.var 2), (.var 3), (.var 4), (.var 5)] [] []),
  ([((.eql (.wrap .i64 (.var 3)) (.lit 0)), false), ((.eql (.add (.mul (.var 1) (.lit 8)) (.lit 1)) (.var 2)), true), h13, h14, h6], .cut 0 [(.add (.var 0) (.lit 1)), (.var 1), (.lit 1), (.var 2), (.var 3), (.var 4), (.var 5)] [] []),
  ([((.eql (.add (.mul (.var 1) (.lit 8)) (.lit 1)) (.var 2)), false), h13, h14, h6], .cut 0 [(.var 0), (.var 1), (.lit 1), (.var 2), (.var 3), (.var 4), (.var 5)] [] []),
  ([((.lss (.lit 2) (.var 0)), true), ((.lss (.var 1) (.lit 20)), false), h6], .fin (.lit false)),
  ([((.lss (.lit 2) (.var 0)), false), ((.lss (.var 1) (.lit 20)), false), h6], .fin (.lit true))]
theorem q1 : PartΦ Try.prog cuts φ 1 m1 true g1 t1.cfg := .of 1000000 d1 (by kernel_rfl) (by kernel_rfl)
  (leavesCons (.cut (by kernel_rfl) (fun E hG hk => by
      have r0 := hG.1 0 (0, 1000) rfl
      have r1 := hG.1 1 (0, 20) rfl
      have r2 := hG.1 2 (1, 160) rfl
      have r3 := hG.1 3 (0, 18446744073709551615) rfl
      have r4 := hG.1 4 (1, 160) rfl
      have r5 := hG.1 5 (0, 18446744073709551615) rfl
      have f0 : (IntKind.i64.wrap (E.int 5)) = (0 : Int) := fact_et (hG.2 _ (.head _))
      have f1 : (((E.int 1) * (8 : Int)) + (1 : Int)) = (E.int 4) := fact_et (hG.2 _ (.tail _ (.head _)))
      have f2 : (E.int 1) < (20 : Int) := fact_lt (hG.2 _ (.tail _ (.tail _ (.head _))))
      have f3 : ¬ ((E.int 1) * (8 : Int)) < (E.int 0) := fact_lf (hG.2 _ (.tail _ (.tail _ (.tail _ (.head _)))))
      simp only [φ] at hk
      simp only [φ, inst_int, nthS_zero, nthS_succ, SI.den]
      omega))
  (leavesCons (.cut (by kernel_rfl) (fun E hG hk => by
      have r0 := hG.1 0 (0, 1000) rfl
      have r1 := hG.1 1 (0, 20) rfl
      have r2 := hG.1 2 (1, 160) rfl
      have r3 := hG.1 3 (0, 18446744073709551615) rfl
      have r4 := hG.1 4 (1, 160) rfl
      have r5 := hG.1 5 (0, 18446744073709551615) rfl
      have f0 : ¬ (IntKind.i64.wrap (E.int 5)) = (0 : Int) := fact_ef (hG.2 _ (.head _))
      have f1 : (((E.int 1) * (8 : Int)) + (1 : Int)) = (E.int 4) := fact_et (hG.2 _ (.tail _ (.head _)))
      have f2 : (E.int 1) < (20 : Int) := fact_lt (hG.2 _ (.tail _ (.tail _ (.head _))))
      have f3 : ¬ ((E.int 1) * (8 : Int)) < (E.int 0) := fact_lf (hG.2 _ (.tail _ (.tail _ (.tail _ (.head _)))))
      simp only [φ] at hk
      simp only [φ, inst_int, nthS_zero, nthS_succ, SI.den]
      omega))
  (leavesCons (.cut (by kernel_rfl) (fun E hG hk => by
      have r0 := hG.1 0 (0, 1000) rfl
      have r1 := hG.1 1 (0, 20) rfl
      have r2 := hG.1 2 (1, 160) rfl
      have r3 := hG.1 3 (0, 18446744073709551615) rfl
      have r4 := hG.1 4 (1, 160) rfl
      have r5 := hG.1 5 (0, 18446744073709551615) rfl
      have f0 : (IntKind.i64.wrap (E.int 3)) = (0 : Int) := fact_et (hG.2 _ (.head _))
      have f1 : (((E.int 1) * (8 : Int)) + (1 : Int)) = (E.int 2) := fact_et (hG.2 _ (.tail _ (.head _)))
      have f2 : ¬ (((E.int 1) * (8 : Int)) + (1 : Int)) = (E.int 4) := fact_ef (hG.2 _ (.tail _ (.tail _ (.head _))))
      have f3 : (E.int 1) < (20 : Int) := fact_lt (hG.2 _ (.tail _ (.tail _ (.tail _ (.head _)))))
      have f4 : ¬ ((E.int 1) * (8 : Int)) < (E.int 0) := fact_lf (hG.2 _ (.tail _ (.tail _ (.tail _ (.tail _ (.head _))))))
      simp only [φ] at hk
      simp only [φ, inst_int, nthS_zero, nthS_succ, SI.den]
      omega))
  (leavesCons (.cut (by kernel_rfl) (fun E hG hk => by
      have r0 := hG.1 0 (0, 1000) rfl
      have r1 := hG.1 1 (0, 20) rfl
      have r2 := hG.1 2 (1, 160) rfl
      have r3 := hG.1 3 (0, 18446744073709551615) rfl
      have r4 := hG.1 4 (1, 160) rfl
      have r5 := hG.1 5 (0, 18446744073709551615) rfl
      have f0 : ¬ (IntKind.i64.wrap (E.int 3)) = (0 : Int) := fact_ef (hG.2 _ (.head _))
      have f1 : (((E.int 1) * (8 : Int)) + (1 : Int)) = (E.int 2) := fact_et (hG.2 _ (.tail _ (.head _)))
      have f2 : ¬ (((E.int 1) * (8 : Int)) + (1 : Int)) = (E.int 4) := fact_ef (hG.2 _ (.tail _ (.tail _ (.head _))))
      have f3 : (E.int 1) < (20 : Int) := fact_lt (hG.2 _ (.tail _ (.tail _ (.tail _ (.head _)))))
      have f4 : ¬ ((E.int 1) * (8 : Int)) < (E.int 0) := fact_lf (hG.2 _ (.tail _ (.tail _ (.tail _ (.tail _ (.head _))))))
      simp only [φ] at hk
      simp only [φ, inst_int, nthS_zero, nthS_succ, SI.den]
      omega))
  (leavesCons (.cut (by kernel_rfl) (fun E hG hk => by
      have r0 := hG.1 0 (0, 1000) rfl
      have r1 := hG.1 1 (0, 20) rfl
      have r2 := hG.1 2 (1, 160) rfl
      have r3 := hG.1 3 (0, 18446744073709551615) rfl
      have r4 := hG.1 4 (1, 160) rfl
      have r5 := hG.1 5 (0, 18446744073709551615) rfl
      have f0 : ¬ (((E.int 1) * (8 : Int)) + (1 : Int)) = (E.int 2) := fact_ef (hG.2 _ (.head _))
      have f1 : ¬ (((E.int 1) * (8 : Int)) + (1 : Int)) = (E.int 4) := fact_ef (hG.2 _ (.tail _ (.head _)))
      have f2 : (E.int 1) < (20 : Int) := fact_lt (hG.2 _ (.tail _ (.tail _ (.head _))))
      have f3 : ¬ ((E.int 1) * (8 : Int)) < (E.int 0) := fact_lf (hG.2 _ (.tail _ (.tail _ (.tail _ (.head _)))))
      simp only [φ] at hk
      simp only [φ, inst_int, nthS_zero, nthS_succ, SI.den]
      omega))
  (leavesCons (.never (fun E hG hk => by
      have r0 := hG.1 0 (0, 1000) rfl
      have r1 := hG.1 1 (0, 20) rfl
      have r2 := hG.1 2 (1, 160) rfl
      have r3 := hG.1 3 (0, 18446744073709551615) rfl
      have r4 := hG.1 4 (1, 160) rfl
      have r5 := hG.1 5 (0, 18446744073709551615) rfl
      have f0 : (2 : Int) < (E.int 0) := fact_lt (hG.2 _ (.head _))
      have f1 : ¬ (E.int 1) < (20 : Int) := fact_lf (hG.2 _ (.tail _ (.head _)))
      have f2 : ¬ ((E.int 1) * (8 : Int)) < (E.int 0) := fact_lf (hG.2 _ (.tail _ (.tail _ (.head _))))
      simp only [φ] at hk
      omega))
  (leavesCons (.fin (by kernel_rfl))
  leavesNil)))))))
def d0 : List (List (SB × Bool) × Leaf) := [
  ([((.eql (.wrap .i64 (.var 6)) (.lit 0)), true), ((.eql (.add (.add (.mul (.var 1) (.lit 8)) (.var 2)) (.lit 1)) (.var 5)), true), h15, h5], .cut 0 [(.var 0), (.var 1), (.add (.var 2) (.lit 1)), (.var 3), (.var 4), (.var 5), (.var 6)] [] []),
  ([((.eql (.wrap .i64 (.var 6)) (.lit 0)), false), ((.eql (.add (.add (.mul (.var 1) (.lit 8)) (.var 2)) (.lit 1)) (.var 5)), true), h15, h5], .cut 0 [(.add (.var 0) (.lit 1)), (.var 1), (.add (.var 2) (.lit 1)), (.var 3), (.var 4), (.var 5), (.var 6)] [] []),
  ([((.eql (.wrap .i64 (.var 4)) (.lit 0)), true), ((.eql (.add (.add (.mul (.var 1) (.lit 8)) (.var 2)) (.lit 1)) (.var 3)), true), h12, h15, h5], .cut 0 [(.var 0), (.var 1), (.add (.var 2) (.lit 1)), (.var 3), (.var 4), (.var 5), (.var 6)] [] []),
  ([((.eql (.wrap .i64 (.var 4)) (.lit 0)), false), ((.eql (.add (.add (.mul (.var 1) (.lit 8)) (.var 2)) (.lit 1)) (.var 3)), true), h12, h15, h5], .cut 0 [(.add (.var 0) (.lit 1)), (.var 1), (.add (.var 2) (.lit 1)), (.var 3), (.var 4), (.var 5), (.var 6)] [] []),
  ([((.eql (.add (.add (.mul (.var 1) (.lit 8)) (.var 2)) (.lit 1)) (.var 3)), false), h12, h15, h5], .cut 0 [(.var 0), (.var 1), (.add (.var 2) (.lit 1)), (.var 3), (.var 4), (.var 5), (.var 6)] [] []),
  ([((.lss (.var 2) (.lit 8)), false), h5], .cut 1 [(.var 0), (.add (.var 1) (.lit 1)), (.var 3), (.var 4), (.var 5), (.var 6)] [] [])]
theorem q0 : PartΦ Try.prog cuts φ 0 m0 true g0 t0.cfg := .of 1000000 d0 (by kernel_rfl) (by kernel_rfl)
  (leavesCons (.cut (by kernel_rfl) (fun E hG hk => by
      have r0 := hG.1 0 (0, 1000) rfl
      have r1 := hG.1 1 (0, 19) rfl
      have r2 := hG.1 2 (0, 8) rfl
      have r3 := hG.1 3 (1, 160) rfl
      have r4 := hG.1 4 (0, 18446744073709551615) rfl
      have r5 := hG.1 5 (1, 160) rfl
      have r6 := hG.1 6 (0, 18446744073709551615) rfl
      have f0 : (IntKind.i64.wrap (E.int 6)) = (0 : Int) := fact_et (hG.2 _ (.head _))
      have f1 : ((((E.int 1) * (8 : Int)) + (E.int 2)) + (1 : Int)) = (E.int 5) := fact_et (hG.2 _ (.tail _ (.head _)))
      have f2 : (E.int 2) < (8 : Int) := fact_lt (hG.2 _ (.tail _ (.tail _ (.head _))))
      have f3 : ¬ (((E.int 1) * (8 : Int)) + (E.int 2)) < (E.int 0) := fact_lf (hG.2 _ (.tail _ (.tail _ (.tail _ (.head _)))))
      simp only [φ] at hk
      simp only [φ, inst_int, nthS_zero, nthS_succ, SI.den]
      omega))
  (leavesCons (.cut (by kernel_rfl) (fun E hG hk => by
      have r0 := hG.1 0 (0, 1000) rfl
      have r1 := hG.1 1 (0, 19) rfl
      have r2 := hG.1 2 (0, 8) rfl
      have r3 := hG.1 3 (1, 160) rfl
      have r4 := hG.1 4 (0, 18446744073709551615) rfl
      have r5 := hG.1 5 (1, 160) rfl
      have r6 := hG.1 6 (0, 18446744073709551615) rfl
      have f0 : ¬ (IntKind.i64.wrap (E.int 6)) = (0 : Int) := fact_ef (hG.2 _ (.head _))
      have f1 : ((((E.int 1) * (8 : Int)) + (E.int 2)) + (1 : Int)) = (E.int 5) := fact_et (hG.2 _ (.tail _ (.head _)))
      have f2 : (E.int 2) < (8 : Int) := fact_lt (hG.2 _ (.tail _ (.tail _ (.head _))))
      have f3 : ¬ (((E.int 1) * (8 : Int)) + (E.int 2)) < (E.int 0) := fact_lf (hG.2 _ (.tail _ (.tail _ (.tail _ (.head _)))))
      simp only [φ] at hk
      simp only [φ, inst_int, nthS_zero, nthS_succ, SI.den]
      omega))
  (leavesCons (.cut (by kernel_rfl) (fun E hG hk => by
      have r0 := hG.1 0 (0, 1000) rfl
      have r1 := hG.1 1 (0, 19) rfl
      have r2 := hG.1 2 (0, 8) rfl
      have r3 := hG.1 3 (1, 160) rfl
      have r4 := hG.1 4 (0, 18446744073709551615) rfl
      have r5 := hG.1 5 (1, 160) rfl
      have r6 := hG.1 6 (0, 18446744073709551615) rfl
      have f0 : (IntKind.i64.wrap (E.int 4)) = (0 : Int) := fact_et (hG.2 _ (.head _))
      have f1 : ((((E.int 1) * (8 : Int)) + (E.int 2)) + (1 : Int)) = (E.int 3) := fact_et (hG.2 _ (.tail _ (.head _)))
      have f2 : ¬ ((((E.int 1) * (8 : Int)) + (E.int 2)) + (1 : Int)) = (E.int 5) := fact_ef (hG.2 _ (.tail _ (.tail _ (.head _))))
      have f3 : (E.int 2) < (8 : Int) := fact_lt (hG.2 _ (.tail _ (.tail _ (.tail _ (.head _)))))
      have f4 : ¬ (((E.int 1) * (8 : Int)) + (E.int 2)) < (E.int 0) := fact_lf (hG.2 _ (.tail _ (.tail _ (.tail _ (.tail _ (.head _))))))
      simp only [φ] at hk
      simp only [φ, inst_int, nthS_zero, nthS_succ, SI.den]
      omega))
  (leavesCons (.cut (by kernel_rfl) (fun E hG hk => by
      have r0 := hG.1 0 (0, 1000) rfl
      have r1 := hG.1 1 (0, 19) rfl
      have r2 := hG.1 2 (0, 8) rfl
      have r3 := hG.1 3 (1, 160) rfl
      have r4 := hG.1 4 (0, 18446744073709551615) rfl
      have r5 := hG.1 5 (1, 160) rfl
      have r6 := hG.1 6 (0, 18446744073709551615) rfl
      have f0 : ¬ (IntKind.i64.wrap (E.int 4)) = (0 : Int) := fact_ef (hG.2 _ (.head _))
      have f1 : ((((E.int 1) * (8 : Int)) + (E.int 2)) + (1 : Int)) = (E.int 3) := fact_et (hG.2 _ (.tail _ (.head _)))
      have f2 : ¬ ((((E.int 1) * (8 : Int)) + (E.int 2)) + (1 : Int)) = (E.int 5) := fact_ef (hG.2 _ (.tail _ (.tail _ (.head _))))
      have f3 : (E.int 2) < (8 : Int) := fact_lt (hG.2 _ (.tail _ (.tail _ (.tail _ (.head _)))))
      have f4 : ¬ (((E.int 1) * (8 : Int)) + (E.int 2)) < (E.int 0) := fact_lf (hG.2 _ (.tail _ (.tail _ (.tail _ (.tail _ (.head _))))))
      simp only [φ] at hk
      simp only [φ, inst_int, nthS_zero, nthS_succ, SI.den]
      omega))
  (leavesCons (.cut (by kernel_rfl) (fun E hG hk => by
      have r0 := hG.1 0 (0, 1000) rfl
      have r1 := hG.1 1 (0, 19) rfl
      have r2 := hG.1 2 (0, 8) rfl
      have r3 := hG.1 3 (1, 160) rfl
      have r4 := hG.1 4 (0, 18446744073709551615) rfl
      have r5 := hG.1 5 (1, 160) rfl
      have r6 := hG.1 6 (0, 18446744073709551615) rfl
      have f0 : ¬ ((((E.int 1) * (8 : Int)) + (E.int 2)) + (1 : Int)) = (E.int 3) := fact_ef (hG.2 _ (.head _))
      have f1 : ¬ ((((E.int 1) * (8 : Int)) + (E.int 2)) + (1 : Int)) = (E.int 5) := fact_ef (hG.2 _ (.tail _ (.head _)))
      have f2 : (E.int 2) < (8 : Int) := fact_lt (hG.2 _ (.tail _ (.tail _ (.head _))))
      have f3 : ¬ (((E.int 1) * (8 : Int)) + (E.int 2)) < (E.int 0) := fact_lf (hG.2 _ (.tail _ (.tail _ (.tail _ (.head _)))))
      simp only [φ] at hk
      simp only [φ, inst_int, nthS_zero, nthS_succ, SI.den]
      omega))
  (leavesCons (.cut (by kernel_rfl) (fun E hG hk => by
      have r0 := hG.1 0 (0, 1000) rfl
      have r1 := hG.1 1 (0, 19) rfl
      have r2 := hG.1 2 (0, 8) rfl
      have r3 := hG.1 3 (1, 160) rfl
      have r4 := hG.1 4 (0, 18446744073709551615) rfl
      have r5 := hG.1 5 (1, 160) rfl
      have r6 := hG.1 6 (0, 18446744073709551615) rfl
      have f0 : ¬ (E.int 2) < (8 : Int) := fact_lf (hG.2 _ (.head _))
      have f1 : ¬ (((E.int 1) * (8 : Int)) + (E.int 2)) < (E.int 0) := fact_lf (hG.2 _ (.tail _ (.head _)))
      simp only [φ] at hk
      simp only [φ, inst_int, nthS_zero, nthS_succ, SI.den]
      omega))
  leavesNil))))))

end
end Go.Proofs.Ytggopkafjclclaa.heapFields
