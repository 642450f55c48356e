/- The law CellsKeep returns true at every input, and its arguments read behind the call as before: the walk is cut at the ends of loops, and each part is one run of the evaluator Ev in the kernel, whose soundness is proved in the Ev texts. -/
import Derived.Test.YtgfedkfokjobpaaRows
import Derived.WalkKit
import Derived.ProofKit
import Derived.OpenShut
import Derived.Test.YtgfedkfokjobpaaCellsKeepQ1
import Derived.Test.YtgfedkfokjobpaaCellsKeepQ2
import Derived.Test.YtgfedkfokjobpaaCellsKeepQ3
import Derived.Test.YtgfedkfokjobpaaCellsKeepQ4
import Derived.Test.YtgfedkfokjobpaaCellsKeepQ5
import Derived.Test.YtgfedkfokjobpaaCellsKeepQ6
import Derived.Test.YtgfedkfokjobpaaCellsKeepQ7
import Derived.Test.YtgfedkfokjobpaaCellsKeepQ8
import Derived.Test.YtgfedkfokjobpaaCellsKeepQ9
import Derived.Test.YtgfedkfokjobpaaCellsKeepQ10
import Derived.Test.YtgfedkfokjobpaaCellsKeepQ11
import Derived.Test.YtgfedkfokjobpaaCellsKeepQ12
namespace Go.Proofs.Ytgfedkfokjobpaa.cellsKeep
open Go.ChangeShapes Go.WideShapes Go.ChangeAt Go.RowKit

theorem own : ownKnob Try.prog.godebug = none := by kernel_rfl

theorem cs : Go.Ev.Covers Try.prog cuts top none false (Go.Ev.startP Try.prog 4 shape) (Go.Ev.ctxP shape) := .fork (.lss (.sel .i8 (.row 0) (.lit 1)) (.lit 9)) (.fork (.lss (.sel .i8 (.row 0) (.lit 1)) (.lit 4)) (.run qsaa) (.run qsab)) (.fork (.lss (.sel .i8 (.row 0) (.lit 1)) (.lit 14)) (.run qsba) (.fork (.lss (.rem (.sel .u8 (.row 0) (.lit 0)) (.lit 4)) (.lit 1)) (.run qsbba) (.fork (.lss (.sel .i8 (.row 0) (.lit 1)) (.lit 16)) (.run qsbbba) (.run qsbbbb))))
theorem c0 : Go.Ev.Covers Try.prog cuts 1 (some (3, 80)) true t0.cfg g0 := .fork (.lss (.sel .i8 (.row 0) (.add (.mul (.var 3) (.lit 4)) (.lit 1))) (.lit 9)) (.fork (.lss (.sel .i8 (.row 0) (.add (.mul (.var 3) (.lit 4)) (.lit 1))) (.lit 4)) (.run q0aa) (.run q0ab)) (.fork (.lss (.sel .i8 (.row 0) (.add (.mul (.var 3) (.lit 4)) (.lit 1))) (.lit 14)) (.run q0ba) (.fork (.lss (.rem (.sel .u8 (.row 0) (.mul (.var 3) (.lit 4))) (.lit 4)) (.lit 1)) (.run q0bba) (.fork (.lss (.sel .i8 (.row 0) (.add (.mul (.var 3) (.lit 4)) (.lit 1))) (.lit 16)) (.run q0bbba) (.run q0bbbb))))

theorem walk (w : World) {vs : List Value} {cds : List Go.Ev.CD} (hf : Go.Ev.FitP w shape vs cds) :
    Calls Try.prog 4 vs.toArray w fun e w' => e = .returned (.bool true) ∧ Below w.heap.size w w' :=
  Go.Ev.calls_shape (l := cuts) (top := top) (by kernel_rfl) (by kernel_rfl) ⟨c0, trivial⟩ (by kernel_rfl) cs w hf

theorem shaped : Go.Ev.paramShs Try.prog Try.f4.params.toList = some shape := by kernel_rfl
theorem laid : laidOutB Try.prog = true := by kernel_rfl
theorem reads : (Try.f4.params.toList.all fun t => Try.prog.readableRec t && decide (t < Try.prog.types.size)) = true := by kernel_rfl

set_option maxRecDepth 100000 in
theorem lifted (os : Os) (started : os.Started) (H : Type) (enc : TypeId × Value → H) :
    ReturnsInHanded {} Try.checked os 4 .any (Rows.cellsKeepSpec.pre6 enc Try.prog Try.f4 Rows.cellsKeepRow.domain false) (Rows.cellsKeepSpec.post enc Try.prog Try.f4 false true false false) := by
  refine returnsInHanded_of_change (C := Try.checked) own started (by kernel_rfl) Try.func4
    (ChangeSpec.witness6 (enc := enc) (C := Try.checked) false ⟨#[], #[.slice none 0 0], []⟩ 8 (by kernel_rfl) (by kernel_rfl) (by kernel_rfl) (by kernel_rfl)) ?_
  intro W base args ds gs before hval0 hW hcnd _
  have hval : ∀ (j : Nat) t v, Try.f4.params.toList[j]? = some t → args.toList[j]? = some v → Value.okWide Try.prog W .any base t v := fun j t v ht hv => hval0 j t v (by simpa using ht) (by simpa using hv)
  have hW' := hW
  obtain ⟨p, q, hA, hV, rfl, hfz, hnd⟩ := hW
  have hB := hA
  rw [Try.params4] at hB
  obtain ⟨v0, vs0, d0, ds0, p0, r0, hargs0, rfl, rfl, h0, k0⟩ := trodAll_cons hB
  obtain ⟨-, hds, -⟩ := trodAll_nil k0
  subst hds
  obtain ⟨rfl, rfl⟩ := trodVars_none hV
  simp only [List.append_nil] at hW'
  obtain ⟨cds, hfit⟩ := Go.Ev.args_fit hA hval shaped
  refine (walk W hfit).mono fun e W' ⟨he, hg⟩ => ?_
  subst he
  exact ⟨_, rfl, Go.Ev.post_args (pv := []) hW' (fun _ _ _ => (trodAll_cons_mk (shut_bool Try.underlying4 _) trodAll_mk0)) (Go.Ev.args_stay laid reads hg hA (fun x hx => by simpa using hW'.lt x hx)) (fun _ _ => rfl) hg⟩

theorem over : Rows.cellsKeepRow.holds Try.pinned (OpenSpec.ofChange Rows.cellsKeepSpec) :=
  OpenClaim.holds_of_wide 4 Try.f4 rfl rfl rfl rfl rfl rfl rfl ⟨rfl, rfl, rfl, rfl, rfl⟩ rfl rfl rfl rfl rfl (by kernel_rfl) Try.func4 (by kernel_rfl)
    (of_decide_eq_true (by kernel_rfl)) (by unfold Func.isWrapper; first | (rw [if_pos (by decide +kernel)]; kernel_rfl) | (rw [if_neg (by decide +kernel)]; exact ⟨rfl, rfl⟩))
    (fun os started H enc _ => lifted os started H enc)

/-- the statement -/
theorem proved : Rows.CellsKeepSaid :=
  over
end Go.Proofs.Ytgfedkfokjobpaa.cellsKeep
