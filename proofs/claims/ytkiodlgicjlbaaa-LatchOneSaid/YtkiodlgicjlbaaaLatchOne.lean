/- The law LatchOne returns true at every input, and its arguments read behind the call as before: the walk is cut at the ends of loops, and each part is one run of the evaluator Ev in the kernel, whose soundness is proved in the Ev texts. -/
import Derived.Test.YtkiodlgicjlbaaaRows
import Derived.WalkKit
import Derived.ProofKit
import Derived.OpenShut
import Derived.Test.YtkiodlgicjlbaaaLatchOneQ1
import Derived.Test.YtkiodlgicjlbaaaLatchOneQ2
import Derived.Test.YtkiodlgicjlbaaaLatchOneQ3
import Derived.Test.YtkiodlgicjlbaaaLatchOneQ4
import Derived.Test.YtkiodlgicjlbaaaLatchOneQ5
import Derived.Test.YtkiodlgicjlbaaaLatchOneQ6
import Derived.Test.YtkiodlgicjlbaaaLatchOneQ7
import Derived.Test.YtkiodlgicjlbaaaLatchOneQ8
namespace Go.Proofs.Ytkiodlgicjlbaaa.latchOne
open Go.ChangeShapes Go.WideShapes Go.ChangeAt Go.RowKit

theorem own : ownKnob Try.prog.godebug = none := by kernel_rfl

theorem cs : Go.Ev.CoversΦ Try.prog cuts φ 34 { rank := top } false (Go.Ev.startP Try.prog 3 shape) (Go.Ev.ctxP shape) := .run qs

theorem walk (w : World) {vs : List Value} {cds : List Go.Ev.CD} (hf : Go.Ev.FitP w shape vs cds) :
    Calls Try.prog 3 vs.toArray w fun e w' => e = .returned (.bool true) ∧ Below w.heap.size w w' :=
  Go.Ev.calls_shapeΦ (l := cuts) (φ := φ) (top := top) (by kernel_rfl) (by kernel_rfl) ⟨.run q0, .run q1, .run q2, .run q3, .run q4, .run q5, .run q6, .run q7, .run q8, .run q9, .run q10, .run q11, .run q12, .run q13, .run q14, .run q15, .run q16, .run q17, .run q18, .run q19, .run q20, .run q21, .run q22, .run q23, .run q24, .run q25, .run q26, .run q27, .run q28, .run q29, .run q30, .run q31, .run q32, .run q33, trivial⟩ (by kernel_rfl) cs (fun _ _ _ => trivial) w hf

theorem shaped : Go.Ev.paramShs Try.prog Try.f3.params.toList = some shape := by kernel_rfl
theorem laid : laidOutB Try.prog = true := by kernel_rfl
theorem reads : (Try.f3.params.toList.all fun t => Try.prog.readableRec t && decide (t < Try.prog.types.size)) = true := by kernel_rfl

set_option maxRecDepth 100000 in
theorem lifted (os : Os) (started : os.Started) (H : Type) (enc : TypeId × Value → H) :
    ReturnsInHanded {} Try.checked os 3 .any (Rows.latchOneSpec.pre6 enc Try.prog Try.f3 Rows.latchOneRow.domain false) (Rows.latchOneSpec.post enc Try.prog Try.f3 false true false false) := by
  refine returnsInHanded_of_change (C := Try.checked) own started (by kernel_rfl) Try.func3
    (ChangeSpec.witness6 (enc := enc) (C := Try.checked) false ⟨#[], #[.slice none 0 0, .int .u8 0, .int .u8 0], []⟩ 8 (by kernel_rfl) (by kernel_rfl) (by kernel_rfl) (by kernel_rfl)) ?_
  intro W base args ds gs before hval0 hW hcnd _
  have hval : ∀ (j : Nat) t v, Try.f3.params.toList[j]? = some t → args.toList[j]? = some v → Value.okWide Try.prog W .any base t v := fun j t v ht hv => hval0 j t v (by simpa using ht) (by simpa using hv)
  have hW' := hW
  obtain ⟨p, q, hA, hV, rfl, hfz, hnd⟩ := hW
  have hB := hA
  rw [Try.params3] at hB
  obtain ⟨v0, vs0, d0, ds0, p0, r0, hargs0, rfl, rfl, h0, k0⟩ := trodAll_cons hB
  obtain ⟨v1, vs1, d1, ds1, p1, r1, hargs1, rfl, rfl, h1, k1⟩ := trodAll_cons k0
  obtain ⟨v2, vs2, d2, ds2, p2, r2, hargs2, rfl, rfl, h2, k2⟩ := trodAll_cons k1
  obtain ⟨-, hds, -⟩ := trodAll_nil k2
  subst hds
  obtain ⟨rfl, rfl⟩ := trodVars_none hV
  simp only [List.append_nil] at hW'
  obtain ⟨cds, hfit⟩ := Go.Ev.args_fit hA hval shaped
  refine (walk W hfit).mono fun e W' ⟨he, hg⟩ => ?_
  subst he
  exact ⟨_, rfl, Go.Ev.post_args (pv := []) hW' (fun _ _ _ => (trodAll_cons_mk (shut_bool Try.underlying4 _) trodAll_mk0)) (Go.Ev.args_stay laid reads hg hA (fun x hx => by simpa using hW'.lt x hx)) (fun _ _ => rfl) hg⟩

theorem over : Rows.latchOneRow.holds Try.pinned (OpenSpec.ofChange Rows.latchOneSpec) :=
  OpenClaim.holds_of_wide 3 Try.f3 rfl rfl rfl rfl rfl rfl rfl ⟨rfl, rfl, rfl, rfl, rfl⟩ rfl rfl rfl rfl rfl (by kernel_rfl) Try.func3 (by kernel_rfl)
    (of_decide_eq_true (by kernel_rfl)) (by unfold Func.isWrapper; first | (rw [if_pos (by decide +kernel)]; kernel_rfl) | (rw [if_neg (by decide +kernel)]; exact ⟨rfl, rfl⟩))
    (fun os started H enc _ => lifted os started H enc)

/-- the statement -/
theorem proved : Rows.LatchOneSaid :=
  over
end Go.Proofs.Ytkiodlgicjlbaaa.latchOne
