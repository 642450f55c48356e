/- The law ThinAgain returns true at every input, and its arguments read behind the call as before: the walk is cut at the ends of loops, and each part is one run of the evaluator Ev in the kernel, whose soundness is proved in the Ev texts. -/
import Derived.Test.YtkmogkobedmnkaaGreatRows
import Derived.WalkKit
import Derived.ProofKit
import Derived.OpenShut
import Derived.Test.YtkmogkobedmnkaaGreatThinAgainQ1
import Derived.Test.YtkmogkobedmnkaaGreatThinAgainQ2
import Derived.Test.YtkmogkobedmnkaaGreatThinAgainQ3
namespace Go.Proofs.YtkmogkobedmnkaaGreat.thinAgain
open Go.ChangeShapes Go.WideShapes Go.ChangeAt Go.RowKit

theorem own : ownKnob Tryz.prog.godebug = none := by kernel_rfl

theorem cs : Go.Ev.Covers Tryz.prog cuts { rank := top } false (Go.Ev.startP Tryz.prog 4 shape) (Go.Ev.ctxP shape) := .run qs
theorem c14 : Go.Ev.Covers Tryz.prog cuts m14 true t14.cfg g14 := .fork (.lss (.var 1) (.rem (.var 0) (.lit 40))) (.run q14a) (.fork (.eql (.mul (.var 1) (.lit 2)) (.lit 0)) (.run q14ba) (.run q14bb))

theorem walk (w : World) {vs : List Value} {cds : List Go.Ev.CD} (hf : Go.Ev.FitP w shape vs cds) :
    Calls Tryz.prog 4 vs.toArray w fun e w' => e = .returned (.bool true) ∧ Below w.heap.size w w' :=
  Go.Ev.calls_shape (l := cuts) (top := top) (by kernel_rfl) (by kernel_rfl) ⟨.run q0, .run q1, .run q2, .run q3, .run q4, .run q5, .run q6, .run q7, .run q8, .run q9, .run q10, .run q11, .run q12, .run q13, c14, .run q15, trivial⟩ (by kernel_rfl) cs w hf

theorem shaped : Go.Ev.paramShs Tryz.prog Tryz.f4.params.toList = some shape := by kernel_rfl
theorem laid : laidOutB Tryz.prog = true := by kernel_rfl
theorem reads : (Tryz.f4.params.toList.all fun t => Tryz.prog.readableRec t && decide (t < Tryz.prog.types.size)) = true := by kernel_rfl

set_option maxRecDepth 100000 in
theorem lifted (os : Os) (started : os.Started) (H : Type) (enc : TypeId × Value → H) :
    ReturnsInHanded {} Tryz.checked os 4 .any (Rows.thinAgainSpec.pre6 enc Tryz.prog Tryz.f4 Rows.thinAgainRow.domain false) (Rows.thinAgainSpec.post enc Tryz.prog Tryz.f4 false true false false) := by
  refine returnsInHanded_of_change (C := Tryz.checked) own started (by kernel_rfl) Tryz.func4
    (ChangeSpec.witness6 (enc := enc) (C := Tryz.checked) false ⟨#[], #[.int .u8 0], []⟩ 8 (by kernel_rfl) (by kernel_rfl) (by kernel_rfl) (by kernel_rfl)) ?_
  intro W base args ds gs before hval0 hW hcnd _
  have hval : ∀ (j : Nat) t v, Tryz.f4.params.toList[j]? = some t → args.toList[j]? = some v → Value.okWide Tryz.prog W .any base t v := fun j t v ht hv => hval0 j t v (by simpa using ht) (by simpa using hv)
  have hW' := hW
  obtain ⟨p, q, hA, hV, rfl, hfz, hnd⟩ := hW
  have hB := hA
  rw [Tryz.params4] at hB
  obtain ⟨v0, vs0, d0, ds0, p0, r0, hargs0, rfl, rfl, h0, k0⟩ := trodAll_cons hB
  obtain ⟨-, hds, -⟩ := trodAll_nil k0
  subst hds
  obtain ⟨rfl, rfl⟩ := trodVars_none hV
  simp only [List.append_nil] at hW'
  obtain ⟨cds, hfit⟩ := Go.Ev.args_fit hA hval shaped
  refine (walk W hfit).mono fun e W' ⟨he, hg⟩ => ?_
  subst he
  exact ⟨_, rfl, Go.Ev.post_args (pv := []) hW' (fun _ _ _ => (trodAll_cons_mk (shut_bool Tryz.underlying4 _) trodAll_mk0)) (Go.Ev.args_stay laid reads hg hA (fun x hx => by simpa using hW'.lt x hx)) (fun _ _ => rfl) hg⟩

theorem over : Rows.thinAgainRow.holds Tryz.pinned (OpenSpec.ofChange Rows.thinAgainSpec) :=
  OpenClaim.holds_of_wide 4 Tryz.f4 rfl rfl rfl rfl rfl rfl rfl ⟨rfl, rfl, rfl, rfl, rfl⟩ rfl rfl rfl rfl rfl (by kernel_rfl) Tryz.func4 (by kernel_rfl)
    (of_decide_eq_true (by kernel_rfl)) (by unfold Func.isWrapper; first | (rw [if_pos (by decide +kernel)]; kernel_rfl) | (rw [if_neg (by decide +kernel)]; exact ⟨rfl, rfl⟩))
    (fun os started H enc _ => lifted os started H enc)

/-- the statement -/
theorem proved : Rows.ThinAgainSaid :=
  over
end Go.Proofs.YtkmogkobedmnkaaGreat.thinAgain
