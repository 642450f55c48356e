/- The law SafeSwaps returns true at every input, and its arguments read behind the call as before: the walk is cut at the ends of loops, and each part is one run of the evaluator Ev in the kernel, whose soundness is proved in the Ev texts. -/
import Derived.Test.YtmmehhibkpfghaaRows
import Derived.WalkKit
import Derived.ProofKit
import Derived.OpenShut
import Derived.Test.YtmmehhibkpfghaaSafeSwapsQ1
import Derived.Test.YtmmehhibkpfghaaSafeSwapsQ2
import Derived.Test.YtmmehhibkpfghaaSafeSwapsQ3
import Derived.Test.YtmmehhibkpfghaaSafeSwapsQ4
import Derived.Test.YtmmehhibkpfghaaSafeSwapsQ5
import Derived.Test.YtmmehhibkpfghaaSafeSwapsQ6
import Derived.Test.YtmmehhibkpfghaaSafeSwapsQ7
import Derived.Test.YtmmehhibkpfghaaSafeSwapsQ8
import Derived.Test.YtmmehhibkpfghaaSafeSwapsQ9
import Derived.Test.YtmmehhibkpfghaaSafeSwapsQ10
namespace Go.Proofs.Ytmmehhibkpfghaa.safeSwaps
open Go.ChangeShapes Go.WideShapes Go.ChangeAt Go.RowKit

theorem own : ownKnob Try.prog.godebug = none := by kernel_rfl

theorem cs : Go.Ev.Covers Try.prog cuts { rank := top } false (Go.Ev.startP Try.prog 4 shape) (Go.Ev.ctxP shape) := .fork (.lss (.add (.mul (.rem (.var 3) (.lit 8)) (.lit 6)) (.lit 7)) (.lit 25)) (.fork (.lss (.add (.mul (.rem (.var 3) (.lit 8)) (.lit 6)) (.lit 7)) (.lit 13)) (.fork (.var 4) (.fork (.eql (.var 0) (.lit 2)) (.run qsaaaa) (.run qsaaab)) (.fork (.eql (.var 0) (.lit 1)) (.run qsaaba) (.run qsaabb))) (.fork (.lss (.var 0) (.lit 2)) (.fork (.eql (.add (.mul (.rem (.var 3) (.lit 8)) (.lit 6)) (.lit 7)) (.lit 13)) (.fork (.var 4) (.run qsabaaa) (.fork (.eql (.var 0) (.lit 1)) (.run qsabaaba) (.run qsabaabb))) (.fork (.var 4) (.run qsababa) (.fork (.eql (.var 0) (.lit 1)) (.run qsababba) (.run qsababbb)))) (.fork (.eql (.add (.mul (.rem (.var 3) (.lit 8)) (.lit 6)) (.lit 7)) (.lit 13)) (.fork (.eql (.var 0) (.lit 2)) (.fork (.var 4) (.run qsabbaaa) (.run qsabbaab)) (.fork (.var 4) (.run qsabbaba) (.run qsabbabb))) (.fork (.eql (.var 0) (.lit 2)) (.fork (.var 4) (.run qsabbbaa) (.run qsabbbab)) (.fork (.var 4) (.run qsabbbba) (.run qsabbbbb)))))) (.fork (.lss (.add (.mul (.rem (.var 3) (.lit 8)) (.lit 6)) (.lit 7)) (.lit 37)) (.fork (.lss (.var 0) (.lit 2)) (.fork (.eql (.add (.mul (.rem (.var 3) (.lit 8)) (.lit 6)) (.lit 7)) (.lit 25)) (.fork (.var 4) (.run qsbaaaa) (.fork (.eql (.var 0) (.lit 1)) (.run qsbaaaba) (.run qsbaaabb))) (.fork (.var 4) (.run qsbaaba) (.fork (.eql (.var 0) (.lit 1)) (.run qsbaabba) (.run qsbaabbb)))) (.fork (.eql (.add (.mul (.rem (.var 3) (.lit 8)) (.lit 6)) (.lit 7)) (.lit 25)) (.fork (.eql (.var 0) (.lit 2)) (.fork (.var 4) (.run qsbabaaa) (.run qsbabaab)) (.fork (.var 4) (.run qsbababa) (.run qsbababb))) (.fork (.eql (.var 0) (.lit 2)) (.fork (.var 4) (.run qsbabbaa) (.run qsbabbab)) (.fork (.var 4) (.run qsbabbba) (.run qsbabbbb))))) (.fork (.lss (.add (.mul (.rem (.var 3) (.lit 8)) (.lit 6)) (.lit 7)) (.lit 43)) (.fork (.var 4) (.fork (.eql (.var 0) (.lit 2)) (.run qsbbaaa) (.run qsbbaab)) (.fork (.eql (.var 0) (.lit 1)) (.run qsbbaba) (.run qsbbabb))) (.fork (.lss (.var 0) (.lit 2)) (.fork (.eql (.add (.mul (.rem (.var 3) (.lit 8)) (.lit 6)) (.lit 7)) (.lit 43)) (.fork (.var 4) (.run qsbbbaaa) (.fork (.eql (.var 0) (.lit 1)) (.run qsbbbaaba) (.run qsbbbaabb))) (.fork (.var 4) (.run qsbbbaba) (.fork (.eql (.var 0) (.lit 1)) (.run qsbbbabba) (.run qsbbbabbb)))) (.fork (.eql (.add (.mul (.rem (.var 3) (.lit 8)) (.lit 6)) (.lit 7)) (.lit 43)) (.fork (.eql (.var 0) (.lit 2)) (.fork (.var 4) (.run qsbbbbaaa) (.run qsbbbbaab)) (.fork (.var 4) (.run qsbbbbaba) (.run qsbbbbabb))) (.fork (.eql (.var 0) (.lit 2)) (.fork (.var 4) (.run qsbbbbbaa) (.run qsbbbbbab)) (.fork (.var 4) (.run qsbbbbbba) (.run qsbbbbbbb)))))))
theorem c32 : Go.Ev.Covers Try.prog cuts m32 true t32.cfg g32 := .fork (.lss (.var 2) (.lit 1)) (.run q32a) (.fork (.lss (.var 2) (.lit 2)) (.run q32ba) (.fork (.var 0) (.run q32bba) (.run q32bbb)))
theorem c33 : Go.Ev.Covers Try.prog cuts m33 true t33.cfg g32 := .fork (.lss (.var 2) (.lit 1)) (.run q33a) (.fork (.lss (.var 2) (.lit 2)) (.run q33ba) (.fork (.var 0) (.run q33bba) (.run q33bbb)))
theorem c34 : Go.Ev.Covers Try.prog cuts m34 true t34.cfg g32 := .fork (.lss (.var 2) (.lit 1)) (.run q34a) (.fork (.lss (.var 2) (.lit 2)) (.run q34ba) (.fork (.var 0) (.run q34bba) (.run q34bbb)))
theorem c35 : Go.Ev.Covers Try.prog cuts m35 true t35.cfg g32 := .fork (.lss (.var 2) (.lit 1)) (.run q35a) (.fork (.lss (.var 2) (.lit 2)) (.run q35ba) (.fork (.var 0) (.run q35bba) (.run q35bbb)))
theorem c36 : Go.Ev.Covers Try.prog cuts m36 true t36.cfg g32 := .fork (.lss (.var 2) (.lit 1)) (.run q36a) (.fork (.lss (.var 2) (.lit 2)) (.run q36ba) (.fork (.var 0) (.run q36bba) (.run q36bbb)))
theorem c37 : Go.Ev.Covers Try.prog cuts m37 true t37.cfg g32 := .fork (.lss (.var 2) (.lit 1)) (.run q37a) (.fork (.lss (.var 2) (.lit 2)) (.run q37ba) (.fork (.var 0) (.run q37bba) (.run q37bbb)))
theorem c38 : Go.Ev.Covers Try.prog cuts m38 true t38.cfg g32 := .fork (.lss (.var 2) (.lit 1)) (.run q38a) (.fork (.lss (.var 2) (.lit 2)) (.run q38ba) (.fork (.var 0) (.run q38bba) (.run q38bbb)))
theorem c39 : Go.Ev.Covers Try.prog cuts m39 true t39.cfg g32 := .fork (.lss (.var 2) (.lit 1)) (.run q39a) (.fork (.lss (.var 2) (.lit 2)) (.run q39ba) (.fork (.var 0) (.run q39bba) (.run q39bbb)))

theorem walk (w : World) {vs : List Value} {cds : List Go.Ev.CD} (hf : Go.Ev.FitP w shape vs cds) :
    Calls Try.prog 4 vs.toArray w fun e w' => e = .returned (.bool true) ∧ Below w.heap.size w w' :=
  Go.Ev.calls_shape (l := cuts) (top := top) (by kernel_rfl) (by kernel_rfl) ⟨.run q0, .run q1, .run q2, .run q3, .run q4, .run q5, .run q6, .run q7, .run q8, .run q9, .run q10, .run q11, .run q12, .run q13, .run q14, .run q15, .run q16, .run q17, .run q18, .run q19, .run q20, .run q21, .run q22, .run q23, .run q24, .run q25, .run q26, .run q27, .run q28, .run q29, .run q30, .run q31, c32, c33, c34, c35, c36, c37, c38, c39, trivial⟩ (by kernel_rfl) cs w hf

theorem shaped : Go.Ev.paramShs Try.prog Try.f4.params.toList = some shape := by kernel_rfl
theorem laid : laidOutB Try.prog = true := by kernel_rfl
theorem reads : (Try.f4.params.toList.all fun t => Try.prog.readableRec t && decide (t < Try.prog.types.size)) = true := by kernel_rfl

set_option maxRecDepth 100000 in
theorem lifted (os : Os) (started : os.Started) (H : Type) (enc : TypeId × Value → H) :
    ReturnsInHanded {} Try.checked os 4 .any (Rows.safeSwapsSpec.pre6 enc Try.prog Try.f4 Rows.safeSwapsRow.domain false) (Rows.safeSwapsSpec.post enc Try.prog Try.f4 false true false false) := by
  refine returnsInHanded_of_change (C := Try.checked) own started (by kernel_rfl) Try.func4
    (ChangeSpec.witness6 (enc := enc) (C := Try.checked) false ⟨#[], #[.int .u64 0, .int .u8 0, .bool false], []⟩ 8 (by kernel_rfl) (by kernel_rfl) (by kernel_rfl) (by kernel_rfl)) ?_
  intro W base args ds gs before hval0 hW hcnd _
  have hval : ∀ (j : Nat) t v, Try.f4.params.toList[j]? = some t → args.toList[j]? = some v → Value.okWide Try.prog W .any base t v := fun j t v ht hv => hval0 j t v (by simpa using ht) (by simpa using hv)
  have hW' := hW
  obtain ⟨p, q, hA, hV, rfl, hfz, hnd⟩ := hW
  have hB := hA
  rw [Try.params4] at hB
  obtain ⟨v0, vs0, d0, ds0, p0, r0, hargs0, rfl, rfl, h0, k0⟩ := trodAll_cons hB
  obtain ⟨v1, vs1, d1, ds1, p1, r1, hargs1, rfl, rfl, h1, k1⟩ := trodAll_cons k0
  obtain ⟨v2, vs2, d2, ds2, p2, r2, hargs2, rfl, rfl, h2, k2⟩ := trodAll_cons k1
  obtain ⟨-, hds, -⟩ := trodAll_nil k2
  subst hds
  obtain ⟨rfl, rfl⟩ := trodVars_none hV
  simp only [List.append_nil] at hW'
  obtain ⟨cds, hfit⟩ := Go.Ev.args_fit hA hval shaped
  refine (walk W hfit).mono fun e W' ⟨he, hg⟩ => ?_
  subst he
  exact ⟨_, rfl, Go.Ev.post_args (pv := []) hW' (fun _ _ _ => (trodAll_cons_mk (shut_bool Try.underlying4 _) trodAll_mk0)) (Go.Ev.args_stay laid reads hg hA (fun x hx => by simpa using hW'.lt x hx)) (fun _ _ => rfl) hg⟩

theorem over : Rows.safeSwapsRow.holds Try.pinned (OpenSpec.ofChange Rows.safeSwapsSpec) :=
  OpenClaim.holds_of_wide 4 Try.f4 rfl rfl rfl rfl rfl rfl rfl ⟨rfl, rfl, rfl, rfl, rfl⟩ rfl rfl rfl rfl rfl (by kernel_rfl) Try.func4 (by kernel_rfl)
    (of_decide_eq_true (by kernel_rfl)) (by unfold Func.isWrapper; first | (rw [if_pos (by decide +kernel)]; kernel_rfl) | (rw [if_neg (by decide +kernel)]; exact ⟨rfl, rfl⟩))
    (fun os started H enc _ => lifted os started H enc)

/-- the statement -/
theorem proved : Rows.SafeSwapsSaid :=
  over
end Go.Proofs.Ytmmehhibkpfghaa.safeSwaps
