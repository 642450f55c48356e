/- The law LatchCounts returns true at every input, and its arguments read behind the call as before: the walk is cut at the ends of loops, and each part is one run of the evaluator Ev in the kernel, whose soundness is proved in the Ev texts. -/
import Derived.Test.YtkiodlgicjlbaaaRows
import Derived.WalkKit
import Derived.ProofKit
import Derived.OpenShut
import Derived.Test.YtkiodlgicjlbaaaLatchCountsQ1
import Derived.Test.YtkiodlgicjlbaaaLatchCountsQ2
import Derived.Test.YtkiodlgicjlbaaaLatchCountsQ3
import Derived.Test.YtkiodlgicjlbaaaLatchCountsQ4
import Derived.Test.YtkiodlgicjlbaaaLatchCountsQ5
import Derived.Test.YtkiodlgicjlbaaaLatchCountsQ6
import Derived.Test.YtkiodlgicjlbaaaLatchCountsQ7
import Derived.Test.YtkiodlgicjlbaaaLatchCountsQ8
namespace Go.Proofs.Ytkiodlgicjlbaaa.latchCounts
open Go.ChangeShapes Go.WideShapes Go.ChangeAt Go.RowKit

theorem own : ownKnob Try.prog.godebug = none := by kernel_rfl

theorem cs : Go.Ev.CoversΦ Try.prog cuts φ 43 { rank := top } false (Go.Ev.startP Try.prog 4 shape) (Go.Ev.ctxP shape) := .run qs
theorem c4 : Go.Ev.CoversΦ Try.prog cuts φ 4 ⟨3, none, 0, none, 0, none⟩ true t4.cfg g4 := .fork (.lss (.var 3) (.lit 1)) (.run q4a) (.run q4b)
theorem c5 : Go.Ev.CoversΦ Try.prog cuts φ 5 ⟨3, none, 0, none, 0, none⟩ true t5.cfg g5 := .fork (.lss (.var 3) (.lit 1)) (.run q5a) (.fork (.eql (.rem (.sel .u8 (.row 0) (.lit 0)) (.lit 5)) (.lit 0)) (.run q5ba) (.run q5bb))
theorem c6 : Go.Ev.CoversΦ Try.prog cuts φ 6 ⟨3, none, 0, none, 0, none⟩ true t6.cfg g6 := .fork (.lss (.var 3) (.lit 1)) (.run q6a) (.fork (.eql (.rem (.sel .u8 (.row 0) (.lit 0)) (.lit 6)) (.lit 0)) (.run q6ba) (.fork (.eql (.rem (.sel .u8 (.row 0) (.lit 0)) (.lit 6)) (.lit 1)) (.run q6bba) (.run q6bbb)))
theorem c10 : Go.Ev.CoversΦ Try.prog cuts φ 10 ⟨4, none, 0, none, 0, none⟩ true t10.cfg g10 := .fork (.lss (.var 3) (.lit 1)) (.run q10a) (.run q10b)
theorem c11 : Go.Ev.CoversΦ Try.prog cuts φ 11 ⟨4, none, 0, none, 0, none⟩ true t11.cfg g11 := .fork (.lss (.var 3) (.lit 1)) (.run q11a) (.fork (.eql (.rem (.sel .u8 (.row 0) (.lit 0)) (.lit 5)) (.lit 0)) (.run q11ba) (.run q11bb))
theorem c12 : Go.Ev.CoversΦ Try.prog cuts φ 12 ⟨4, none, 0, none, 0, none⟩ true t12.cfg g12 := .fork (.lss (.var 3) (.lit 1)) (.run q12a) (.fork (.eql (.rem (.sel .u8 (.row 0) (.lit 0)) (.lit 6)) (.lit 0)) (.run q12ba) (.fork (.eql (.rem (.sel .u8 (.row 0) (.lit 0)) (.lit 6)) (.lit 1)) (.run q12bba) (.run q12bbb)))
theorem c14 : Go.Ev.CoversΦ Try.prog cuts φ 14 m14 true t14.cfg g14 := .fork (.lss (.var 2) (.lit 8000)) (.fork (.lss (.var 4) (.add (.var 2) (.lit 1))) (.run q14aa) (.run q14ab)) (.run q14b)
theorem c15 : Go.Ev.CoversΦ Try.prog cuts φ 15 m15 true t15.cfg g15 := .fork (.lss (.var 2) (.lit 8000)) (.fork (.lss (.var 4) (.add (.var 2) (.lit 1))) (.run q15aa) (.run q15ab)) (.run q15b)
theorem c16 : Go.Ev.CoversΦ Try.prog cuts φ 16 m16 true t16.cfg g16 := .fork (.lss (.var 2) (.lit 8000)) (.fork (.lss (.var 4) (.add (.var 2) (.lit 1))) (.fork (.eql (.sel .i64 (.row 0) (.rem (.add (.var 2) (.lit 1)) (.lit 4))) (.var 0)) (.run q16aaa) (.fork (.eql (.rem (.add (.var 2) (.lit 1)) (.lit 4)) (.lit 0)) (.run q16aaba) (.run q16aabb))) (.fork (.eql (.sel .i64 (.row 0) (.rem (.sel .u8 (.row 2) (.var 2)) (.lit 4))) (.var 0)) (.run q16aba) (.fork (.eql (.rem (.sel .u8 (.row 2) (.var 2)) (.lit 4)) (.lit 0)) (.run q16abba) (.run q16abbb)))) (.run q16b)
theorem c17 : Go.Ev.CoversΦ Try.prog cuts φ 17 m17 true t17.cfg g17 := .fork (.lss (.var 2) (.lit 8000)) (.fork (.lss (.var 4) (.add (.var 2) (.lit 1))) (.fork (.eql (.sel .i64 (.row 0) (.rem (.add (.var 2) (.lit 1)) (.lit 5))) (.var 0)) (.run q17aaa) (.fork (.eql (.rem (.add (.var 2) (.lit 1)) (.lit 5)) (.lit 0)) (.run q17aaba) (.fork (.eql (.rem (.add (.var 2) (.lit 1)) (.lit 5)) (.lit 1)) (.run q17aabba) (.run q17aabbb)))) (.fork (.eql (.sel .i64 (.row 0) (.rem (.sel .u8 (.row 2) (.var 2)) (.lit 5))) (.var 0)) (.run q17aba) (.fork (.eql (.rem (.sel .u8 (.row 2) (.var 2)) (.lit 5)) (.lit 0)) (.run q17abba) (.fork (.eql (.rem (.sel .u8 (.row 2) (.var 2)) (.lit 5)) (.lit 1)) (.run q17abbba) (.run q17abbbb))))) (.run q17b)
theorem c18 : Go.Ev.CoversΦ Try.prog cuts φ 18 m18 true t18.cfg g18 := .fork (.lss (.var 2) (.lit 8000)) (.fork (.lss (.var 4) (.add (.var 2) (.lit 1))) (.fork (.eql (.sel .i64 (.row 0) (.rem (.add (.var 2) (.lit 1)) (.lit 6))) (.var 0)) (.run q18aaa) (.fork (.eql (.rem (.add (.var 2) (.lit 1)) (.lit 6)) (.lit 0)) (.run q18aaba) (.fork (.eql (.rem (.add (.var 2) (.lit 1)) (.lit 6)) (.lit 1)) (.run q18aabba) (.fork (.eql (.rem (.add (.var 2) (.lit 1)) (.lit 6)) (.lit 2)) (.run q18aabbba) (.run q18aabbbb))))) (.fork (.eql (.sel .i64 (.row 0) (.rem (.sel .u8 (.row 2) (.var 2)) (.lit 6))) (.var 0)) (.run q18aba) (.fork (.eql (.rem (.sel .u8 (.row 2) (.var 2)) (.lit 6)) (.lit 0)) (.run q18abba) (.fork (.eql (.rem (.sel .u8 (.row 2) (.var 2)) (.lit 6)) (.lit 1)) (.run q18abbba) (.fork (.eql (.rem (.sel .u8 (.row 2) (.var 2)) (.lit 6)) (.lit 2)) (.run q18abbbba) (.run q18abbbbb)))))) (.run q18b)
theorem c19 : Go.Ev.CoversΦ Try.prog cuts φ 19 m19 true t19.cfg g19 := .fork (.lss (.var 1) (.lit 8000)) (.fork (.lss (.var 3) (.add (.var 1) (.lit 1))) (.run q19aa) (.run q19ab)) (.run q19b)
theorem c20 : Go.Ev.CoversΦ Try.prog cuts φ 20 m20 true t20.cfg g20 := .fork (.lss (.var 2) (.lit 8000)) (.fork (.lss (.var 4) (.add (.var 2) (.lit 1))) (.fork (.eql (.sel .i64 (.row 0) (.rem (.add (.var 2) (.lit 1)) (.lit 2))) (.var 0)) (.run q20aaa) (.fork (.eql (.rem (.add (.var 2) (.lit 1)) (.lit 2)) (.lit 0)) (.run q20aaba) (.run q20aabb))) (.fork (.eql (.sel .i64 (.row 0) (.rem (.sel .u8 (.row 2) (.var 2)) (.lit 2))) (.var 0)) (.run q20aba) (.fork (.eql (.rem (.sel .u8 (.row 2) (.var 2)) (.lit 2)) (.lit 0)) (.run q20abba) (.run q20abbb)))) (.run q20b)
theorem c21 : Go.Ev.CoversΦ Try.prog cuts φ 21 m21 true t21.cfg g21 := .fork (.lss (.var 2) (.lit 8000)) (.fork (.lss (.var 4) (.add (.var 2) (.lit 1))) (.fork (.eql (.sel .i64 (.row 0) (.rem (.add (.var 2) (.lit 1)) (.lit 3))) (.var 0)) (.run q21aaa) (.fork (.eql (.rem (.add (.var 2) (.lit 1)) (.lit 3)) (.lit 0)) (.run q21aaba) (.fork (.eql (.rem (.add (.var 2) (.lit 1)) (.lit 3)) (.lit 1)) (.run q21aabba) (.run q21aabbb)))) (.fork (.eql (.sel .i64 (.row 0) (.rem (.sel .u8 (.row 2) (.var 2)) (.lit 3))) (.var 0)) (.run q21aba) (.fork (.eql (.rem (.sel .u8 (.row 2) (.var 2)) (.lit 3)) (.lit 0)) (.run q21abba) (.fork (.eql (.rem (.sel .u8 (.row 2) (.var 2)) (.lit 3)) (.lit 1)) (.run q21abbba) (.run q21abbbb))))) (.run q21b)
theorem c22 : Go.Ev.CoversΦ Try.prog cuts φ 22 m22 true t22.cfg g22 := .fork (.lss (.var 2) (.lit 8000)) (.fork (.lss (.var 4) (.add (.var 2) (.lit 1))) (.fork (.eql (.sel .i64 (.row 0) (.rem (.add (.var 2) (.lit 1)) (.lit 4))) (.var 0)) (.run q22aaa) (.fork (.eql (.rem (.add (.var 2) (.lit 1)) (.lit 4)) (.lit 0)) (.run q22aaba) (.fork (.eql (.rem (.add (.var 2) (.lit 1)) (.lit 4)) (.lit 1)) (.run q22aabba) (.fork (.eql (.rem (.add (.var 2) (.lit 1)) (.lit 4)) (.lit 2)) (.run q22aabbba) (.run q22aabbbb))))) (.fork (.eql (.sel .i64 (.row 0) (.rem (.sel .u8 (.row 2) (.var 2)) (.lit 4))) (.var 0)) (.run q22aba) (.fork (.eql (.rem (.sel .u8 (.row 2) (.var 2)) (.lit 4)) (.lit 0)) (.run q22abba) (.fork (.eql (.rem (.sel .u8 (.row 2) (.var 2)) (.lit 4)) (.lit 1)) (.run q22abbba) (.fork (.eql (.rem (.sel .u8 (.row 2) (.var 2)) (.lit 4)) (.lit 2)) (.run q22abbbba) (.run q22abbbbb)))))) (.run q22b)
theorem c23 : Go.Ev.CoversΦ Try.prog cuts φ 23 m23 true t23.cfg g23 := .fork (.lss (.var 2) (.lit 8000)) (.fork (.lss (.var 4) (.add (.var 2) (.lit 1))) (.fork (.eql (.sel .i64 (.row 0) (.rem (.add (.var 2) (.lit 1)) (.lit 5))) (.var 0)) (.run q23aaa) (.fork (.eql (.rem (.add (.var 2) (.lit 1)) (.lit 5)) (.lit 0)) (.run q23aaba) (.fork (.eql (.rem (.add (.var 2) (.lit 1)) (.lit 5)) (.lit 1)) (.run q23aabba) (.fork (.eql (.rem (.add (.var 2) (.lit 1)) (.lit 5)) (.lit 2)) (.run q23aabbba) (.fork (.eql (.rem (.add (.var 2) (.lit 1)) (.lit 5)) (.lit 3)) (.run q23aabbbba) (.run q23aabbbbb)))))) (.fork (.eql (.sel .i64 (.row 0) (.rem (.sel .u8 (.row 2) (.var 2)) (.lit 5))) (.var 0)) (.run q23aba) (.fork (.eql (.rem (.sel .u8 (.row 2) (.var 2)) (.lit 5)) (.lit 0)) (.run q23abba) (.fork (.eql (.rem (.sel .u8 (.row 2) (.var 2)) (.lit 5)) (.lit 1)) (.run q23abbba) (.fork (.eql (.rem (.sel .u8 (.row 2) (.var 2)) (.lit 5)) (.lit 2)) (.run q23abbbba) (.fork (.eql (.rem (.sel .u8 (.row 2) (.var 2)) (.lit 5)) (.lit 3)) (.run q23abbbbba) (.run q23abbbbbb))))))) (.run q23b)
theorem c24 : Go.Ev.CoversΦ Try.prog cuts φ 24 m24 true t24.cfg g24 := .fork (.lss (.var 2) (.lit 8000)) (.fork (.lss (.var 4) (.add (.var 2) (.lit 1))) (.fork (.eql (.sel .i64 (.row 0) (.rem (.add (.var 2) (.lit 1)) (.lit 6))) (.var 0)) (.run q24aaa) (.fork (.eql (.rem (.add (.var 2) (.lit 1)) (.lit 6)) (.lit 0)) (.run q24aaba) (.fork (.eql (.rem (.add (.var 2) (.lit 1)) (.lit 6)) (.lit 1)) (.run q24aabba) (.fork (.eql (.rem (.add (.var 2) (.lit 1)) (.lit 6)) (.lit 2)) (.run q24aabbba) (.fork (.eql (.rem (.add (.var 2) (.lit 1)) (.lit 6)) (.lit 3)) (.run q24aabbbba) (.fork (.eql (.rem (.add (.var 2) (.lit 1)) (.lit 6)) (.lit 4)) (.run q24aabbbbba) (.run q24aabbbbbb))))))) (.fork (.eql (.sel .i64 (.row 0) (.rem (.sel .u8 (.row 2) (.var 2)) (.lit 6))) (.var 0)) (.run q24aba) (.fork (.eql (.rem (.sel .u8 (.row 2) (.var 2)) (.lit 6)) (.lit 0)) (.run q24abba) (.fork (.eql (.rem (.sel .u8 (.row 2) (.var 2)) (.lit 6)) (.lit 1)) (.run q24abbba) (.fork (.eql (.rem (.sel .u8 (.row 2) (.var 2)) (.lit 6)) (.lit 2)) (.run q24abbbba) (.fork (.eql (.rem (.sel .u8 (.row 2) (.var 2)) (.lit 6)) (.lit 3)) (.run q24abbbbba) (.fork (.eql (.rem (.sel .u8 (.row 2) (.var 2)) (.lit 6)) (.lit 4)) (.run q24abbbbbba) (.run q24abbbbbbb)))))))) (.run q24b)

theorem walk (w : World) {vs : List Value} {cds : List Go.Ev.CD} (hf : Go.Ev.FitP w shape vs cds) :
    Calls Try.prog 4 vs.toArray w fun e w' => e = .returned (.bool true) ∧ Below w.heap.size w w' :=
  Go.Ev.calls_shapeΦ (l := cuts) (φ := φ) (top := top) (by kernel_rfl) (by kernel_rfl) ⟨.run q0, .run q1, .run q2, .run q3, c4, c5, c6, .run q7, .run q8, .run q9, c10, c11, c12, .run q13, c14, c15, c16, c17, c18, c19, c20, c21, c22, c23, c24, .run q25, .run q26, .run q27, .run q28, .run q29, .run q30, .run q31, .run q32, .run q33, .run q34, .run q35, .run q36, .run q37, .run q38, .run q39, .run q40, .run q41, .run q42, trivial⟩ (by kernel_rfl) cs (fun _ _ _ => trivial) w hf

theorem shaped : Go.Ev.paramShs Try.prog Try.f4.params.toList = some shape := by kernel_rfl
theorem laid : laidOutB Try.prog = true := by kernel_rfl
theorem reads : (Try.f4.params.toList.all fun t => Try.prog.readableRec t && decide (t < Try.prog.types.size)) = true := by kernel_rfl

set_option maxRecDepth 100000 in
theorem lifted (os : Os) (started : os.Started) (H : Type) (enc : TypeId × Value → H) :
    ReturnsInHanded {} Try.checked os 4 .any (Rows.latchCountsSpec.pre6 enc Try.prog Try.f4 Rows.latchCountsRow.domain false) (Rows.latchCountsSpec.post enc Try.prog Try.f4 false true false false) := by
  refine returnsInHanded_of_change (C := Try.checked) own started (by kernel_rfl) Try.func4
    (ChangeSpec.witness6 (enc := enc) (C := Try.checked) false ⟨#[], #[.slice none 0 0, .agg #[.int .u8 0, .int .u8 0], .bool false], []⟩ 8 (by kernel_rfl) (by kernel_rfl) (by kernel_rfl) (by kernel_rfl)) ?_
  intro W base args ds gs before hval0 hW hcnd _
  have hval : ∀ (j : Nat) t v, Try.f4.params.toList[j]? = some t → args.toList[j]? = some v → Value.okWide Try.prog W .any base t v := fun j t v ht hv => hval0 j t v (by simpa using ht) (by simpa using hv)
  have hW' := hW
  obtain ⟨p, q, hA, hV, rfl, hfz, hnd⟩ := hW
  have hB := hA
  rw [Try.params4] at hB
  obtain ⟨v0, vs0, d0, ds0, p0, r0, hargs0, rfl, rfl, h0, k0⟩ := trodAll_cons hB
  obtain ⟨v1, vs1, d1, ds1, p1, r1, hargs1, rfl, rfl, h1, k1⟩ := trodAll_cons k0
  obtain ⟨v2, vs2, d2, ds2, p2, r2, hargs2, rfl, rfl, h2, k2⟩ := trodAll_cons k1
  obtain ⟨-, hds, -⟩ := trodAll_nil k2
  subst hds
  obtain ⟨rfl, rfl⟩ := trodVars_none hV
  simp only [List.append_nil] at hW'
  obtain ⟨cds, hfit⟩ := Go.Ev.args_fit hA hval shaped
  refine (walk W hfit).mono fun e W' ⟨he, hg⟩ => ?_
  subst he
  exact ⟨_, rfl, Go.Ev.post_args (pv := []) hW' (fun _ _ _ => (trodAll_cons_mk (shut_bool Try.underlying4 _) trodAll_mk0)) (Go.Ev.args_stay laid reads hg hA (fun x hx => by simpa using hW'.lt x hx)) (fun _ _ => rfl) hg⟩

theorem over : Rows.latchCountsRow.holds Try.pinned (OpenSpec.ofChange Rows.latchCountsSpec) :=
  OpenClaim.holds_of_wide 4 Try.f4 rfl rfl rfl rfl rfl rfl rfl ⟨rfl, rfl, rfl, rfl, rfl⟩ rfl rfl rfl rfl rfl (by kernel_rfl) Try.func4 (by kernel_rfl)
    (of_decide_eq_true (by kernel_rfl)) (by unfold Func.isWrapper; first | (rw [if_pos (by decide +kernel)]; kernel_rfl) | (rw [if_neg (by decide +kernel)]; exact ⟨rfl, rfl⟩))
    (fun os started H enc _ => lifted os started H enc)

/-- the statement -/
theorem proved : Rows.LatchCountsSaid :=
  over
end Go.Proofs.Ytkiodlgicjlbaaa.latchCounts
