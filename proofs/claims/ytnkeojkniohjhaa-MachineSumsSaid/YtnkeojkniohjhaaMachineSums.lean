/- The law MachineSums returns true at every input, and its arguments read behind the call as before: the walk is cut at the ends of loops, and each part is one run of the evaluator Ev in the kernel, whose soundness is proved in the Ev texts. -/
import Derived.Test.YtnkeojkniohjhaaRows
import Derived.WalkKit
import Derived.ProofKit
import Derived.OpenShut
import Derived.Test.YtnkeojkniohjhaaMachineSumsQ1
import Derived.Test.YtnkeojkniohjhaaMachineSumsQ2
import Derived.Test.YtnkeojkniohjhaaMachineSumsQ3
import Derived.Test.YtnkeojkniohjhaaMachineSumsQ4
import Derived.Test.YtnkeojkniohjhaaMachineSumsQ5
import Derived.Test.YtnkeojkniohjhaaMachineSumsQ6
import Derived.Test.YtnkeojkniohjhaaMachineSumsQ7
import Derived.Test.YtnkeojkniohjhaaMachineSumsQ8
import Derived.Test.YtnkeojkniohjhaaMachineSumsQ9
import Derived.Test.YtnkeojkniohjhaaMachineSumsQ10
import Derived.Test.YtnkeojkniohjhaaMachineSumsQ11
import Derived.Test.YtnkeojkniohjhaaMachineSumsQ12
namespace Go.Proofs.Ytnkeojkniohjhaa.machineSums
open Go.ChangeShapes Go.WideShapes Go.ChangeAt Go.RowKit

theorem own : ownKnob Try.prog.godebug = none := by kernel_rfl

theorem cs : Go.Ev.CoversΦ Try.prog cuts φ 47 { rank := top } false (Go.Ev.startP Try.prog 3 shape) (Go.Ev.ctxP shape) := .fork (.var 0) (.fork (.lss n0 v1) (.run qb1) (.run qb2)) (.run qb3)
theorem c0 : Go.Ev.CoversΦ Try.prog cuts φ 0 ⟨11, none, 0, none, 0, none⟩ true t0.cfg g0 := .fork (.lss n1 v1) (.run qb4) (.run qb5)
theorem c1 : Go.Ev.CoversΦ Try.prog cuts φ 1 ⟨10, none, 0, none, 0, none⟩ true t1.cfg g1 := .fork (.lss n2 v1) (.run qb6) (.run qb7)
theorem c2 : Go.Ev.CoversΦ Try.prog cuts φ 2 ⟨9, none, 0, none, 0, none⟩ true t2.cfg g2 := .fork (.lss n3 v1) (.run qb8) (.run qb9)
theorem c3 : Go.Ev.CoversΦ Try.prog cuts φ 3 ⟨8, none, 0, none, 0, none⟩ true t3.cfg g3 := .fork (.lss n4 v1) (.run qb10) (.run qb11)
theorem c4 : Go.Ev.CoversΦ Try.prog cuts φ 4 ⟨7, none, 0, none, 0, none⟩ true t4.cfg g4 := .fork (.lss n5 v1) (.run qb12) (.run qb13)
theorem c6 : Go.Ev.CoversΦ Try.prog cuts φ 6 ⟨5, none, 0, none, 0, none⟩ true t6.cfg g6 := .fork (.var 0) (.fork (.lss n0 v4) (.fork (.eql (.rem (.sel .u64 r0 n0) n6) n0) (.run qb16) (.fork (.eql (.rem (.sel .u64 r0 n0) n6) n1) (.run qb18) (.fork (.eql (.rem (.sel .u64 r0 n0) n6) n2) (.run qb20) (.fork (.eql (.rem (.sel .u64 r0 n0) n6) n3) (.run qb22) (.run qb23))))) (.run qb24)) (.run qb25)
theorem c8 : Go.Ev.CoversΦ Try.prog cuts φ 8 ⟨5, none, 0, none, 0, none⟩ true t8.cfg g8 := .fork (.var 0) (.fork (.lss n0 v3) (.fork (.lss (.rem (.sel .u64 r0 n0) n6) n5) (.fork (.eql (.rem (.sel .u64 r0 n0) n6) n0) (.run qb29) (.fork (.eql (.rem (.sel .u64 r0 n0) n6) n1) (.run qb31) (.fork (.eql (.rem (.sel .u64 r0 n0) n6) n2) (.run qb33) (.run qb34)))) (.run qb35)) (.run qb36)) (.run qb37)
theorem c10 : Go.Ev.CoversΦ Try.prog cuts φ 10 ⟨5, none, 0, none, 0, none⟩ true t10.cfg g10 := .fork (.var 0) (.fork (.lss n0 v3) (.fork (.lss (.rem (.sel .u64 r0 n0) n6) n4) (.fork (.eql (.rem (.sel .u64 r0 n0) n6) n0) (.run qb41) (.fork (.eql (.rem (.sel .u64 r0 n0) n6) n1) (.run qb43) (.run qb44))) (.run qb45)) (.run qb46)) (.run qb47)
theorem c12 : Go.Ev.CoversΦ Try.prog cuts φ 12 ⟨5, none, 0, none, 0, none⟩ true t12.cfg g12 := .fork (.var 0) (.fork (.lss n0 v3) (.fork (.lss (.rem (.sel .u64 r0 n0) n6) n3) (.fork (.eql (.rem (.sel .u64 r0 n0) n6) n0) (.run qb51) (.run qb52)) (.run qb53)) (.run qb54)) (.run qb55)
theorem c14 : Go.Ev.CoversΦ Try.prog cuts φ 14 ⟨5, none, 0, none, 0, none⟩ true t14.cfg g14 := .fork (.var 0) (.fork (.lss n0 v3) (.fork (.lss (.rem (.sel .u64 r0 n0) n6) n2) (.run qb58) (.run qb59)) (.run qb60)) (.run qb61)
theorem c23 : Go.Ev.CoversΦ Try.prog cuts φ 23 m23 true t23.cfg g23 := .fork (.lss v9 v3) (.fork (.lss v9 (.lit 300)) (.run qb63) (.run qb64)) (.run qb65)
theorem c26 : Go.Ev.CoversΦ Try.prog cuts φ 26 m26 true t26.cfg g26 := .fork (.lss v9 v3) (.fork (.lss v9 (.lit 300)) (.fork (.lss (.rem (.sel .u64 r0 (.mul v9 n2)) n6) n2) (.fork (.eql (.rem (.sel .u64 r0 (.mul v9 n2)) n6) n0) (.run qb69) (.run qb70)) (.run qb71)) (.run qb72)) (.run qb73)
theorem c27 : Go.Ev.CoversΦ Try.prog cuts φ 27 ⟨3, none, 0, none, 0, none⟩ true t27.cfg g27 := .fork (.lss n0 v7) (.run qb74) (.run qb75)
theorem c29 : Go.Ev.CoversΦ Try.prog cuts φ 29 m29 true t29.cfg g29 := .fork (.lss v9 v3) (.fork (.lss v9 (.lit 300)) (.fork (.lss (.rem (.sel .u64 r0 (.mul v9 n2)) n6) n3) (.fork (.eql (.rem (.sel .u64 r0 (.mul v9 n2)) n6) n0) (.run qb79) (.fork (.eql (.rem (.sel .u64 r0 (.mul v9 n2)) n6) n1) (.run qb81) (.run qb82))) (.run qb83)) (.run qb84)) (.run qb85)
theorem c30 : Go.Ev.CoversΦ Try.prog cuts φ 30 ⟨3, none, 0, none, 0, none⟩ true t30.cfg g30 := .fork (.lss n0 v8) (.fork (.lss n0 v9) (.run qb87) (.run qb88)) (.fork (.lss n0 v9) (.run qb90) (.run qb91))
theorem c32 : Go.Ev.CoversΦ Try.prog cuts φ 32 m32 true t32.cfg g32 := .fork (.lss v9 v3) (.fork (.lss v9 (.lit 300)) (.fork (.lss (.rem (.sel .u64 r0 (.mul v9 n2)) n6) n4) (.fork (.eql (.rem (.sel .u64 r0 (.mul v9 n2)) n6) n0) (.run qb95) (.fork (.eql (.rem (.sel .u64 r0 (.mul v9 n2)) n6) n1) (.run qb97) (.fork (.eql (.rem (.sel .u64 r0 (.mul v9 n2)) n6) n2) (.run qb99) (.run qb100)))) (.run qb101)) (.run qb102)) (.run qb103)
theorem c33 : Go.Ev.CoversΦ Try.prog cuts φ 33 ⟨3, none, 0, none, 0, none⟩ true t33.cfg g33 := .fork (.lss n0 v9) (.fork (.lss n0 v10) (.fork (.lss n0 v11) (.run qb106) (.run qb107)) (.fork (.lss n0 v11) (.run qb109) (.run qb110))) (.fork (.lss n0 v10) (.fork (.lss n0 v11) (.run qb113) (.run qb114)) (.fork (.lss n0 v11) (.run qb116) (.run qb117)))
theorem c35 : Go.Ev.CoversΦ Try.prog cuts φ 35 m35 true t35.cfg g35 := .fork (.lss v9 v3) (.fork (.lss v9 (.lit 300)) (.fork (.lss (.rem (.sel .u64 r0 (.mul v9 n2)) n6) n5) (.fork (.eql (.rem (.sel .u64 r0 (.mul v9 n2)) n6) n0) (.run qb121) (.fork (.eql (.rem (.sel .u64 r0 (.mul v9 n2)) n6) n1) (.run qb123) (.fork (.eql (.rem (.sel .u64 r0 (.mul v9 n2)) n6) n2) (.run qb125) (.fork (.eql (.rem (.sel .u64 r0 (.mul v9 n2)) n6) n3) (.run qb127) (.run qb128))))) (.run qb129)) (.run qb130)) (.run qb131)
theorem c36 : Go.Ev.CoversΦ Try.prog cuts φ 36 ⟨3, none, 0, none, 0, none⟩ true t36.cfg g36 := .fork (.lss n0 v10) (.fork (.lss n0 v11) (.fork (.lss n0 v12) (.fork (.lss n0 v13) (.run qb135) (.run qb136)) (.fork (.lss n0 v13) (.run qb138) (.run qb139))) (.fork (.lss n0 v12) (.fork (.lss n0 v13) (.run qb142) (.run qb143)) (.fork (.lss n0 v13) (.run qb145) (.run qb146)))) (.fork (.lss n0 v11) (.fork (.lss n0 v12) (.fork (.lss n0 v13) (.run qb150) (.run qb151)) (.fork (.lss n0 v13) (.run qb153) (.run qb154))) (.fork (.lss n0 v12) (.fork (.lss n0 v13) (.run qb157) (.run qb158)) (.fork (.lss n0 v13) (.run qb160) (.run qb161))))
theorem c38 : Go.Ev.CoversΦ Try.prog cuts φ 38 m38 true t38.cfg g38 := .fork (.lss v10 v4) (.fork (.lss v10 (.lit 300)) (.fork (.eql (.rem (.sel .u64 r0 (.mul v10 n2)) n6) n0) (.run qb164) (.fork (.eql (.rem (.sel .u64 r0 (.mul v10 n2)) n6) n1) (.run qb166) (.fork (.eql (.rem (.sel .u64 r0 (.mul v10 n2)) n6) n2) (.run qb168) (.fork (.eql (.rem (.sel .u64 r0 (.mul v10 n2)) n6) n3) (.run qb170) (.fork (.eql (.rem (.sel .u64 r0 (.mul v10 n2)) n6) n4) (.run qb172) (.run qb173)))))) (.run qb174)) (.run qb175)
theorem c39 : Go.Ev.CoversΦ Try.prog cuts φ 39 ⟨3, none, 0, none, 0, none⟩ true t39.cfg g39 := .fork (.lss n0 v11) (.fork (.lss n0 v12) (.fork (.lss n0 v13) (.fork (.lss n0 v14) (.fork (.lss n0 v15) (.run qb180) (.run qb181)) (.fork (.lss n0 v15) (.run qb183) (.run qb184))) (.fork (.lss n0 v14) (.fork (.lss n0 v15) (.run qb187) (.run qb188)) (.fork (.lss n0 v15) (.run qb190) (.run qb191)))) (.fork (.lss n0 v13) (.fork (.lss n0 v14) (.fork (.lss n0 v15) (.run qb195) (.run qb196)) (.fork (.lss n0 v15) (.run qb198) (.run qb199))) (.fork (.lss n0 v14) (.fork (.lss n0 v15) (.run qb202) (.run qb203)) (.fork (.lss n0 v15) (.run qb205) (.run qb206))))) (.fork (.lss n0 v12) (.fork (.lss n0 v13) (.fork (.lss n0 v14) (.fork (.lss n0 v15) (.run qb211) (.run qb212)) (.fork (.lss n0 v15) (.run qb214) (.run qb215))) (.fork (.lss n0 v14) (.fork (.lss n0 v15) (.run qb218) (.run qb219)) (.fork (.lss n0 v15) (.run qb221) (.run qb222)))) (.fork (.lss n0 v13) (.fork (.lss n0 v14) (.fork (.lss n0 v15) (.run qb226) (.run qb227)) (.fork (.lss n0 v15) (.run qb229) (.run qb230))) (.fork (.lss n0 v14) (.fork (.lss n0 v15) (.run qb233) (.run qb234)) (.fork (.lss n0 v15) (.run qb236) (.run qb237)))))
theorem c41 : Go.Ev.CoversΦ Try.prog cuts φ 41 m41 true t41.cfg g41 := .fork (.lss n0 v11) (.fork (.lss n0 v12) (.fork (.lss n0 v13) (.fork (.lss n0 v14) (.fork (.lss n0 v15) (.run qb242) (.run qb243)) (.fork (.lss n0 v15) (.run qb245) (.run qb246))) (.fork (.lss n0 v14) (.fork (.lss n0 v15) (.run qb249) (.run qb250)) (.fork (.lss n0 v15) (.run qb252) (.run qb253)))) (.fork (.lss n0 v13) (.fork (.lss n0 v14) (.fork (.lss n0 v15) (.run qb257) (.run qb258)) (.fork (.lss n0 v15) (.run qb260) (.run qb261))) (.fork (.lss n0 v14) (.fork (.lss n0 v15) (.run qb264) (.run qb265)) (.fork (.lss n0 v15) (.run qb267) (.run qb268))))) (.fork (.lss n0 v12) (.fork (.lss n0 v13) (.fork (.lss n0 v14) (.fork (.lss n0 v15) (.run qb273) (.run qb274)) (.fork (.lss n0 v15) (.run qb276) (.run qb277))) (.fork (.lss n0 v14) (.fork (.lss n0 v15) (.run qb280) (.run qb281)) (.fork (.lss n0 v15) (.run qb283) (.run qb284)))) (.fork (.lss n0 v13) (.fork (.lss n0 v14) (.fork (.lss n0 v15) (.run qb288) (.run qb289)) (.fork (.lss n0 v15) (.run qb291) (.run qb292))) (.fork (.lss n0 v14) (.fork (.lss n0 v15) (.run qb295) (.run qb296)) (.fork (.lss n0 v15) (.run qb298) (.run qb299)))))
theorem c42 : Go.Ev.CoversΦ Try.prog cuts φ 42 m42 true t42.cfg g42 := .fork (.lss n0 v10) (.fork (.lss n0 v11) (.fork (.lss n0 v12) (.fork (.lss n0 v13) (.run qb303) (.run qb304)) (.fork (.lss n0 v13) (.run qb306) (.run qb307))) (.fork (.lss n0 v12) (.fork (.lss n0 v13) (.run qb310) (.run qb311)) (.fork (.lss n0 v13) (.run qb313) (.run qb314)))) (.fork (.lss n0 v11) (.fork (.lss n0 v12) (.fork (.lss n0 v13) (.run qb318) (.run qb319)) (.fork (.lss n0 v13) (.run qb321) (.run qb322))) (.fork (.lss n0 v12) (.fork (.lss n0 v13) (.run qb325) (.run qb326)) (.fork (.lss n0 v13) (.run qb328) (.run qb329))))
theorem c43 : Go.Ev.CoversΦ Try.prog cuts φ 43 m43 true t43.cfg g43 := .fork (.lss n0 v9) (.fork (.lss n0 v10) (.fork (.lss n0 v11) (.run qb332) (.run qb333)) (.fork (.lss n0 v11) (.run qb335) (.run qb336))) (.fork (.lss n0 v10) (.fork (.lss n0 v11) (.run qb339) (.run qb340)) (.fork (.lss n0 v11) (.run qb342) (.run qb343)))
theorem c44 : Go.Ev.CoversΦ Try.prog cuts φ 44 m44 true t44.cfg g44 := .fork (.lss n0 v8) (.fork (.lss n0 v9) (.run qb345) (.run qb346)) (.fork (.lss n0 v9) (.run qb348) (.run qb349))
theorem c45 : Go.Ev.CoversΦ Try.prog cuts φ 45 m45 true t45.cfg g45 := .fork (.lss n0 v7) (.run qb350) (.run qb351)

theorem walk (w : World) {vs : List Value} {cds : List Go.Ev.CD} (hf : Go.Ev.FitP w shape vs cds) :
    Calls Try.prog 3 vs.toArray w fun e w' => e = .returned (.bool true) ∧ Below w.heap.size w w' :=
  Go.Ev.calls_shapeΦ (l := cuts) (φ := φ) (top := top) (by kernel_rfl) (by kernel_rfl) ⟨c0, c1, c2, c3, c4, .run q5, c6, .run q7, c8, .run q9, c10, .run q11, c12, .run q13, c14, .run q15, .run q16, .run q17, .run q18, .run q19, .run q20, .run q21, .run q22, c23, .run q24, .run q25, c26, c27, .run q28, c29, c30, .run q31, c32, c33, .run q34, c35, c36, .run q37, c38, c39, .run q40, c41, c42, c43, c44, c45, .run q46, trivial⟩ (by kernel_rfl) cs (fun _ _ _ => trivial) w hf

theorem shaped : Go.Ev.paramShs Try.prog Try.f3.params.toList = some shape := by kernel_rfl
theorem laid : laidOutB Try.prog = true := by kernel_rfl
theorem reads : (Try.f3.params.toList.all fun t => Try.prog.readableRec t && decide (t < Try.prog.types.size)) = true := by kernel_rfl

set_option maxRecDepth 100000 in
theorem lifted (os : Os) (started : os.Started) (H : Type) (enc : TypeId × Value → H) :
    ReturnsInHanded {} Try.checked os 3 .any (Rows.machineSumsSpec.pre6 enc Try.prog Try.f3 Rows.machineSumsRow.domain false) (Rows.machineSumsSpec.post enc Try.prog Try.f3 false true false false) := by
  refine returnsInHanded_of_change (C := Try.checked) own started (by kernel_rfl) Try.func3
    (ChangeSpec.witness6 (enc := enc) (C := Try.checked) false ⟨#[], #[.slice none 0 0, .slice none 0 0], []⟩ 8 (by kernel_rfl) (by kernel_rfl) (by kernel_rfl) (by kernel_rfl)) ?_
  intro W base args ds gs before hval0 hW hcnd _
  have hval : ∀ (j : Nat) t v, Try.f3.params.toList[j]? = some t → args.toList[j]? = some v → Value.okWide Try.prog W .any base t v := fun j t v ht hv => hval0 j t v (by simpa using ht) (by simpa using hv)
  have hW' := hW
  obtain ⟨p, q, hA, hV, rfl, hfz, hnd⟩ := hW
  have hB := hA
  rw [Try.params3] at hB
  obtain ⟨v0, vs0, d0, ds0, p0, r0, hargs0, rfl, rfl, h0, k0⟩ := trodAll_cons hB
  obtain ⟨v1, vs1, d1, ds1, p1, r1, hargs1, rfl, rfl, h1, k1⟩ := trodAll_cons k0
  obtain ⟨-, hds, -⟩ := trodAll_nil k1
  subst hds
  obtain ⟨rfl, rfl⟩ := trodVars_none hV
  simp only [List.append_nil] at hW'
  obtain ⟨cds, hfit⟩ := Go.Ev.args_fit hA hval shaped
  refine (walk W hfit).mono fun e W' ⟨he, hg⟩ => ?_
  subst he
  exact ⟨_, rfl, Go.Ev.post_args (pv := []) hW' (fun _ _ _ => (trodAll_cons_mk (shut_bool Try.underlying4 _) trodAll_mk0)) (Go.Ev.args_stay laid reads hg hA (fun x hx => by simpa using hW'.lt x hx)) (fun _ _ => rfl) hg⟩

theorem over : Rows.machineSumsRow.holds Try.pinned (OpenSpec.ofChange Rows.machineSumsSpec) :=
  OpenClaim.holds_of_wide 3 Try.f3 rfl rfl rfl rfl rfl rfl rfl ⟨rfl, rfl, rfl, rfl, rfl⟩ rfl rfl rfl rfl rfl (by kernel_rfl) Try.func3 (by kernel_rfl)
    (of_decide_eq_true (by kernel_rfl)) (by unfold Func.isWrapper; first | (rw [if_pos (by decide +kernel)]; kernel_rfl) | (rw [if_neg (by decide +kernel)]; exact ⟨rfl, rfl⟩))
    (fun os started H enc _ => lifted os started H enc)

/-- the statement -/
theorem proved : Rows.MachineSumsSaid :=
  over
end Go.Proofs.Ytnkeojkniohjhaa.machineSums
