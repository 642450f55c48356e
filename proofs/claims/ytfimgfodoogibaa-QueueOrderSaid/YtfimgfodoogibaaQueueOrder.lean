/- The law QueueOrder returns true at every input, and its arguments read behind the call as before: the walk is cut at the ends of loops, and each part is one run of the evaluator Ev in the kernel, whose soundness is proved in the Ev texts. -/
import Derived.Test.YtfimgfodoogibaaRows
import Derived.WalkKit
import Derived.ProofKit
import Derived.OpenShut
import Derived.Test.YtfimgfodoogibaaQueueOrderQ1
import Derived.Test.YtfimgfodoogibaaQueueOrderQ2
import Derived.Test.YtfimgfodoogibaaQueueOrderQ3
import Derived.Test.YtfimgfodoogibaaQueueOrderQ4
import Derived.Test.YtfimgfodoogibaaQueueOrderQ5
import Derived.Test.YtfimgfodoogibaaQueueOrderQ6
import Derived.Test.YtfimgfodoogibaaQueueOrderQ7
import Derived.Test.YtfimgfodoogibaaQueueOrderQ8
import Derived.Test.YtfimgfodoogibaaQueueOrderQ9
import Derived.Test.YtfimgfodoogibaaQueueOrderQ10
import Derived.Test.YtfimgfodoogibaaQueueOrderQ11
import Derived.Test.YtfimgfodoogibaaQueueOrderQ12
import Derived.Test.YtfimgfodoogibaaQueueOrderQ13
import Derived.Test.YtfimgfodoogibaaQueueOrderQ14
import Derived.Test.YtfimgfodoogibaaQueueOrderQ15
namespace Go.Proofs.Ytfimgfodoogibaa.queueOrder
open Go.ChangeShapes Go.WideShapes Go.ChangeAt Go.RowKit

theorem own : ownKnob Try.prog.godebug = none := by kernel_rfl

theorem cs : Go.Ev.CoversΦ Try.prog cuts φ 141 { rank := top } false (Go.Ev.startP Try.prog 3 shape) (Go.Ev.ctxP shape) := .fork (.eql (.rem v0 n8) n0) (.run qb0) (.fork (.eql (.rem v0 n8) n1) (.run qb2) (.fork (.eql (.rem v0 n8) n2) (.run qb4) (.fork (.eql (.rem v0 n8) n3) (.run qb6) (.fork (.eql (.rem v0 n8) n4) (.run qb8) (.fork (.eql (.rem v0 n8) n5) (.run qb10) (.fork (.eql (.rem v0 n8) n6) (.run qb12) (.run qb13)))))))
theorem c0 : Go.Ev.CoversΦ Try.prog cuts φ 0 ⟨32, none, 0, none, 0, none⟩ true t0.cfg g0 := .fork (.eql (.rem v2 n8) n0) (.run qb14) (.run qb15)
theorem c1 : Go.Ev.CoversΦ Try.prog cuts φ 1 ⟨31, none, 0, none, 0, none⟩ true t1.cfg g1 := .fork (.eql (.rem v3 n8) n0) (.run qb16) (.fork (.eql (.rem v3 n8) n1) (.run qb18) (.fork (.eql (.rem v3 n8) n2) (.run qb20) (.fork (.eql (.rem v3 n8) n3) (.run qb22) (.run qb23))))
theorem c2 : Go.Ev.CoversΦ Try.prog cuts φ 2 ⟨30, none, 0, none, 0, none⟩ true t2.cfg g2 := .fork (.eql (.rem v4 n8) n0) (.run qb24) (.fork (.eql (.rem v4 n8) n1) (.run qb26) (.fork (.eql (.rem v4 n8) n2) (.run qb28) (.fork (.eql (.rem v4 n8) n3) (.run qb30) (.fork (.eql (.rem v4 n8) n4) (.run qb32) (.run qb33)))))
theorem c3 : Go.Ev.CoversΦ Try.prog cuts φ 3 ⟨29, none, 0, none, 0, none⟩ true t3.cfg g3 := .fork (.eql (.rem v5 n8) n0) (.run qb34) (.fork (.eql (.rem v5 n8) n1) (.run qb36) (.fork (.eql (.rem v5 n8) n2) (.run qb38) (.fork (.eql (.rem v5 n8) n3) (.run qb40) (.fork (.eql (.rem v5 n8) n4) (.run qb42) (.fork (.eql (.rem v5 n8) n5) (.run qb44) (.run qb45))))))
theorem c4 : Go.Ev.CoversΦ Try.prog cuts φ 4 ⟨28, none, 0, none, 0, none⟩ true t4.cfg g4 := .fork (.eql (.rem v6 n8) n0) (.run qb46) (.fork (.eql (.rem v6 n8) n1) (.run qb48) (.fork (.eql (.rem v6 n8) n2) (.run qb50) (.fork (.eql (.rem v6 n8) n3) (.run qb52) (.fork (.eql (.rem v6 n8) n4) (.run qb54) (.fork (.eql (.rem v6 n8) n5) (.run qb56) (.run qb57))))))
theorem c5 : Go.Ev.CoversΦ Try.prog cuts φ 5 ⟨27, none, 0, none, 0, none⟩ true t5.cfg g5 := .fork (.eql (.rem v7 n8) n0) (.run qb58) (.fork (.eql (.rem v7 n8) n1) (.run qb60) (.fork (.eql (.rem v7 n8) n2) (.run qb62) (.fork (.eql (.rem v7 n8) n3) (.run qb64) (.fork (.eql (.rem v7 n8) n4) (.run qb66) (.fork (.eql (.rem v7 n8) n5) (.run qb68) (.run qb69))))))
theorem c6 : Go.Ev.CoversΦ Try.prog cuts φ 6 ⟨26, none, 0, none, 0, none⟩ true t6.cfg g6 := .fork (.eql (.rem v8 n8) n0) (.run qb70) (.fork (.eql (.rem v8 n8) n1) (.run qb72) (.fork (.eql (.rem v8 n8) n2) (.run qb74) (.fork (.eql (.rem v8 n8) n3) (.run qb76) (.fork (.eql (.rem v8 n8) n4) (.run qb78) (.fork (.eql (.rem v8 n8) n5) (.run qb80) (.fork (.eql (.rem v8 n8) n6) (.run qb82) (.run qb83)))))))
theorem c22 : Go.Ev.CoversΦ Try.prog cuts φ 22 ⟨20, none, 0, none, 0, none⟩ true t22.cfg g8 := .fork (.eql (.bits .and .u8 (.shr v0 4) n1) n1) (.run qb84) (.run qb85)
theorem c27 : Go.Ev.CoversΦ Try.prog cuts φ 27 ⟨19, none, 0, none, 0, none⟩ true t27.cfg g24 := .fork (.eql (.bits .and .u8 (.shr v0 5) n1) n1) (.run qb86) (.run qb87)
theorem c28 : Go.Ev.CoversΦ Try.prog cuts φ 28 ⟨18, none, 0, none, 0, none⟩ true t28.cfg g8 := .fork (.eql (.bits .and .u8 (.shr v0 5) n1) n1) (.run qb88) (.run qb89)
theorem c33 : Go.Ev.CoversΦ Try.prog cuts φ 33 ⟨18, none, 0, none, 0, none⟩ true t33.cfg g30 := .fork (.eql (.bits .and .u8 (.shr v0 6) n1) n1) (.run qb90) (.run qb91)
theorem c34 : Go.Ev.CoversΦ Try.prog cuts φ 34 ⟨17, none, 0, none, 0, none⟩ true t34.cfg g30 := .fork (.eql (.bits .and .u8 (.shr v0 6) n1) n1) (.run qb92) (.run qb93)
theorem c35 : Go.Ev.CoversΦ Try.prog cuts φ 35 ⟨16, none, 0, none, 0, none⟩ true t35.cfg g8 := .fork (.eql (.bits .and .u8 (.shr v0 6) n1) n1) (.run qb94) (.run qb95)
theorem c38 : Go.Ev.CoversΦ Try.prog cuts φ 38 ⟨16, none, 0, none, 0, none⟩ true t38.cfg g37 := .fork (.eql (.shr v0 7) n1) (.run qb96) (.run qb97)
theorem c39 : Go.Ev.CoversΦ Try.prog cuts φ 39 ⟨17, none, 0, none, 0, none⟩ true t39.cfg g37 := .fork (.eql (.shr v0 7) n1) (.run qb98) (.run qb99)
theorem c40 : Go.Ev.CoversΦ Try.prog cuts φ 40 ⟨17, none, 0, none, 0, none⟩ true t40.cfg g37 := .fork (.eql (.shr v0 7) n1) (.run qb100) (.run qb101)
theorem c41 : Go.Ev.CoversΦ Try.prog cuts φ 41 ⟨16, none, 0, none, 0, none⟩ true t41.cfg g37 := .fork (.eql (.shr v0 7) n1) (.run qb102) (.run qb103)
theorem c42 : Go.Ev.CoversΦ Try.prog cuts φ 42 ⟨15, none, 0, none, 0, none⟩ true t42.cfg g37 := .fork (.eql (.shr v0 7) n1) (.run qb104) (.run qb105)
theorem c43 : Go.Ev.CoversΦ Try.prog cuts φ 43 ⟨14, none, 0, none, 0, none⟩ true t43.cfg g8 := .fork (.eql (.shr v0 7) n1) (.run qb106) (.run qb107)
theorem c59 : Go.Ev.CoversΦ Try.prog cuts φ 59 m59 true t59.cfg g55 := .fork (.lss v0 (.lit 67)) (.run qb108) (.fork (.eql (.rem v2 n2) n0) (.run qb110) (.run qb111))
theorem c62 : Go.Ev.CoversΦ Try.prog cuts φ 62 m62 true t62.cfg g55 := .fork (.lss v0 (.lit 67)) (.run qb112) (.fork (.eql (.rem v2 n3) n0) (.run qb114) (.fork (.eql (.rem v2 n3) n1) (.run qb116) (.run qb117)))
theorem c65 : Go.Ev.CoversΦ Try.prog cuts φ 65 m65 true t65.cfg g55 := .fork (.lss v0 (.lit 67)) (.run qb118) (.fork (.eql (.rem v2 n4) n0) (.run qb120) (.fork (.eql (.rem v2 n4) n1) (.run qb122) (.fork (.eql (.rem v2 n4) n2) (.run qb124) (.run qb125))))
theorem c67 : Go.Ev.CoversΦ Try.prog cuts φ 67 m67 true t67.cfg g55 := .fork (.lss v0 (.lit 67)) (.run qb126) (.fork (.eql (.rem v2 n5) n0) (.run qb128) (.fork (.eql (.rem v2 n5) n1) (.run qb130) (.fork (.eql (.rem v2 n5) n2) (.run qb132) (.fork (.eql (.rem v2 n5) n3) (.run qb134) (.run qb135)))))
theorem c68 : Go.Ev.CoversΦ Try.prog cuts φ 68 m68 true t68.cfg g55 := .fork (.lss v0 (.lit 67)) (.run qb136) (.fork (.eql (.rem v2 n6) n0) (.run qb138) (.fork (.eql (.rem v2 n6) n1) (.run qb140) (.fork (.eql (.rem v2 n6) n2) (.run qb142) (.fork (.eql (.rem v2 n6) n3) (.run qb144) (.fork (.eql (.rem v2 n6) n4) (.run qb146) (.run qb147))))))
theorem c69 : Go.Ev.CoversΦ Try.prog cuts φ 69 m69 true t69.cfg g55 := .fork (.lss v0 (.lit 67)) (.run qb148) (.fork (.eql (.rem v2 n7) n0) (.run qb150) (.fork (.eql (.rem v2 n7) n1) (.run qb152) (.fork (.eql (.rem v2 n7) n2) (.run qb154) (.fork (.eql (.rem v2 n7) n3) (.run qb156) (.fork (.eql (.rem v2 n7) n4) (.run qb158) (.fork (.eql (.rem v2 n7) n5) (.run qb160) (.run qb161)))))))
theorem c70 : Go.Ev.CoversΦ Try.prog cuts φ 70 m70 true t70.cfg g53 := .fork (.lss v0 (.lit 67)) (.run qb162) (.fork (.eql (.rem v1 n8) n0) (.run qb164) (.fork (.eql (.rem v1 n8) n1) (.run qb166) (.fork (.eql (.rem v1 n8) n2) (.run qb168) (.fork (.eql (.rem v1 n8) n3) (.run qb170) (.fork (.eql (.rem v1 n8) n4) (.run qb172) (.fork (.eql (.rem v1 n8) n5) (.run qb174) (.fork (.eql (.rem v1 n8) n6) (.run qb176) (.run qb177))))))))
theorem c71 : Go.Ev.CoversΦ Try.prog cuts φ 71 ⟨9, none, 0, none, 0, none⟩ true t71.cfg g71 := .fork (.eql (.rem v1 n7) n0) (.run qb178) (.fork (.eql (.rem v1 n7) n1) (.run qb180) (.fork (.eql (.rem v1 n7) n2) (.run qb182) (.fork (.eql (.rem v1 n7) n3) (.run qb184) (.fork (.eql (.rem v1 n7) n4) (.run qb186) (.fork (.eql (.rem v1 n7) n5) (.run qb188) (.run qb189))))))
theorem c72 : Go.Ev.CoversΦ Try.prog cuts φ 72 ⟨8, none, 0, none, 0, none⟩ true t72.cfg g71 := .fork (.eql (.rem v2 n6) n0) (.run qb190) (.fork (.eql (.rem v2 n6) n1) (.run qb192) (.fork (.eql (.rem v2 n6) n2) (.run qb194) (.fork (.eql (.rem v2 n6) n3) (.run qb196) (.fork (.eql (.rem v2 n6) n4) (.run qb198) (.run qb199)))))
theorem c73 : Go.Ev.CoversΦ Try.prog cuts φ 73 ⟨10, none, 0, none, 0, none⟩ true t73.cfg g71 := .fork (.eql (.rem v1 n6) n0) (.run qb200) (.fork (.eql (.rem v1 n6) n1) (.run qb202) (.fork (.eql (.rem v1 n6) n2) (.run qb204) (.fork (.eql (.rem v1 n6) n3) (.run qb206) (.fork (.eql (.rem v1 n6) n4) (.run qb208) (.run qb209)))))
theorem c74 : Go.Ev.CoversΦ Try.prog cuts φ 74 ⟨7, none, 0, none, 0, none⟩ true t74.cfg g71 := .fork (.eql (.rem v3 n5) n0) (.run qb210) (.fork (.eql (.rem v3 n5) n1) (.run qb212) (.fork (.eql (.rem v3 n5) n2) (.run qb214) (.fork (.eql (.rem v3 n5) n3) (.run qb216) (.run qb217))))
theorem c75 : Go.Ev.CoversΦ Try.prog cuts φ 75 ⟨11, none, 0, none, 0, none⟩ true t75.cfg g71 := .fork (.eql (.rem v1 n5) n0) (.run qb218) (.fork (.eql (.rem v1 n5) n1) (.run qb220) (.fork (.eql (.rem v1 n5) n2) (.run qb222) (.fork (.eql (.rem v1 n5) n3) (.run qb224) (.run qb225))))
theorem c76 : Go.Ev.CoversΦ Try.prog cuts φ 76 ⟨9, none, 0, none, 0, none⟩ true t76.cfg g71 := .fork (.eql (.rem v2 n5) n0) (.run qb226) (.fork (.eql (.rem v2 n5) n1) (.run qb228) (.fork (.eql (.rem v2 n5) n2) (.run qb230) (.fork (.eql (.rem v2 n5) n3) (.run qb232) (.run qb233))))
theorem c77 : Go.Ev.CoversΦ Try.prog cuts φ 77 ⟨12, none, 0, none, 0, none⟩ true t77.cfg g71 := .fork (.eql (.rem v1 n4) n0) (.run qb234) (.fork (.eql (.rem v1 n4) n1) (.run qb236) (.fork (.eql (.rem v1 n4) n2) (.run qb238) (.run qb239)))
theorem c79 : Go.Ev.CoversΦ Try.prog cuts φ 79 ⟨13, none, 0, none, 0, none⟩ true t79.cfg g71 := .fork (.eql (.rem v1 n3) n0) (.run qb240) (.fork (.eql (.rem v1 n3) n1) (.run qb242) (.run qb243))
theorem c80 : Go.Ev.CoversΦ Try.prog cuts φ 80 ⟨10, none, 0, none, 0, none⟩ true t80.cfg g71 := .fork (.eql (.rem v2 n4) n0) (.run qb244) (.fork (.eql (.rem v2 n4) n1) (.run qb246) (.fork (.eql (.rem v2 n4) n2) (.run qb248) (.run qb249)))
theorem c81 : Go.Ev.CoversΦ Try.prog cuts φ 81 ⟨12, none, 0, none, 0, none⟩ true t81.cfg g71 := .fork (.eql (.rem v1 n2) n0) (.run qb250) (.run qb251)
theorem c82 : Go.Ev.CoversΦ Try.prog cuts φ 82 ⟨8, none, 0, none, 0, none⟩ true t82.cfg g71 := .fork (.eql (.rem v3 n4) n0) (.run qb252) (.fork (.eql (.rem v3 n4) n1) (.run qb254) (.fork (.eql (.rem v3 n4) n2) (.run qb256) (.run qb257)))
theorem c84 : Go.Ev.CoversΦ Try.prog cuts φ 84 ⟨11, none, 0, none, 0, none⟩ true t84.cfg g71 := .fork (.eql (.rem v2 n3) n0) (.run qb258) (.fork (.eql (.rem v2 n3) n1) (.run qb260) (.run qb261))
theorem c86 : Go.Ev.CoversΦ Try.prog cuts φ 86 ⟨12, none, 0, none, 0, none⟩ true t86.cfg g71 := .fork (.eql (.rem v2 n2) n0) (.run qb262) (.run qb263)
theorem c87 : Go.Ev.CoversΦ Try.prog cuts φ 87 ⟨9, none, 0, none, 0, none⟩ true t87.cfg g71 := .fork (.eql (.rem v3 n3) n0) (.run qb264) (.fork (.eql (.rem v3 n3) n1) (.run qb266) (.run qb267))
theorem c91 : Go.Ev.CoversΦ Try.prog cuts φ 91 ⟨10, none, 0, none, 0, none⟩ true t91.cfg g71 := .fork (.eql (.rem v3 n2) n0) (.run qb268) (.run qb269)

set_option maxRecDepth 100000 in
theorem walk (w : World) {vs : List Value} {cds : List Go.Ev.CD} (hf : Go.Ev.FitP w shape vs cds) :
    Calls Try.prog 3 vs.toArray w fun e w' => e = .returned (.bool true) ∧ Below w.heap.size w w' :=
  Go.Ev.calls_shapeΦ (l := cuts) (φ := φ) (top := top) (by kernel_rfl) (by kernel_rfl) ⟨c0, c1, c2, c3, c4, c5, c6, .run q7, .run q8, .run q9, .run q10, .run q11, .run q12, .run q13, .run q14, .run q15, .run q16, .run q17, .run q18, .run q19, .run q20, .run q21, c22, .run q23, .run q24, .run q25, .run q26, c27, c28, .run q29, .run q30, .run q31, .run q32, c33, c34, c35, .run q36, .run q37, c38, c39, c40, c41, c42, c43, .run q44, .run q45, .run q46, .run q47, .run q48, .run q49, .run q50, .run q51, .run q52, .run q53, .run q54, .run q55, .run q56, .run q57, .run q58, c59, .run q60, .run q61, c62, .run q63, .run q64, c65, .run q66, c67, c68, c69, c70, c71, c72, c73, c74, c75, c76, c77, .run q78, c79, c80, c81, c82, .run q83, c84, .run q85, c86, c87, .run q88, .run q89, .run q90, c91, .run q92, .run q93, .run q94, .run q95, .run q96, .run q97, .run q98, .run q99, .run q100, .run q101, .run q102, .run q103, .run q104, .run q105, .run q106, .run q107, .run q108, .run q109, .run q110, .run q111, .run q112, .run q113, .run q114, .run q115, .run q116, .run q117, .run q118, .run q119, .run q120, .run q121, .run q122, .run q123, .run q124, .run q125, .run q126, .run q127, .run q128, .run q129, .run q130, .run q131, .run q132, .run q133, .run q134, .run q135, .run q136, .run q137, .run q138, .run q139, .run q140, trivial⟩ (by kernel_rfl) cs (fun _ _ _ => trivial) w hf

theorem shaped : Go.Ev.paramShs Try.prog Try.f3.params.toList = some shape := by kernel_rfl
theorem laid : laidOutB Try.prog = true := by kernel_rfl
theorem reads : (Try.f3.params.toList.all fun t => Try.prog.readableRec t && decide (t < Try.prog.types.size)) = true := by kernel_rfl

set_option maxRecDepth 100000 in
theorem lifted (os : Os) (started : os.Started) (H : Type) (enc : TypeId × Value → H) :
    ReturnsInHanded {} Try.checked os 3 .any (Rows.queueOrderSpec.pre6 enc Try.prog Try.f3 Rows.queueOrderRow.domain false) (Rows.queueOrderSpec.post enc Try.prog Try.f3 false true false false) := by
  refine returnsInHanded_of_change (C := Try.checked) own started (by kernel_rfl) Try.func3
    (ChangeSpec.witness6 (enc := enc) (C := Try.checked) false ⟨#[], #[.agg #[.int .u8 0, .int .u8 0, .int .u8 0, .int .u8 0, .int .u8 0, .int .u8 0, .int .u8 0, .int .u8 0], .int .u8 0, .agg #[.int .u8 0, .int .u8 0, .int .u8 0, .int .u8 0]], []⟩ 8 (by kernel_rfl) (by kernel_rfl) (by kernel_rfl) (by kernel_rfl)) ?_
  intro W base args ds gs before hval0 hW hcnd _
  have hval : ∀ (j : Nat) t v, Try.f3.params.toList[j]? = some t → args.toList[j]? = some v → Value.okWide Try.prog W .any base t v := fun j t v ht hv => hval0 j t v (by simpa using ht) (by simpa using hv)
  have hW' := hW
  obtain ⟨p, q, hA, hV, rfl, hfz, hnd⟩ := hW
  have hB := hA
  rw [Try.params3] at hB
  obtain ⟨v0, vs0, d0, ds0, p0, r0, hargs0, rfl, rfl, h0, k0⟩ := trodAll_cons hB
  obtain ⟨v1, vs1, d1, ds1, p1, r1, hargs1, rfl, rfl, h1, k1⟩ := trodAll_cons k0
  obtain ⟨v2, vs2, d2, ds2, p2, r2, hargs2, rfl, rfl, h2, k2⟩ := trodAll_cons k1
  obtain ⟨-, hds, -⟩ := trodAll_nil k2
  subst hds
  obtain ⟨rfl, rfl⟩ := trodVars_none hV
  simp only [List.append_nil] at hW'
  obtain ⟨cds, hfit⟩ := Go.Ev.args_fit hA hval shaped
  refine (walk W hfit).mono fun e W' ⟨he, hg⟩ => ?_
  subst he
  exact ⟨_, rfl, Go.Ev.post_args (pv := []) hW' (fun _ _ _ => (trodAll_cons_mk (shut_bool Try.underlying4 _) trodAll_mk0)) (Go.Ev.args_stay laid reads hg hA (fun x hx => by simpa using hW'.lt x hx)) (fun _ _ => rfl) hg⟩

theorem over : Rows.queueOrderRow.holds Try.pinned (OpenSpec.ofChange Rows.queueOrderSpec) :=
  OpenClaim.holds_of_wide 3 Try.f3 rfl rfl rfl rfl rfl rfl rfl ⟨rfl, rfl, rfl, rfl, rfl⟩ rfl rfl rfl rfl rfl (by kernel_rfl) Try.func3 (by kernel_rfl)
    (of_decide_eq_true (by kernel_rfl)) (by unfold Func.isWrapper; first | (rw [if_pos (by decide +kernel)]; kernel_rfl) | (rw [if_neg (by decide +kernel)]; exact ⟨rfl, rfl⟩))
    (fun os started H enc _ => lifted os started H enc)

/-- the statement -/
theorem proved : Rows.QueueOrderSaid :=
  over
end Go.Proofs.Ytfimgfodoogibaa.queueOrder
