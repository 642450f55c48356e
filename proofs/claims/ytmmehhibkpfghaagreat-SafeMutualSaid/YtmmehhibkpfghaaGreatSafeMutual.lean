/- The law returns true at every input, and its arguments read behind the call as be. -/
import Derived.Test.YtmmehhibkpfghaaGreatRows
import Derived.ProofKit
import Derived.OpenShut
import Derived.Test.YtmmehhibkpfghaaGreatSafeMutualQ1
import Derived.Test.YtmmehhibkpfghaaGreatSafeMutualQ2
import Derived.Test.YtmmehhibkpfghaaGreatSafeMutualQ3
import Derived.Test.YtmmehhibkpfghaaGreatSafeMutualQ4
import Derived.Test.YtmmehhibkpfghaaGreatSafeMutualQ5
import Derived.Test.YtmmehhibkpfghaaGreatSafeMutualQ6
import Derived.Test.YtmmehhibkpfghaaGreatSafeMutualQ7
import Derived.Test.YtmmehhibkpfghaaGreatSafeMutualQ8
import Derived.Test.YtmmehhibkpfghaaGreatSafeMutualQ9
import Derived.Test.YtmmehhibkpfghaaGreatSafeMutualQ10
namespace Go.Proofs.YtmmehhibkpfghaaGreat.safeMutual
open Go.ChangeShapes Go.WideShapes Go.RowKit
abbrev K := Go.Ev.CoversΦ Tryz.prog cuts φ
section
open Go.Ev
abbrev e := SB.eql
abbrev l := SB.lss
abbrev E := e v0
abbrev L := l n0
abbrev A (g : Ctx) (b : SB) (t : Bool) : Ctx := ⟨g.rng, (b, t) :: g.asm⟩
variable {k : Nat} {m : Meas} {o : Bool} {c : Cfg} {g : Ctx}
abbrev C (k : Nat) (m) (t : Tmpl) := K k m true t.cfg
abbrev R := PartΦ Tryz.prog cuts φ
theorem r (h : R k m o g c) : K k m o c g := .run h
variable (b : SB)
theorem f (h : K k m o (c.refine (A g b true)) (A g b true)) (i : K k m o (c.refine (A g b false)) (A g b false)) : K k m o c g := .fork b h i
theorem p (h : R k m o (A g b true) (c.refine (A g b true))) (i : K k m o (c.refine (A g b false)) (A g b false)) : K k m o c g := f b (r h) i
theorem q (h : R k m o (A g b true) (c.refine (A g b true))) (i : R k m o (A g b false) (c.refine (A g b false))) : K k m o c g := p b h (r i)
theorem P (n) (h : R k m o (A g (E n) true) (c.refine (A g (E n) true))) (i : K k m o (c.refine (A g (E n) false)) (A g (E n) false)) : K k m o c g := p _ h i
end
theorem cs : K 21 { rank := top } false (Go.Ev.startP Tryz.prog 3 shape) (Go.Ev.ctxP shape) := f (.var 54) (r qsa) (r qsb)
theorem c3 : C 3 ⟨4, none, 0, none, 0, none⟩ t3 g2 := f (L v6) (q (L v7) q3aa q3ab) (q (L v7) q3ba q3bb)
theorem c4 : C 4 ⟨4, none, 0, none, 0, none⟩ t4 g4 := f (L v6) (f (L v7) (q (L v8) q4aaa q4aab) (q (L v8) q4aba q4abb)) (f (L v7) (q (L v8) q4baa q4bab) (q (L v8) q4bba q4bbb))
theorem c5 : C 5 m5 t5 g5 := P n1 q5a (P n2 q5ba (P n3 q5bba (f (E n4) (f (L v7) (q (L v6) q5bbbaaa q5bbbaab) (r q5bbbab)) (P n5 q5bbbba (P n6 q5bbbbba (P n7 q5bbbbbba (f (L v7) (q (L v6) q5bbbbbbbaa q5bbbbbbbab) (r q5bbbbbbbb))))))))
theorem c6 : C 6 m6 t6 g5 := P n1 q6a (P n2 q6ba (P n3 q6bba (f (E n4) (f (L v7) (q (L v6) q6bbbaaa q6bbbaab) (r q6bbbab)) (P n5 q6bbbba (P n6 q6bbbbba (P n7 q6bbbbbba (f (L v7) (q (L v6) q6bbbbbbbaa q6bbbbbbbab) (r q6bbbbbbbb))))))))
theorem c7 : C 7 m7 t7 g5 := P n1 q7a (P n2 q7ba (P n3 q7bba (f (E n4) (f (L v7) (q (L v6) q7bbbaaa q7bbbaab) (r q7bbbab)) (P n5 q7bbbba (P n6 q7bbbbba (P n7 q7bbbbbba (f (L v7) (q (L v6) q7bbbbbbbaa q7bbbbbbbab) (r q7bbbbbbbb))))))))
theorem c8 : C 8 m8 t8 g8 := f (l v3 v1) (f (l v3 (.lit 200)) (f (e (.rem (.sel .u8 r0 v3) n3) n0) (p (e v14 n0) q8aaaa (q (e v14 n1) q8aaaba q8aaabb)) (f (e (.rem (.sel .u8 r0 v3) n3) n1) (p (e v17 n0) q8aabaa (q (e v17 n1) q8aababa q8aababb)) (p (e v20 n0) q8aabba (q (e v20 n1) q8aabbba q8aabbbb)))) (r q8ab)) (r q8b)
theorem c9 : C 9 ⟨2, none, 0, none, 0, none⟩ t9 g9 := p (e v10 n0) q9a (q (e v10 n1) q9ba q9bb)
theorem c10 : C 10 m10 t10 g10 := P n1 q10a (P n2 q10ba (P n3 q10bba (f (E n4) (f (L v4) (q (L v3) q10bbbaaa q10bbbaab) (r q10bbbab)) (P n5 q10bbbba (P n6 q10bbbbba (P n7 q10bbbbbba (f (L v4) (q (L v3) q10bbbbbbbaa q10bbbbbbbab) (r q10bbbbbbbb))))))))
theorem c11 : C 11 m11 t11 g11 := P n1 q11a (P n2 q11ba (P n3 q11bba (f (E n4) (f (L v7) (q (L v6) q11bbbaaa q11bbbaab) (r q11bbbab)) (P n5 q11bbbba (P n6 q11bbbbba (P n7 q11bbbbbba (f (L v7) (q (L v6) q11bbbbbbbaa q11bbbbbbbab) (r q11bbbbbbbb))))))))
theorem c12 : C 12 m12 t12 g11 := P n1 q12a (P n2 q12ba (P n3 q12bba (f (E n4) (f (L v7) (q (L v6) q12bbbaaa q12bbbaab) (r q12bbbab)) (P n5 q12bbbba (P n6 q12bbbbba (P n7 q12bbbbbba (f (L v7) (q (L v6) q12bbbbbbbaa q12bbbbbbbab) (r q12bbbbbbbb))))))))
theorem c13 : C 13 m13 t13 g13 := f (l v3 v1) (f (l v3 (.lit 200)) (f (e (.rem (.sel .u8 r0 v3) n2) n0) (p (e v12 n0) q13aaaa (q (e v12 n1) q13aaaba q13aaabb)) (p (e v15 n0) q13aaba (q (e v15 n1) q13aabba q13aabbb))) (r q13ab)) (r q13b)
theorem c14 : C 14 ⟨2, none, 0, none, 0, none⟩ t14 g14 := p (e v8 n0) q14a (q (e v8 n1) q14ba q14bb)
theorem c15 : C 15 m15 t15 g15 := P n1 q15a (P n2 q15ba (P n3 q15bba (f (E n4) (f (L v4) (q (L v3) q15bbbaaa q15bbbaab) (r q15bbbab)) (P n5 q15bbbba (P n6 q15bbbbba (P n7 q15bbbbbba (f (L v4) (q (L v3) q15bbbbbbbaa q15bbbbbbbab) (r q15bbbbbbbb))))))))
theorem c16 : C 16 m16 t16 g16 := f (l v0 (.lit 5000)) (f (e v9 n0) (p (e v12 n0) q16aaa (f (e (.rem v0 n2) n0) (r q16aaba) (q (e v12 n1) q16aabba q16aabbb))) (f (e (.rem v0 n2) n0) (q (e v9 n1) q16abaa q16abab) (p (e v12 n0) q16abba (q (e v12 n1) q16abbba q16abbbb)))) (r q16b)
theorem c17 : C 17 m17 t17 g15 := P n1 q17a (P n2 q17ba (P n3 q17bba (f (E n4) (f (L v4) (q (L v3) q17bbbaaa q17bbbaab) (r q17bbbab)) (P n5 q17bbbba (P n6 q17bbbbba (P n7 q17bbbbbba (f (L v4) (q (L v3) q17bbbbbbbaa q17bbbbbbbab) (r q17bbbbbbbb))))))))
theorem c18 : C 18 m18 t18 g18 := f (l v0 (.lit 5000)) (f (e v11 n0) (f (e v14 n0) (p (e v17 n0) q18aaaa (f (e (.rem v0 n3) n0) (r q18aaaba) (f (e (.rem v0 n3) n1) (r q18aaabba) (q (e v17 n1) q18aaabbba q18aaabbbb)))) (f (e (.rem v0 n3) n0) (r q18aaba) (f (e (.rem v0 n3) n1) (q (e v14 n1) q18aabbaa q18aabbab) (p (e v17 n0) q18aabbba (q (e v17 n1) q18aabbbba q18aabbbbb))))) (f (e (.rem v0 n3) n0) (q (e v11 n1) q18abaa q18abab) (f (e (.rem v0 n3) n1) (p (e v14 n0) q18abbaa (q (e v14 n1) q18abbaba q18abbabb)) (p (e v17 n0) q18abbba (q (e v17 n1) q18abbbba q18abbbbb))))) (r q18b)
theorem c19 : C 19 m19 t19 g19 := P n1 q19a (P n2 q19ba (P n3 q19bba (f (E n4) (f (L v4) (q (L v3) q19bbbaaa q19bbbaab) (r q19bbbab)) (P n5 q19bbbba (P n6 q19bbbbba (P n7 q19bbbbbba (f (L v4) (q (L v3) q19bbbbbbbaa q19bbbbbbbab) (r q19bbbbbbbb))))))))
theorem c20 : C 20 m20 t20 g19 := P n1 q20a (P n2 q20ba (P n3 q20bba (f (E n4) (f (L v4) (q (L v3) q20bbbaaa q20bbbaab) (r q20bbbab)) (P n5 q20bbbba (P n6 q20bbbbba (P n7 q20bbbbbba (f (L v4) (q (L v3) q20bbbbbbbaa q20bbbbbbbab) (r q20bbbbbbbb))))))))
theorem walk (w : World) {vs : List Value} {cds : List Go.Ev.CD} (hf : Go.Ev.FitP w shape vs cds) :
 Calls Tryz.prog 3 vs.toArray w fun e w' => e = .returned (.bool true) ∧ Below w.heap.size w w' :=
 Go.Ev.calls_shapeΦ (l := cuts) (φ := φ) (top := top) (by kernel_rfl) (by kernel_rfl) ⟨.run q0, .run q1, .run q2, c3, c4, c5, c6, c7, c8, c9, c10, c11, c12, c13, c14, c15, c16, c17, c18, c19, c20, trivial⟩ (by kernel_rfl) cs (fun _ _ _ => trivial) w hf
theorem shaped : Go.Ev.paramShs Tryz.prog Tryz.f3.params.toList = some shape := by kernel_rfl
set_option maxRecDepth 9999 in
theorem b (os : Os) (st : os.Started) (H : Type) (enc : TypeId × Value → H) :
 ReturnsInHanded {} Tryz.checked os 3 .any (Rows.safeMutualSpec.pre6 enc Tryz.prog Tryz.f3 Rows.safeMutualRow.domain false) (Rows.safeMutualSpec.post enc Tryz.prog Tryz.f3 false true false false) := by
 refine returnsInHanded_of_change (C := Tryz.checked) (by kernel_rfl) st (by kernel_rfl) Tryz.func3
  (ChangeSpec.witness6 (enc := enc) (C := Tryz.checked) false ⟨#[], #[.agg #[.int .u8 0, .int .u8 0, .int .u8 0], .bool false, .slice none 0 0], []⟩ 8 (by kernel_rfl) (by kernel_rfl) (by kernel_rfl) (by kernel_rfl)) ?_
 intro W base a ds gs be hv0 hW _ _
 have hv : ∀ (j : Nat) t v, Tryz.f3.params.toList[j]? = some t → a.toList[j]? = some v → Value.okWide Tryz.prog W .any base t v := fun j t v ht hv => hv0 j t v (by simpa using ht) (by simpa using hv)
 have hW' := hW
 obtain ⟨p, q, hA, hV, rfl, hfz, h⟩ := hW
 have hB := hA
 rw [Tryz.params3] at hB
 obtain ⟨_, _, _, _, _, _, _, rfl, rfl, _, k0⟩ := trodAll_cons hB
 obtain ⟨_, _, _, _, _, _, _, rfl, rfl, _, k1⟩ := trodAll_cons k0
 obtain ⟨_, _, _, _, _, _, _, rfl, rfl, _, k2⟩ := trodAll_cons k1
 obtain ⟨-, rfl, -⟩ := trodAll_nil k2
 obtain ⟨rfl, rfl⟩ := trodVars_none hV
 simp only [List.append_nil] at hW'
 obtain ⟨cds, hf⟩ := Go.Ev.args_fit hA hv shaped
 refine (walk W hf).mono fun e W' ⟨he, hg⟩ => ?_
 subst he
 exact ⟨_, rfl, Go.Ev.post_args (pv := []) hW' (fun _ _ _ => (trodAll_cons_mk (shut_bool Tryz.underlying4 _) trodAll_mk0)) (Go.Ev.args_stay (by kernel_rfl) (by kernel_rfl) hg hA (fun x hx => by simpa using hW'.lt x hx)) (fun _ _ => rfl) hg⟩
theorem proved : Rows.SafeMutualSaid :=
 OpenClaim.holds_of_wide 3 Tryz.f3 rfl rfl rfl rfl rfl rfl rfl ⟨rfl, rfl, rfl, rfl, rfl⟩ rfl rfl rfl rfl rfl (by kernel_rfl) Tryz.func3 (by kernel_rfl)
  (of_decide_eq_true (by kernel_rfl)) (by unfold Func.isWrapper; first | (rw [if_pos (by decide +kernel)]; kernel_rfl) | (rw [if_neg (by decide +kernel)]; exact ⟨rfl, rfl⟩))
  (fun os st H enc _ => b os st H enc)
end Go.Proofs.YtmmehhibkpfghaaGreat.safeMutual
