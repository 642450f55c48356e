/- The law SafeCounts returns true at every input, and its arguments read behind the call as before: the walk is cut at the ends of loops, and each part is one run of the evaluator Ev in the kernel, whose soundness is proved in the Ev texts. -/
import Derived.Test.YtmmehhibkpfghaaGreatRows
import Derived.WalkKit
import Derived.ProofKit
import Derived.OpenShut
import Derived.Test.YtmmehhibkpfghaaGreatSafeCountsQ1
import Derived.Test.YtmmehhibkpfghaaGreatSafeCountsQ2
import Derived.Test.YtmmehhibkpfghaaGreatSafeCountsQ3
import Derived.Test.YtmmehhibkpfghaaGreatSafeCountsQ4
import Derived.Test.YtmmehhibkpfghaaGreatSafeCountsQ5
import Derived.Test.YtmmehhibkpfghaaGreatSafeCountsQ6
import Derived.Test.YtmmehhibkpfghaaGreatSafeCountsQ7
import Derived.Test.YtmmehhibkpfghaaGreatSafeCountsQ8
import Derived.Test.YtmmehhibkpfghaaGreatSafeCountsQ9
import Derived.Test.YtmmehhibkpfghaaGreatSafeCountsQ10
import Derived.Test.YtmmehhibkpfghaaGreatSafeCountsQ11
import Derived.Test.YtmmehhibkpfghaaGreatSafeCountsQ12
namespace Go.Proofs.YtmmehhibkpfghaaGreat.safeCounts
open Go.ChangeShapes Go.WideShapes Go.ChangeAt Go.RowKit

theorem own : ownKnob Tryz.prog.godebug = none := by kernel_rfl

def CZ (k : Nat) (m : Go.Ev.Meas) (p : XZ) : Prop := Go.Ev.CoversΦ Tryz.prog cuts φ k m true p.2 p.1
theorem rK {k : Nat} {m : Go.Ev.Meas} {p : XZ} {d : D_} {cs : List Go.Ev.Cl.LC} (h : H p d) (i : K k m p d cs) : CZ k m p := .run (pK h i)
theorem fK {k : Nat} {m : Go.Ev.Meas} {p : XZ} (b : Go.Ev.SB) (l : CZ k m (fk (b,true) p)) (r : CZ k m (fk (b,false) p)) : CZ k m p := .fork b l r
theorem tC {k : Nat} {m : Go.Ev.Meas} {g : Go.Ev.Ctx} {c : Go.Ev.Cfg} (h : CZ k m (g,c)) : Go.Ev.CoversΦ Tryz.prog cuts φ k m true c g := h
def CS (p : XZ) : Prop := Go.Ev.CoversΦ Tryz.prog cuts φ 154 { rank := top } false p.2 p.1
theorem rS {p : XZ} (h : QQ 154 { rank := top } false p.1 p.2) : CS p := .run h
theorem fS {p : XZ} (b : Go.Ev.SB) (l : CS (fk (b,true) p)) (r : CS (fk (b,false) p)) : CS p := .fork b l r
theorem tS {g : Go.Ev.Ctx} {c : Go.Ev.Cfg} (h : CS (g,c)) : Go.Ev.CoversΦ Tryz.prog cuts φ 154 { rank := top } false c g := h
theorem cs : Go.Ev.CoversΦ Tryz.prog cuts φ 154 { rank := top } false (Go.Ev.startP Tryz.prog 4 shape) (Go.Ev.ctxP shape) := tS (fS (.var 0) (fS (.lss n4 v1) (rS (p := pb1) qb1) (fS (.lss n1 v1) (fS (.eql v1 n2) (rS (p := pb4) qb4) (fS (.eql v1 n3) (rS (p := pb6) qb6) (rS (p := pb7) qb7))) (rS (p := pb8) qb8))) (fS (.var 1) (rS (p := pb10) qb10) (rS (p := pb11) qb11)))
theorem cv57 : Go.Ev.CoversΦ Tryz.prog cuts φ 57 ⟨13, none, 0, none, 0, none⟩ true t57.cfg g57 := tC (fK (.var 0) (fK (.lss n0 v1) (fK (.eql (.rem (.sel .u64 r0 n0) n4) n0) (rK Hb14 Kb14) (fK (.eql (.rem (.sel .u64 r0 n0) n4) n1) (rK Hb16 Kb16) (rK Hb17 (kK (n:=6) Kb17c Kb17d)))) (rK Hb18 Kb18)) (rK Hb19 Kb19))
theorem cv65 : Go.Ev.CoversΦ Tryz.prog cuts φ 65 m65 true t65.cfg g65 := tC (fK (.eql v1 n0) (rK Hb20 Kb20) (fK (.eql v1 n1) (rK Hb22 Kb22) (fK (.eql v1 n5) (rK Hb24 Kb24) (fK (.eql v1 n9) (rK Hb26 Kb26) (rK Hb27 Kb27)))))
theorem cv66 : Go.Ev.CoversΦ Tryz.prog cuts φ 66 m66 true t66.cfg g66 := tC (fK (.eql v1 n0) (rK Hb28 Kb28) (fK (.eql v1 n1) (rK Hb30 Kb30) (fK (.eql v1 n5) (rK Hb32 Kb32) (fK (.eql v1 n9) (rK Hb34 Kb34) (rK Hb35 Kb35)))))
theorem cv67 : Go.Ev.CoversΦ Tryz.prog cuts φ 67 m67 true t67.cfg g67 := tC (fK (.eql v1 n0) (rK Hb36 Kb36) (fK (.eql v1 n1) (rK Hb38 Kb38) (fK (.eql v1 n5) (rK Hb40 Kb40) (fK (.eql v1 n9) (rK Hb42 Kb42) (rK Hb43 Kb43)))))
theorem cv68 : Go.Ev.CoversΦ Tryz.prog cuts φ 68 m68 true t68.cfg g68 := tC (fK (.eql v1 n0) (rK Hb44 Kb44) (fK (.eql v1 n1) (rK Hb46 Kb46) (fK (.eql v1 n5) (rK Hb48 Kb48) (fK (.eql v1 n9) (rK Hb50 (kK (n:=7) Kb50c Kb50d)) (rK Hb51 Kb51)))))
theorem cv69 : Go.Ev.CoversΦ Tryz.prog cuts φ 69 m69 true t69.cfg g69 := tC (fK (.eql v1 n0) (rK Hb52 Kb52) (fK (.eql v1 n1) (rK Hb54 Kb54) (fK (.eql v1 n5) (rK Hb56 Kb56) (fK (.eql v1 n9) (rK Hb58 (kK (n:=7) Kb58c Kb58d)) (rK Hb59 Kb59)))))
theorem cv70 : Go.Ev.CoversΦ Tryz.prog cuts φ 70 m70 true t70.cfg g70 := tC (fK (.eql v1 n0) (rK Hb60 Kb60) (fK (.eql v1 n1) (rK Hb62 Kb62) (fK (.eql v1 n5) (rK Hb64 Kb64) (fK (.eql v1 n9) (rK Hb66 (kK (n:=6) Kb66c Kb66d)) (rK Hb67 Kb67)))))
theorem cv71 : Go.Ev.CoversΦ Tryz.prog cuts φ 71 m71 true t71.cfg g71 := tC (fK (.eql v1 n0) (rK Hb68 Kb68) (fK (.eql v1 n1) (rK Hb70 Kb70) (fK (.eql v1 n5) (rK Hb72 Kb72) (fK (.eql v1 n9) (rK Hb74 (kK (n:=7) Kb74c Kb74d)) (rK Hb75 Kb75)))))
theorem cv72 : Go.Ev.CoversΦ Tryz.prog cuts φ 72 m72 true t72.cfg g72 := tC (fK (.eql v1 n0) (rK Hb76 Kb76) (fK (.eql v1 n1) (rK Hb78 Kb78) (fK (.eql v1 n5) (rK Hb80 Kb80) (fK (.eql v1 n9) (rK Hb82 (kK (n:=7) Kb82c Kb82d)) (rK Hb83 Kb83)))))
theorem cv73 : Go.Ev.CoversΦ Tryz.prog cuts φ 73 m73 true t73.cfg g73 := tC (fK (.eql v1 n0) (rK Hb84 Kb84) (fK (.eql v1 n1) (rK Hb86 Kb86) (fK (.eql v1 n5) (rK Hb88 Kb88) (fK (.eql v1 n9) (rK Hb90 (kK (n:=7) Kb90c Kb90d)) (rK Hb91 Kb91)))))
theorem cv74 : Go.Ev.CoversΦ Tryz.prog cuts φ 74 m74 true t74.cfg g74 := tC (fK (.eql v1 n0) (rK Hb92 Kb92) (rK Hb93 Kb93))
theorem cv77 : Go.Ev.CoversΦ Tryz.prog cuts φ 77 m77 true t77.cfg g77 := tC (fK (.eql v2 n5) (rK Hb94 Kb94) (fK (.eql v2 n6) (rK Hb96 Kb96) (fK (.eql v2 n7) (rK Hb98 Kb98) (rK Hb99 (kK (n:=7) Kb99c Kb99d)))))
theorem cv79 : Go.Ev.CoversΦ Tryz.prog cuts φ 79 m79 true t79.cfg g79 := tC (fK (.eql v2 n0) (rK Hb100 Kb100) (fK (.eql v2 n5) (rK Hb102 Kb102) (rK Hb103 Kb103)))
theorem cv80 : Go.Ev.CoversΦ Tryz.prog cuts φ 80 m80 true t80.cfg g80 := tC (fK (.eql v2 n1) (rK Hb104 Kb104) (fK (.eql v2 n2) (rK Hb106 Kb106) (fK (.eql v2 n3) (rK Hb108 Kb108) (fK (.eql v2 n4) (rK Hb110 Kb110) (fK (.eql v2 n5) (rK Hb112 Kb112) (fK (.eql v2 n6) (rK Hb114 Kb114) (fK (.eql v2 n7) (rK Hb116 Kb116) (fK (.eql v2 n8) (rK Hb118 Kb118) (rK Hb119 (kK (n:=6) Kb119c Kb119d))))))))))
theorem cv81 : Go.Ev.CoversΦ Tryz.prog cuts φ 81 m81 true t81.cfg g81 := tC (fK (.eql v2 n1) (rK Hb120 Kb120) (fK (.eql v2 n2) (rK Hb122 Kb122) (fK (.eql v2 n3) (rK Hb124 Kb124) (fK (.eql v2 n4) (rK Hb126 Kb126) (fK (.eql v2 n5) (rK Hb128 Kb128) (fK (.eql v2 n6) (rK Hb130 Kb130) (fK (.eql v2 n7) (rK Hb132 Kb132) (fK (.eql v2 n8) (rK Hb134 Kb134) (rK Hb135 (kK (n:=6) Kb135c Kb135d))))))))))
theorem cv82 : Go.Ev.CoversΦ Tryz.prog cuts φ 82 m82 true t82.cfg g82 := tC (fK (.lss v0 v2) (fK (.lss v0 (.lit 400)) (fK (.eql (.rem (.sel .u64 r0 (.mul v0 n2)) n2) n0) (rK Hb138 (kK (n:=6) Kb138c Kb138d)) (rK Hb139 (kK (n:=6) Kb139c Kb139d))) (rK Hb140 Kb140)) (rK Hb141 Kb141))
theorem cv83 : Go.Ev.CoversΦ Tryz.prog cuts φ 83 m83 true t83.cfg g83 := tC (fK (.eql v2 n0) (rK Hb142 Kb142) (fK (.eql v2 n1) (rK Hb144 Kb144) (fK (.eql v2 n5) (rK Hb146 Kb146) (fK (.eql v2 n9) (rK Hb148 (kK (n:=7) Kb148c Kb148d)) (rK Hb149 Kb149)))))
theorem cv84 : Go.Ev.CoversΦ Tryz.prog cuts φ 84 m84 true t84.cfg g84 := tC (fK (.eql v2 n1) (rK Hb150 Kb150) (fK (.eql v2 n2) (rK Hb152 Kb152) (fK (.eql v2 n3) (rK Hb154 Kb154) (fK (.eql v2 n4) (rK Hb156 Kb156) (fK (.eql v2 n5) (rK Hb158 Kb158) (fK (.eql v2 n6) (rK Hb160 Kb160) (fK (.eql v2 n7) (rK Hb162 Kb162) (fK (.eql v2 n8) (rK Hb164 Kb164) (rK Hb165 (kK (n:=4) Kb165c (kK (n:=5) Kb165d Kb165e)))))))))))
theorem cv85 : Go.Ev.CoversΦ Tryz.prog cuts φ 85 m85 true t85.cfg g85 := tC (fK (.eql v2 n1) (rK Hb166 Kb166) (fK (.eql v2 n2) (rK Hb168 Kb168) (fK (.eql v2 n3) (rK Hb170 Kb170) (fK (.eql v2 n4) (rK Hb172 Kb172) (fK (.eql v2 n5) (rK Hb174 Kb174) (fK (.eql v2 n6) (rK Hb176 Kb176) (fK (.eql v2 n7) (rK Hb178 Kb178) (fK (.eql v2 n8) (rK Hb180 Kb180) (rK Hb181 (kK (n:=4) Kb181c (kK (n:=5) Kb181d Kb181e)))))))))))
theorem cv86 : Go.Ev.CoversΦ Tryz.prog cuts φ 86 m86 true t86.cfg g85 := tC (fK (.eql v2 n1) (rK Hb182 Kb182) (fK (.eql v2 n2) (rK Hb184 Kb184) (fK (.eql v2 n3) (rK Hb186 Kb186) (fK (.eql v2 n4) (rK Hb188 Kb188) (fK (.eql v2 n5) (rK Hb190 Kb190) (fK (.eql v2 n6) (rK Hb192 Kb192) (fK (.eql v2 n7) (rK Hb194 Kb194) (fK (.eql v2 n8) (rK Hb196 Kb196) (rK Hb197 (kK (n:=4) Kb197c (kK (n:=5) Kb197d Kb197e)))))))))))
theorem cv87 : Go.Ev.CoversΦ Tryz.prog cuts φ 87 m87 true t87.cfg g87 := tC (fK (.eql v2 n1) (rK Hb198 Kb198) (fK (.eql v2 n2) (rK Hb200 Kb200) (fK (.eql v2 n3) (rK Hb202 Kb202) (fK (.eql v2 n4) (rK Hb204 Kb204) (fK (.eql v2 n5) (rK Hb206 Kb206) (fK (.eql v2 n6) (rK Hb208 Kb208) (fK (.eql v2 n7) (rK Hb210 Kb210) (fK (.eql v2 n8) (rK Hb212 Kb212) (rK Hb213 (kK (n:=4) Kb213c (kK (n:=5) Kb213d Kb213e)))))))))))
theorem cv88 : Go.Ev.CoversΦ Tryz.prog cuts φ 88 m88 true t88.cfg g88 := tC (fK (.lss v0 v2) (fK (.lss v0 (.lit 400)) (fK (.eql (.rem (.sel .u64 r0 (.mul v0 n2)) n4) n0) (fK (.eql v17 n0) (rK Hb217 Kb217) (fK (.eql v17 n1) (rK Hb219 (kK (n:=5) Kb219c Kb219d)) (fK (.eql v17 n2) (rK Hb221 Kb221) (fK (.eql v17 n3) (rK Hb223 Kb223) (rK Hb224 (kK (n:=9) Kb224c Kb224d)))))) (fK (.eql (.rem (.sel .u64 r0 (.mul v0 n2)) n4) n1) (fK (.eql v20 n0) (rK Hb227 Kb227) (fK (.eql v20 n1) (rK Hb229 (kK (n:=5) Kb229c Kb229d)) (fK (.eql v20 n2) (rK Hb231 Kb231) (fK (.eql v20 n3) (rK Hb233 Kb233) (rK Hb234 (kK (n:=9) Kb234c Kb234d)))))) (fK (.eql (.rem (.sel .u64 r0 (.mul v0 n2)) n4) n2) (fK (.eql v23 n0) (rK Hb237 Kb237) (fK (.eql v23 n1) (rK Hb239 (kK (n:=3) Kb239c Kb239d)) (fK (.eql v23 n2) (rK Hb241 Kb241) (fK (.eql v23 n3) (rK Hb243 Kb243) (rK Hb244 (kK (n:=9) Kb244c Kb244d)))))) (fK (.eql v26 n0) (rK Hb246 Kb246) (fK (.eql v26 n1) (rK Hb248 (kK (n:=3) Kb248c Kb248d)) (fK (.eql v26 n2) (rK Hb250 Kb250) (fK (.eql v26 n3) (rK Hb252 Kb252) (rK Hb253 (kK (n:=10) Kb253c Kb253d))))))))) (rK Hb254 Kb254)) (rK Hb255 Kb255))
theorem cv89 : Go.Ev.CoversΦ Tryz.prog cuts φ 89 m89 true t89.cfg g89 := tC (fK (.eql v2 n0) (rK Hb256 Kb256) (fK (.eql v2 n1) (rK Hb258 Kb258) (fK (.eql v2 n5) (rK Hb260 Kb260) (fK (.eql v2 n9) (rK Hb262 (kK (n:=8) Kb262c Kb262d)) (rK Hb263 Kb263)))))
theorem cv90 : Go.Ev.CoversΦ Tryz.prog cuts φ 90 ⟨11, none, 0, none, 0, none⟩ true t90.cfg g90 := tC (fK (.var 0) (fK (.lss n0 v1) (fK (.eql (.rem (.sel .u64 r0 n0) n3) n0) (rK Hb266 Kb266) (rK Hb267 Kb267)) (rK Hb268 Kb268)) (rK Hb269 Kb269))
theorem cv91 : Go.Ev.CoversΦ Tryz.prog cuts φ 91 m91 true t91.cfg g91 := tC (fK (.eql v2 n1) (rK Hb270 Kb270) (fK (.eql v2 n2) (rK Hb272 Kb272) (fK (.eql v2 n3) (rK Hb274 Kb274) (fK (.eql v2 n4) (rK Hb276 Kb276) (fK (.eql v2 n5) (rK Hb278 Kb278) (fK (.eql v2 n6) (rK Hb280 Kb280) (fK (.eql v2 n7) (rK Hb282 Kb282) (fK (.eql v2 n8) (rK Hb284 Kb284) (rK Hb285 (kK (n:=6) Kb285c Kb285d))))))))))
theorem cv92 : Go.Ev.CoversΦ Tryz.prog cuts φ 92 m92 true t92.cfg g92 := tC (fK (.eql v2 n1) (rK Hb286 Kb286) (fK (.eql v2 n2) (rK Hb288 Kb288) (fK (.eql v2 n3) (rK Hb290 Kb290) (fK (.eql v2 n4) (rK Hb292 Kb292) (fK (.eql v2 n5) (rK Hb294 Kb294) (fK (.eql v2 n6) (rK Hb296 Kb296) (fK (.eql v2 n7) (rK Hb298 Kb298) (fK (.eql v2 n8) (rK Hb300 Kb300) (rK Hb301 (kK (n:=6) Kb301c Kb301d))))))))))
theorem cv93 : Go.Ev.CoversΦ Tryz.prog cuts φ 93 m93 true t93.cfg g93 := tC (fK (.eql v2 n1) (rK Hb302 Kb302) (fK (.eql v2 n2) (rK Hb304 Kb304) (fK (.eql v2 n3) (rK Hb306 Kb306) (fK (.eql v2 n4) (rK Hb308 Kb308) (fK (.eql v2 n5) (rK Hb310 Kb310) (fK (.eql v2 n6) (rK Hb312 Kb312) (fK (.eql v2 n7) (rK Hb314 Kb314) (fK (.eql v2 n8) (rK Hb316 Kb316) (rK Hb317 (kK (n:=6) Kb317c Kb317d))))))))))
theorem cv94 : Go.Ev.CoversΦ Tryz.prog cuts φ 94 m94 true t94.cfg g94 := tC (fK (.lss v0 v2) (fK (.lss v0 (.lit 400)) (fK (.eql (.rem (.sel .u64 r0 (.mul v0 n2)) n3) n0) (fK (.eql v14 n0) (rK Hb321 Kb321) (fK (.eql v14 n1) (rK Hb323 Kb323) (fK (.eql v14 n2) (rK Hb325 Kb325) (rK Hb326 (kK (n:=9) Kb326c Kb326d))))) (fK (.eql (.rem (.sel .u64 r0 (.mul v0 n2)) n3) n1) (fK (.eql v17 n0) (rK Hb329 Kb329) (fK (.eql v17 n1) (rK Hb331 Kb331) (fK (.eql v17 n2) (rK Hb333 Kb333) (rK Hb334 (kK (n:=9) Kb334c Kb334d))))) (fK (.eql v20 n0) (rK Hb336 Kb336) (fK (.eql v20 n1) (rK Hb338 Kb338) (fK (.eql v20 n2) (rK Hb340 Kb340) (fK (.eql v20 n3) (rK Hb342 Kb342) (rK Hb343 (kK (n:=8) Kb343c Kb343d)))))))) (rK Hb344 Kb344)) (rK Hb345 Kb345))
theorem cv95 : Go.Ev.CoversΦ Tryz.prog cuts φ 95 m95 true t95.cfg g95 := tC (fK (.eql v2 n0) (rK Hb346 Kb346) (fK (.eql v2 n1) (rK Hb348 Kb348) (fK (.eql v2 n5) (rK Hb350 Kb350) (fK (.eql v2 n9) (rK Hb352 (kK (n:=7) Kb352c Kb352d)) (rK Hb353 Kb353)))))
theorem cv96 : Go.Ev.CoversΦ Tryz.prog cuts φ 96 m96 true t96.cfg g96 := tC (fK (.eql v2 n0) (rK Hb354 Kb354) (fK (.eql v2 n1) (rK Hb356 Kb356) (fK (.eql v2 n5) (rK Hb358 Kb358) (fK (.eql v2 n9) (rK Hb360 (kK (n:=7) Kb360c Kb360d)) (rK Hb361 Kb361)))))
theorem cv97 : Go.Ev.CoversΦ Tryz.prog cuts φ 97 m97 true t97.cfg g97 := tC (fK (.eql v2 n0) (rK Hb362 Kb362) (fK (.eql v2 n1) (rK Hb364 Kb364) (fK (.eql v2 n5) (rK Hb366 Kb366) (fK (.eql v2 n9) (rK Hb368 (kK (n:=7) Kb368c Kb368d)) (rK Hb369 Kb369)))))
theorem cv98 : Go.Ev.CoversΦ Tryz.prog cuts φ 98 ⟨9, none, 0, none, 0, none⟩ true t98.cfg g98 := tC (fK (.eql v10 n0) (rK Hb370 Kb370) (fK (.eql v10 n1) (rK Hb372 Kb372) (fK (.eql v10 n2) (rK Hb374 Kb374) (rK Hb375 (kK (n:=9) Kb375c Kb375d)))))
theorem cv99 : Go.Ev.CoversΦ Tryz.prog cuts φ 99 m99 true t99.cfg g99 := tC (fK (.eql v1 n1) (rK Hb376 Kb376) (fK (.eql v1 n2) (rK Hb378 Kb378) (fK (.eql v1 n3) (rK Hb380 Kb380) (fK (.eql v1 n4) (rK Hb382 Kb382) (fK (.eql v1 n5) (rK Hb384 Kb384) (fK (.eql v1 n6) (rK Hb386 Kb386) (fK (.eql v1 n7) (rK Hb388 Kb388) (fK (.eql v1 n8) (rK Hb390 Kb390) (rK Hb391 (kK (n:=6) Kb391c Kb391d))))))))))
theorem cv100 : Go.Ev.CoversΦ Tryz.prog cuts φ 100 m100 true t100.cfg g100 := tC (fK (.eql v1 n0) (rK Hb392 Kb392) (fK (.eql v1 n1) (rK Hb394 Kb394) (fK (.eql v1 n5) (rK Hb396 Kb396) (fK (.eql v1 n9) (rK Hb398 (kK (n:=7) Kb398c Kb398d)) (rK Hb399 Kb399)))))
theorem cv101 : Go.Ev.CoversΦ Tryz.prog cuts φ 101 m101 true t101.cfg g101 := tC (fK (.lss v0 (.lit 8000)) (fK (.eql v11 n0) (fK (.eql v14 n0) (fK (.eql v17 n0) (rK Hb403 Kb403) (fK (.eql (.rem v0 n3) n0) (rK Hb405 Kb405) (fK (.eql (.rem v0 n3) n1) (rK Hb407 Kb407) (fK (.eql v17 n1) (rK Hb409 Kb409) (fK (.eql v17 n2) (rK Hb411 Kb411) (fK (.eql v17 n3) (rK Hb413 Kb413) (rK Hb414 Kb414))))))) (fK (.eql (.rem v0 n3) n0) (rK Hb416 Kb416) (fK (.eql (.rem v0 n3) n1) (fK (.eql v14 n1) (rK Hb419 Kb419) (fK (.eql v14 n2) (rK Hb421 Kb421) (rK Hb422 (kK (n:=9) Kb422c Kb422d)))) (fK (.eql v17 n0) (rK Hb424 Kb424) (fK (.eql v17 n1) (rK Hb426 Kb426) (fK (.eql v17 n2) (rK Hb428 Kb428) (fK (.eql v17 n3) (rK Hb430 Kb430) (rK Hb431 (kK (n:=8) Kb431c Kb431d))))))))) (fK (.eql (.rem v0 n3) n0) (fK (.eql v11 n1) (rK Hb434 Kb434) (fK (.eql v11 n2) (rK Hb436 Kb436) (rK Hb437 (kK (n:=9) Kb437c Kb437d)))) (fK (.eql (.rem v0 n3) n1) (fK (.eql v14 n0) (rK Hb440 Kb440) (fK (.eql v14 n1) (rK Hb442 Kb442) (fK (.eql v14 n2) (rK Hb444 Kb444) (rK Hb445 (kK (n:=9) Kb445c Kb445d))))) (fK (.eql v17 n0) (rK Hb447 Kb447) (fK (.eql v17 n1) (rK Hb449 Kb449) (fK (.eql v17 n2) (rK Hb451 Kb451) (fK (.eql v17 n3) (rK Hb453 Kb453) (rK Hb454 (kK (n:=8) Kb454c Kb454d))))))))) (rK Hb455 Kb455))
theorem cv102 : Go.Ev.CoversΦ Tryz.prog cuts φ 102 m102 true t102.cfg g102 := tC (fK (.eql v1 n1) (rK Hb456 Kb456) (fK (.eql v1 n2) (rK Hb458 Kb458) (fK (.eql v1 n3) (rK Hb460 Kb460) (fK (.eql v1 n4) (rK Hb462 Kb462) (fK (.eql v1 n5) (rK Hb464 Kb464) (fK (.eql v1 n6) (rK Hb466 Kb466) (fK (.eql v1 n7) (rK Hb468 Kb468) (fK (.eql v1 n8) (rK Hb470 Kb470) (rK Hb471 (kK (n:=6) Kb471c Kb471d))))))))))
theorem cv103 : Go.Ev.CoversΦ Tryz.prog cuts φ 103 m103 true t103.cfg g103 := tC (fK (.eql v1 n0) (rK Hb472 Kb472) (fK (.eql v1 n1) (rK Hb474 Kb474) (fK (.eql v1 n5) (rK Hb476 Kb476) (fK (.eql v1 n9) (rK Hb478 (kK (n:=7) Kb478c Kb478d)) (rK Hb479 Kb479)))))
theorem cv104 : Go.Ev.CoversΦ Tryz.prog cuts φ 104 m104 true t104.cfg g104 := tC (fK (.eql v1 n1) (rK Hb480 Kb480) (fK (.eql v1 n2) (rK Hb482 Kb482) (fK (.eql v1 n3) (rK Hb484 Kb484) (fK (.eql v1 n4) (rK Hb486 Kb486) (fK (.eql v1 n5) (rK Hb488 Kb488) (fK (.eql v1 n6) (rK Hb490 Kb490) (fK (.eql v1 n7) (rK Hb492 Kb492) (fK (.eql v1 n8) (rK Hb494 Kb494) (rK Hb495 (kK (n:=6) Kb495c Kb495d))))))))))
theorem cv105 : Go.Ev.CoversΦ Tryz.prog cuts φ 105 m105 true t105.cfg g105 := tC (fK (.eql v1 n0) (rK Hb496 Kb496) (fK (.eql v1 n1) (rK Hb498 Kb498) (fK (.eql v1 n5) (rK Hb500 Kb500) (fK (.eql v1 n9) (rK Hb502 (kK (n:=7) Kb502c Kb502d)) (rK Hb503 Kb503)))))
theorem cv110 : Go.Ev.CoversΦ Tryz.prog cuts φ 110 m110 true t110.cfg g110 := tC (fK (.eql v2 n0) (rK Hb504 Kb504) (fK (.eql v2 n1) (rK Hb506 Kb506) (fK (.eql v2 n5) (rK Hb508 Kb508) (fK (.eql v2 n9) (rK Hb510 (kK (n:=8) Kb510c Kb510d)) (rK Hb511 Kb511)))))
theorem cv111 : Go.Ev.CoversΦ Tryz.prog cuts φ 111 m111 true t111.cfg g110 := tC (fK (.eql v2 n0) (rK Hb512 Kb512) (fK (.eql v2 n1) (rK Hb514 Kb514) (fK (.eql v2 n5) (rK Hb516 Kb516) (fK (.eql v2 n9) (rK Hb518 (kK (n:=8) Kb518c Kb518d)) (rK Hb519 Kb519)))))
theorem cv112 : Go.Ev.CoversΦ Tryz.prog cuts φ 112 m112 true t112.cfg g112 := tC (fK (.eql v2 n0) (rK Hb520 Kb520) (fK (.eql v2 n1) (rK Hb522 Kb522) (fK (.eql v2 n5) (rK Hb524 Kb524) (fK (.eql v2 n9) (rK Hb526 (kK (n:=8) Kb526c Kb526d)) (rK Hb527 Kb527)))))
theorem cv113 : Go.Ev.CoversΦ Tryz.prog cuts φ 113 ⟨11, none, 0, none, 0, none⟩ true t113.cfg g113 := tC (fK (.eql v13 n0) (rK Hb528 Kb528) (fK (.eql v13 n1) (rK Hb530 Kb530) (fK (.eql v13 n2) (rK Hb532 Kb532) (fK (.eql v13 n3) (rK Hb534 Kb534) (rK Hb535 (kK (n:=9) Kb535c Kb535d))))))
theorem cv114 : Go.Ev.CoversΦ Tryz.prog cuts φ 114 m114 true t114.cfg g114 := tC (fK (.eql v1 n1) (rK Hb536 Kb536) (fK (.eql v1 n2) (rK Hb538 Kb538) (fK (.eql v1 n3) (rK Hb540 Kb540) (fK (.eql v1 n4) (rK Hb542 Kb542) (fK (.eql v1 n5) (rK Hb544 Kb544) (fK (.eql v1 n6) (rK Hb546 Kb546) (fK (.eql v1 n7) (rK Hb548 Kb548) (fK (.eql v1 n8) (rK Hb550 Kb550) (rK Hb551 (kK (n:=4) Kb551c (kK (n:=5) Kb551d Kb551e)))))))))))
theorem cv115 : Go.Ev.CoversΦ Tryz.prog cuts φ 115 m115 true t115.cfg g115 := tC (fK (.eql v1 n0) (rK Hb552 Kb552) (fK (.eql v1 n1) (rK Hb554 Kb554) (fK (.eql v1 n5) (rK Hb556 Kb556) (fK (.eql v1 n9) (rK Hb558 (kK (n:=8) Kb558c Kb558d)) (rK Hb559 Kb559)))))
theorem cv116 : Go.Ev.CoversΦ Tryz.prog cuts φ 116 m116 true t116.cfg g116 := tC (fK (.lss v0 (.lit 8000)) (fK (.eql v14 n0) (fK (.eql v17 n0) (fK (.eql v20 n0) (fK (.eql v23 n0) (rK Hb564 Kb564) (fK (.eql (.rem v0 n4) n0) (rK Hb566 Kb566) (fK (.eql (.rem v0 n4) n1) (rK Hb568 Kb568) (fK (.eql (.rem v0 n4) n2) (rK Hb570 Kb570) (fK (.eql v23 n1) (rK Hb572 Kb572) (fK (.eql v23 n2) (rK Hb574 Kb574) (fK (.eql v23 n3) (rK Hb576 Kb576) (rK Hb577 (kK (n:=9) Kb577c Kb577d))))))))) (fK (.eql (.rem v0 n4) n0) (rK Hb579 Kb579) (fK (.eql (.rem v0 n4) n1) (rK Hb581 Kb581) (fK (.eql (.rem v0 n4) n2) (fK (.eql v20 n1) (rK Hb584 (kK (n:=3) Kb584c Kb584d)) (fK (.eql v20 n2) (rK Hb586 Kb586) (fK (.eql v20 n3) (rK Hb588 Kb588) (rK Hb589 (kK (n:=9) Kb589c Kb589d))))) (fK (.eql v23 n0) (rK Hb591 Kb591) (fK (.eql v23 n1) (rK Hb593 (kK (n:=3) Kb593c Kb593d)) (fK (.eql v23 n2) (rK Hb595 Kb595) (fK (.eql v23 n3) (rK Hb597 Kb597) (rK Hb598 (kK (n:=10) Kb598c Kb598d)))))))))) (fK (.eql (.rem v0 n4) n0) (rK Hb600 Kb600) (fK (.eql (.rem v0 n4) n1) (fK (.eql v17 n1) (rK Hb603 (kK (n:=5) Kb603c Kb603d)) (fK (.eql v17 n2) (rK Hb605 Kb605) (fK (.eql v17 n3) (rK Hb607 Kb607) (rK Hb608 (kK (n:=9) Kb608c Kb608d))))) (fK (.eql (.rem v0 n4) n2) (fK (.eql v20 n0) (rK Hb611 Kb611) (fK (.eql v20 n1) (rK Hb613 (kK (n:=3) Kb613c Kb613d)) (fK (.eql v20 n2) (rK Hb615 Kb615) (fK (.eql v20 n3) (rK Hb617 Kb617) (rK Hb618 (kK (n:=9) Kb618c Kb618d)))))) (fK (.eql v23 n0) (rK Hb620 Kb620) (fK (.eql v23 n1) (rK Hb622 (kK (n:=3) Kb622c Kb622d)) (fK (.eql v23 n2) (rK Hb624 Kb624) (fK (.eql v23 n3) (rK Hb626 Kb626) (rK Hb627 (kK (n:=10) Kb627c Kb627d)))))))))) (fK (.eql (.rem v0 n4) n0) (fK (.eql v14 n1) (rK Hb630 Kb630) (fK (.eql v14 n2) (rK Hb632 Kb632) (fK (.eql v14 n3) (rK Hb634 Kb634) (rK Hb635 (kK (n:=9) Kb635c Kb635d))))) (fK (.eql (.rem v0 n4) n1) (fK (.eql v17 n0) (rK Hb638 Kb638) (fK (.eql v17 n1) (rK Hb640 (kK (n:=5) Kb640c Kb640d)) (fK (.eql v17 n2) (rK Hb642 Kb642) (fK (.eql v17 n3) (rK Hb644 Kb644) (rK Hb645 (kK (n:=9) Kb645c Kb645d)))))) (fK (.eql (.rem v0 n4) n2) (fK (.eql v20 n0) (rK Hb648 Kb648) (fK (.eql v20 n1) (rK Hb650 (kK (n:=3) Kb650c Kb650d)) (fK (.eql v20 n2) (rK Hb652 Kb652) (fK (.eql v20 n3) (rK Hb654 Kb654) (rK Hb655 (kK (n:=9) Kb655c Kb655d)))))) (fK (.eql v23 n0) (rK Hb657 Kb657) (fK (.eql v23 n1) (rK Hb659 (kK (n:=3) Kb659c Kb659d)) (fK (.eql v23 n2) (rK Hb661 Kb661) (fK (.eql v23 n3) (rK Hb663 Kb663) (rK Hb664 (kK (n:=10) Kb664c Kb664d)))))))))) (rK Hb665 Kb665))
theorem cv117 : Go.Ev.CoversΦ Tryz.prog cuts φ 117 m117 true t117.cfg g117 := tC (fK (.eql v1 n1) (rK Hb666 Kb666) (fK (.eql v1 n2) (rK Hb668 Kb668) (fK (.eql v1 n3) (rK Hb670 Kb670) (fK (.eql v1 n4) (rK Hb672 Kb672) (fK (.eql v1 n5) (rK Hb674 Kb674) (fK (.eql v1 n6) (rK Hb676 Kb676) (fK (.eql v1 n7) (rK Hb678 Kb678) (fK (.eql v1 n8) (rK Hb680 Kb680) (rK Hb681 (kK (n:=4) Kb681c (kK (n:=5) Kb681d Kb681e)))))))))))
theorem cv118 : Go.Ev.CoversΦ Tryz.prog cuts φ 118 m118 true t118.cfg g118 := tC (fK (.eql v1 n0) (rK Hb682 Kb682) (fK (.eql v1 n1) (rK Hb684 Kb684) (fK (.eql v1 n5) (rK Hb686 Kb686) (fK (.eql v1 n9) (rK Hb688 (kK (n:=8) Kb688c Kb688d)) (rK Hb689 Kb689)))))
theorem cv119 : Go.Ev.CoversΦ Tryz.prog cuts φ 119 m119 true t119.cfg g119 := tC (fK (.eql v1 n1) (rK Hb690 Kb690) (fK (.eql v1 n2) (rK Hb692 Kb692) (fK (.eql v1 n3) (rK Hb694 Kb694) (fK (.eql v1 n4) (rK Hb696 Kb696) (fK (.eql v1 n5) (rK Hb698 Kb698) (fK (.eql v1 n6) (rK Hb700 Kb700) (fK (.eql v1 n7) (rK Hb702 Kb702) (fK (.eql v1 n8) (rK Hb704 Kb704) (rK Hb705 (kK (n:=4) Kb705c (kK (n:=5) Kb705d Kb705e)))))))))))
theorem cv120 : Go.Ev.CoversΦ Tryz.prog cuts φ 120 m120 true t120.cfg g117 := tC (fK (.eql v1 n1) (rK Hb706 Kb706) (fK (.eql v1 n2) (rK Hb708 Kb708) (fK (.eql v1 n3) (rK Hb710 Kb710) (fK (.eql v1 n4) (rK Hb712 Kb712) (fK (.eql v1 n5) (rK Hb714 Kb714) (fK (.eql v1 n6) (rK Hb716 Kb716) (fK (.eql v1 n7) (rK Hb718 Kb718) (fK (.eql v1 n8) (rK Hb720 Kb720) (rK Hb721 (kK (n:=4) Kb721c (kK (n:=5) Kb721d Kb721e)))))))))))
theorem cv121 : Go.Ev.CoversΦ Tryz.prog cuts φ 121 m121 true t121.cfg g118 := tC (fK (.eql v1 n0) (rK Hb722 Kb722) (fK (.eql v1 n1) (rK Hb724 Kb724) (fK (.eql v1 n5) (rK Hb726 Kb726) (fK (.eql v1 n9) (rK Hb728 (kK (n:=8) Kb728c Kb728d)) (rK Hb729 Kb729)))))
theorem cv122 : Go.Ev.CoversΦ Tryz.prog cuts φ 122 m122 true t122.cfg g122 := tC (fK (.eql v1 n0) (rK Hb730 Kb730) (fK (.eql v1 n1) (rK Hb732 Kb732) (fK (.eql v1 n5) (rK Hb734 Kb734) (fK (.eql v1 n9) (rK Hb736 (kK (n:=8) Kb736c Kb736d)) (rK Hb737 Kb737)))))
theorem cv128 : Go.Ev.CoversΦ Tryz.prog cuts φ 128 m128 true t128.cfg g83 := tC (fK (.eql v2 n0) (rK Hb738 Kb738) (fK (.eql v2 n1) (rK Hb740 Kb740) (fK (.eql v2 n5) (rK Hb742 Kb742) (fK (.eql v2 n9) (rK Hb744 (kK (n:=7) Kb744c Kb744d)) (rK Hb745 Kb745)))))
theorem cv130 : Go.Ev.CoversΦ Tryz.prog cuts φ 130 m130 true t130.cfg g130 := tC (fK (.eql v1 n1) (rK Hb746 Kb746) (fK (.eql v1 n2) (rK Hb748 Kb748) (fK (.eql v1 n3) (rK Hb750 Kb750) (fK (.eql v1 n4) (rK Hb752 Kb752) (fK (.eql v1 n5) (rK Hb754 Kb754) (fK (.eql v1 n6) (rK Hb756 Kb756) (fK (.eql v1 n7) (rK Hb758 Kb758) (fK (.eql v1 n8) (rK Hb760 Kb760) (rK Hb761 (kK (n:=6) Kb761c Kb761d))))))))))
theorem cv131 : Go.Ev.CoversΦ Tryz.prog cuts φ 131 m131 true t131.cfg g131 := tC (fK (.eql v1 n0) (rK Hb762 Kb762) (fK (.eql v1 n1) (rK Hb764 Kb764) (fK (.eql v1 n5) (rK Hb766 Kb766) (fK (.eql v1 n9) (rK Hb768 (kK (n:=7) Kb768c Kb768d)) (rK Hb769 Kb769)))))
theorem cv132 : Go.Ev.CoversΦ Tryz.prog cuts φ 132 m132 true t132.cfg g132 := tC (fK (.lss v0 (.lit 8000)) (fK (.eql v8 n0) (rK Hb771 (kK (n:=6) Kb771c Kb771d)) (fK (.eql (.rem v0 n2) n0) (rK Hb773 (kK (n:=6) Kb773c Kb773d)) (rK Hb774 (kK (n:=6) Kb774c Kb774d)))) (rK Hb775 Kb775))
theorem cv133 : Go.Ev.CoversΦ Tryz.prog cuts φ 133 m133 true t133.cfg g133 := tC (fK (.eql v1 n1) (rK Hb776 Kb776) (fK (.eql v1 n2) (rK Hb778 Kb778) (fK (.eql v1 n3) (rK Hb780 Kb780) (fK (.eql v1 n4) (rK Hb782 Kb782) (fK (.eql v1 n5) (rK Hb784 Kb784) (fK (.eql v1 n6) (rK Hb786 Kb786) (fK (.eql v1 n7) (rK Hb788 Kb788) (fK (.eql v1 n8) (rK Hb790 Kb790) (rK Hb791 (kK (n:=6) Kb791c Kb791d))))))))))
theorem cv134 : Go.Ev.CoversΦ Tryz.prog cuts φ 134 m134 true t134.cfg g131 := tC (fK (.eql v1 n0) (rK Hb792 Kb792) (fK (.eql v1 n1) (rK Hb794 Kb794) (fK (.eql v1 n5) (rK Hb796 Kb796) (fK (.eql v1 n9) (rK Hb798 (kK (n:=7) Kb798c Kb798d)) (rK Hb799 Kb799)))))
theorem cv138 : Go.Ev.CoversΦ Tryz.prog cuts φ 138 m138 true t138.cfg g138 := tC (fK (.eql v1 n5) (rK Hb800 Kb800) (fK (.eql v1 n6) (rK Hb802 Kb802) (rK Hb803 (kK (n:=6) Kb803c Kb803d))))
theorem cv139 : Go.Ev.CoversΦ Tryz.prog cuts φ 139 m139 true t139.cfg g139 := tC (fK (.eql v1 n0) (rK Hb804 Kb804) (rK Hb805 Kb805))

theorem cv0 : Go.Ev.CoversΦ Tryz.prog cuts φ 0 ⟨42,none,0,none,0,none⟩ true t0.cfg g0 := tC (rK H0 K0)
theorem cv1 : Go.Ev.CoversΦ Tryz.prog cuts φ 1 ⟨24,none,0,none,0,none⟩ true t1.cfg g1 := tC (rK H1 K1)
theorem cv2 : Go.Ev.CoversΦ Tryz.prog cuts φ 2 ⟨33,none,0,none,0,none⟩ true t2.cfg g1 := tC (rK H2 K2)
theorem cv3 : Go.Ev.CoversΦ Tryz.prog cuts φ 3 ⟨15,none,0,none,0,none⟩ true t3.cfg g0 := tC (rK H3 K3)
theorem cv4 : Go.Ev.CoversΦ Tryz.prog cuts φ 4 ⟨13,none,0,none,0,none⟩ true t4.cfg g4 := tC (rK H4 K4)
theorem cv5 : Go.Ev.CoversΦ Tryz.prog cuts φ 5 ⟨11,none,0,none,0,none⟩ true t5.cfg g5 := tC (rK H5 K5)
theorem cv6 : Go.Ev.CoversΦ Tryz.prog cuts φ 6 ⟨10,none,0,none,0,none⟩ true t6.cfg g6 := tC (rK H6 K6)
theorem cv7 : Go.Ev.CoversΦ Tryz.prog cuts φ 7 m7 true t7.cfg g7 := tC (rK H7 K7)
theorem cv8 : Go.Ev.CoversΦ Tryz.prog cuts φ 8 ⟨31,none,0,none,0,none⟩ true t8.cfg g8 := tC (rK H8 K8)
theorem cv9 : Go.Ev.CoversΦ Tryz.prog cuts φ 9 ⟨29,none,0,none,0,none⟩ true t9.cfg g9 := tC (rK H9 K9)
theorem cv10 : Go.Ev.CoversΦ Tryz.prog cuts φ 10 ⟨27,none,0,none,0,none⟩ true t10.cfg g10 := tC (rK H10 K10)
theorem cv11 : Go.Ev.CoversΦ Tryz.prog cuts φ 11 ⟨25,none,0,none,0,none⟩ true t11.cfg g11 := tC (rK H11 K11)
theorem cv12 : Go.Ev.CoversΦ Tryz.prog cuts φ 12 ⟨23,none,0,none,0,none⟩ true t12.cfg g12 := tC (rK H12 K12)
theorem cv13 : Go.Ev.CoversΦ Tryz.prog cuts φ 13 m13 true t13.cfg g13 := tC (rK H13 K13)
theorem cv14 : Go.Ev.CoversΦ Tryz.prog cuts φ 14 ⟨22,none,0,none,0,none⟩ true t14.cfg g8 := tC (rK H14 K14)
theorem cv15 : Go.Ev.CoversΦ Tryz.prog cuts φ 15 ⟨20,none,0,none,0,none⟩ true t15.cfg g9 := tC (rK H15 K15)
theorem cv16 : Go.Ev.CoversΦ Tryz.prog cuts φ 16 ⟨18,none,0,none,0,none⟩ true t16.cfg g16 := tC (rK H16 K16)
theorem cv17 : Go.Ev.CoversΦ Tryz.prog cuts φ 17 ⟨16,none,0,none,0,none⟩ true t17.cfg g11 := tC (rK H17 K17)
theorem cv18 : Go.Ev.CoversΦ Tryz.prog cuts φ 18 m18 true t18.cfg g18 := tC (rK H18 K18)
theorem cv19 : Go.Ev.CoversΦ Tryz.prog cuts φ 19 ⟨40,none,0,none,0,none⟩ true t19.cfg g4 := tC (rK H19 K19)
theorem cv20 : Go.Ev.CoversΦ Tryz.prog cuts φ 20 ⟨38,none,0,none,0,none⟩ true t20.cfg g20 := tC (rK H20 K20)
theorem cv21 : Go.Ev.CoversΦ Tryz.prog cuts φ 21 ⟨36,none,0,none,0,none⟩ true t21.cfg g21 := tC (rK H21 K21)
theorem cv22 : Go.Ev.CoversΦ Tryz.prog cuts φ 22 ⟨34,none,0,none,0,none⟩ true t22.cfg g22 := tC (rK H22 K22)
theorem cv23 : Go.Ev.CoversΦ Tryz.prog cuts φ 23 ⟨32,none,0,none,0,none⟩ true t23.cfg g12 := tC (rK H23 K23)
theorem cv24 : Go.Ev.CoversΦ Tryz.prog cuts φ 24 ⟨30,none,0,none,0,none⟩ true t24.cfg g24 := tC (rK H24 K24)
theorem cv25 : Go.Ev.CoversΦ Tryz.prog cuts φ 25 m25 true t25.cfg g25 := tC (rK H25 K25)
theorem cv26 : Go.Ev.CoversΦ Tryz.prog cuts φ 26 m26 true t26.cfg g26 := tC (rK H26 K26)
theorem cv27 : Go.Ev.CoversΦ Tryz.prog cuts φ 27 m27 true t27.cfg g27 := tC (rK H27 K27)
theorem cv28 : Go.Ev.CoversΦ Tryz.prog cuts φ 28 m28 true t28.cfg g18 := tC (rK H28 K28)
theorem cv29 : Go.Ev.CoversΦ Tryz.prog cuts φ 29 ⟨28,none,0,none,0,none⟩ true t29.cfg g29 := tC (rK H29 K29)
theorem cv30 : Go.Ev.CoversΦ Tryz.prog cuts φ 30 ⟨21,none,0,none,0,none⟩ true t30.cfg g24 := tC (rK H30 K30)
theorem cv31 : Go.Ev.CoversΦ Tryz.prog cuts φ 31 ⟨26,none,0,none,0,none⟩ true t31.cfg g31 := tC (rK H31 K31)
theorem cv32 : Go.Ev.CoversΦ Tryz.prog cuts φ 32 ⟨25,none,0,none,0,none⟩ true t32.cfg g32 := tC (rK H32 K32)
theorem cv33 : Go.Ev.CoversΦ Tryz.prog cuts φ 33 ⟨23,none,0,none,0,none⟩ true t33.cfg g33 := tC (rK H33 K33)
theorem cv34 : Go.Ev.CoversΦ Tryz.prog cuts φ 34 ⟨20,none,0,none,0,none⟩ true t34.cfg g34 := tC (rK H34 K34)
theorem cv35 : Go.Ev.CoversΦ Tryz.prog cuts φ 35 ⟨22,none,0,none,0,none⟩ true t35.cfg g35 := tC (rK H35 K35)
theorem cv36 : Go.Ev.CoversΦ Tryz.prog cuts φ 36 m36 true t36.cfg g36 := tC (rK H36 K36)
theorem cv37 : Go.Ev.CoversΦ Tryz.prog cuts φ 37 m37 true t37.cfg g37 := tC (rK H37 K37)
theorem cv38 : Go.Ev.CoversΦ Tryz.prog cuts φ 38 ⟨20,none,0,none,0,none⟩ true t38.cfg g38 := tC (rK H38 K38)
theorem cv39 : Go.Ev.CoversΦ Tryz.prog cuts φ 39 m39 true t39.cfg g39 := tC (rK H39 K39)
theorem cv40 : Go.Ev.CoversΦ Tryz.prog cuts φ 40 ⟨18,none,0,none,0,none⟩ true t40.cfg g40 := tC (rK H40 K40)
theorem cv41 : Go.Ev.CoversΦ Tryz.prog cuts φ 41 ⟨19,none,0,none,0,none⟩ true t41.cfg g41 := tC (rK H41 K41)
theorem cv42 : Go.Ev.CoversΦ Tryz.prog cuts φ 42 m42 true t42.cfg g42 := tC (rK H42 K42)
theorem cv43 : Go.Ev.CoversΦ Tryz.prog cuts φ 43 m43 true t43.cfg g37 := tC (rK H43 K43)
theorem cv44 : Go.Ev.CoversΦ Tryz.prog cuts φ 44 ⟨17,none,0,none,0,none⟩ true t44.cfg g44 := tC (rK H44 K44)
theorem cv45 : Go.Ev.CoversΦ Tryz.prog cuts φ 45 ⟨15,none,0,none,0,none⟩ true t45.cfg g45 := tC (rK H45 K45)
theorem cv46 : Go.Ev.CoversΦ Tryz.prog cuts φ 46 ⟨14,none,0,none,0,none⟩ true t46.cfg g46 := tC (rK H46 K46)
theorem cv47 : Go.Ev.CoversΦ Tryz.prog cuts φ 47 ⟨15,none,0,none,0,none⟩ true t47.cfg g47 := tC (rK H47 K47)
theorem cv48 : Go.Ev.CoversΦ Tryz.prog cuts φ 48 ⟨13,none,0,none,0,none⟩ true t48.cfg g48 := tC (rK H48 K48)
theorem cv49 : Go.Ev.CoversΦ Tryz.prog cuts φ 49 m49 true t49.cfg g49 := tC (rK H49 K49)
theorem cv50 : Go.Ev.CoversΦ Tryz.prog cuts φ 50 m50 true t50.cfg g7 := tC (rK H50 K50)
theorem cv51 : Go.Ev.CoversΦ Tryz.prog cuts φ 51 ⟨12,none,0,none,0,none⟩ true t51.cfg g51 := tC (rK H51 K51)
theorem cv52 : Go.Ev.CoversΦ Tryz.prog cuts φ 52 m52 true t52.cfg g52 := tC (rK H52 K52)
theorem cv53 : Go.Ev.CoversΦ Tryz.prog cuts φ 53 ⟨17,none,0,none,0,none⟩ true t53.cfg g53 := tC (rK H53 K53)
theorem cv54 : Go.Ev.CoversΦ Tryz.prog cuts φ 54 ⟨12,none,0,none,0,none⟩ true t54.cfg g54 := tC (rK H54 K54)
theorem cv55 : Go.Ev.CoversΦ Tryz.prog cuts φ 55 ⟨16,none,0,none,0,none⟩ true t55.cfg g55 := tC (rK H55 K55)
theorem cv56 : Go.Ev.CoversΦ Tryz.prog cuts φ 56 ⟨14,none,0,none,0,none⟩ true t56.cfg g56 := tC (rK H56 K56)
theorem cv58 : Go.Ev.CoversΦ Tryz.prog cuts φ 58 m58 true t58.cfg g58 := tC (rK H58 K58)
theorem cv59 : Go.Ev.CoversΦ Tryz.prog cuts φ 59 ⟨10,none,0,none,0,none⟩ true t59.cfg g59 := tC (rK H59 K59)
theorem cv60 : Go.Ev.CoversΦ Tryz.prog cuts φ 60 ⟨9,none,0,none,0,none⟩ true t60.cfg g60 := tC (rK H60 K60)
theorem cv61 : Go.Ev.CoversΦ Tryz.prog cuts φ 61 m61 true t61.cfg g42 := tC (rK H61 K61)
theorem cv62 : Go.Ev.CoversΦ Tryz.prog cuts φ 62 m62 true t62.cfg g52 := tC (rK H62 K62)
theorem cv63 : Go.Ev.CoversΦ Tryz.prog cuts φ 63 m63 true t63.cfg g49 := tC (rK H63 K63)
theorem cv64 : Go.Ev.CoversΦ Tryz.prog cuts φ 64 m64 true t64.cfg g64 := tC (rK H64 K64)
theorem cv75 : Go.Ev.CoversΦ Tryz.prog cuts φ 75 ⟨8,none,0,none,0,none⟩ true t75.cfg g75 := tC (rK H75 K75)
theorem cv76 : Go.Ev.CoversΦ Tryz.prog cuts φ 76 ⟨7,none,0,none,0,none⟩ true t76.cfg g76 := tC (rK H76 K76)
theorem cv78 : Go.Ev.CoversΦ Tryz.prog cuts φ 78 m78 true t78.cfg g78 := tC (rK H78 K78)
theorem cv106 : Go.Ev.CoversΦ Tryz.prog cuts φ 106 ⟨7,none,0,none,0,none⟩ true t106.cfg g106 := tC (rK H106 K106)
theorem cv107 : Go.Ev.CoversΦ Tryz.prog cuts φ 107 ⟨5,none,0,none,0,none⟩ true t107.cfg g107 := tC (rK H107 K107)
theorem cv108 : Go.Ev.CoversΦ Tryz.prog cuts φ 108 ⟨3,none,0,none,0,none⟩ true t108.cfg g107 := tC (rK H108 K108)
theorem cv109 : Go.Ev.CoversΦ Tryz.prog cuts φ 109 ⟨1,none,0,none,0,none⟩ true t109.cfg g107 := tC (rK H109 K109)
theorem cv123 : Go.Ev.CoversΦ Tryz.prog cuts φ 123 ⟨9,none,0,none,0,none⟩ true t123.cfg g123 := tC (rK H123 K123)
theorem cv124 : Go.Ev.CoversΦ Tryz.prog cuts φ 124 ⟨7,none,0,none,0,none⟩ true t124.cfg g124 := tC (rK H124 K124)
theorem cv125 : Go.Ev.CoversΦ Tryz.prog cuts φ 125 ⟨5,none,0,none,0,none⟩ true t125.cfg g124 := tC (rK H125 K125)
theorem cv126 : Go.Ev.CoversΦ Tryz.prog cuts φ 126 ⟨3,none,0,none,0,none⟩ true t126.cfg g124 := tC (rK H126 K126)
theorem cv127 : Go.Ev.CoversΦ Tryz.prog cuts φ 127 ⟨1,none,0,none,0,none⟩ true t127.cfg g124 := tC (rK H127 K127)
theorem cv129 : Go.Ev.CoversΦ Tryz.prog cuts φ 129 ⟨7,none,0,none,0,none⟩ true t129.cfg g129 := tC (rK H129 (kK (n:=6) K129c K129d))
theorem cv135 : Go.Ev.CoversΦ Tryz.prog cuts φ 135 ⟨5,none,0,none,0,none⟩ true t135.cfg g135 := tC (rK H135 K135)
theorem cv136 : Go.Ev.CoversΦ Tryz.prog cuts φ 136 ⟨3,none,0,none,0,none⟩ true t136.cfg g136 := tC (rK H136 K136)
theorem cv137 : Go.Ev.CoversΦ Tryz.prog cuts φ 137 ⟨5,none,0,none,0,none⟩ true t137.cfg g137 := tC (rK H137 K137)
theorem cv140 : Go.Ev.CoversΦ Tryz.prog cuts φ 140 m140 true t140.cfg g140 := tC (rK H140 K140)
theorem cv141 : Go.Ev.CoversΦ Tryz.prog cuts φ 141 ⟨3,none,0,none,0,none⟩ true t141.cfg g141 := tC (rK H141 K141)
theorem cv142 : Go.Ev.CoversΦ Tryz.prog cuts φ 142 ⟨1,none,0,none,0,none⟩ true t142.cfg g142 := tC (rK H142 K142)
theorem cv143 : Go.Ev.CoversΦ Tryz.prog cuts φ 143 ⟨1,none,0,none,0,none⟩ true t143.cfg g136 := tC (rK H143 K143)
theorem cv144 : Go.Ev.CoversΦ Tryz.prog cuts φ 144 m144 true t144.cfg g144 := tC (rK H144 K144)
theorem cv145 : Go.Ev.CoversΦ Tryz.prog cuts φ 145 m145 true t145.cfg g145 := tC (rK H145 K145)
theorem cv146 : Go.Ev.CoversΦ Tryz.prog cuts φ 146 m146 true t146.cfg g145 := tC (rK H146 K146)
theorem cv147 : Go.Ev.CoversΦ Tryz.prog cuts φ 147 m147 true t147.cfg g147 := tC (rK H147 (kK (n:=4) K147c K147d))
theorem cv148 : Go.Ev.CoversΦ Tryz.prog cuts φ 148 m148 true t148.cfg g147 := tC (rK H148 (kK (n:=4) K148c K148d))
theorem cv149 : Go.Ev.CoversΦ Tryz.prog cuts φ 149 m149 true t149.cfg g147 := tC (rK H149 (kK (n:=4) K149c K149d))
theorem cv150 : Go.Ev.CoversΦ Tryz.prog cuts φ 150 m150 true t150.cfg g147 := tC (rK H150 K150)
theorem cv151 : Go.Ev.CoversΦ Tryz.prog cuts φ 151 m151 true t151.cfg g151 := tC (rK H151 K151)
theorem cv152 : Go.Ev.CoversΦ Tryz.prog cuts φ 152 m152 true t152.cfg g151 := tC (rK H152 K152)
theorem cv153 : Go.Ev.CoversΦ Tryz.prog cuts φ 153 m153 true t153.cfg g151 := tC (rK H153 K153)
theorem okT (n : Nat) {l : List Go.Ev.ACut} (h1 : Go.Ev.allOK (l.take n) = true) (h2 : Go.Ev.allOK (l.drop n) = true) : Go.Ev.allOK l = true := by
  rw [← List.take_append_drop n l]
  unfold Go.Ev.allOK at h1 h2 ⊢
  rw [List.all_append, h1, h2]
  rfl
theorem okA0 : Go.Ev.allOK (cuts.take 38) = true := by kernel_rfl
theorem okA1 : Go.Ev.allOK ((cuts.drop 38).take 39) = true := by kernel_rfl
theorem okA2 : Go.Ev.allOK (((cuts.drop 38).drop 39).take 38) = true := by kernel_rfl
theorem okA3 : Go.Ev.allOK (((cuts.drop 38).drop 39).drop 38) = true := by kernel_rfl
theorem okC : Go.Ev.allOK cuts = true := (okT 38 okA0 (okT 39 okA1 (okT 38 okA2 okA3)))
theorem stA : (Go.Ev.start Tryz.prog 4 (Go.Ev.avP shape 0) (Go.Ev.heapP shape)).isSome = true := by kernel_rfl
set_option maxRecDepth 100000 in
theorem parA : Go.Ev.AllPartsΦ Tryz.prog cuts φ 0 cuts := ⟨cv0,cv1,cv2,cv3,cv4,cv5,cv6,cv7,cv8,cv9,cv10,cv11,cv12,cv13,cv14,cv15,cv16,cv17,cv18,cv19,cv20,cv21,cv22,cv23,cv24,cv25,cv26,cv27,cv28,cv29,cv30,cv31,cv32,cv33,cv34,cv35,cv36,cv37,cv38,cv39,cv40,cv41,cv42,cv43,cv44,cv45,cv46,cv47,cv48,cv49,cv50,cv51,cv52,cv53,cv54,cv55,cv56,cv57,cv58,cv59,cv60,cv61,cv62,cv63,cv64,cv65,cv66,cv67,cv68,cv69,cv70,cv71,cv72,cv73,cv74,cv75,cv76,cv77,cv78,cv79,cv80,cv81,cv82,cv83,cv84,cv85,cv86,cv87,cv88,cv89,cv90,cv91,cv92,cv93,cv94,cv95,cv96,cv97,cv98,cv99,cv100,cv101,cv102,cv103,cv104,cv105,cv106,cv107,cv108,cv109,cv110,cv111,cv112,cv113,cv114,cv115,cv116,cv117,cv118,cv119,cv120,cv121,cv122,cv123,cv124,cv125,cv126,cv127,cv128,cv129,cv130,cv131,cv132,cv133,cv134,cv135,cv136,cv137,cv138,cv139,cv140,cv141,cv142,cv143,cv144,cv145,cv146,cv147,cv148,cv149,cv150,cv151,cv152,cv153,trivial⟩
set_option maxRecDepth 100000 in
theorem walk (w : World) {vs : List Value} {cds : List Go.Ev.CD} (hf : Go.Ev.FitP w shape vs cds) :
    Calls Tryz.prog 4 vs.toArray w fun e w' => e = .returned (.bool true) ∧ Below w.heap.size w w' :=
  Go.Ev.calls_shapeΦ (l := cuts) (φ := φ) (top := top) (by kernel_rfl) okC parA stA cs (fun _ _ _ => trivial) w hf

theorem shaped : Go.Ev.paramShs Tryz.prog Tryz.f4.params.toList = some shape := by kernel_rfl
theorem laid : laidOutB Tryz.prog = true := by kernel_rfl
theorem reads : (Tryz.f4.params.toList.all fun t => Tryz.prog.readableRec t && decide (t < Tryz.prog.types.size)) = true := by kernel_rfl

set_option maxRecDepth 100000 in
theorem lifted (os : Go.Os) (started : os.Started) (H : Type) (enc : TypeId × Value → H) :
    ReturnsInHanded {} Tryz.checked os 4 .any (Rows.safeCountsSpec.pre6 enc Tryz.prog Tryz.f4 Rows.safeCountsRow.domain false) (Rows.safeCountsSpec.post enc Tryz.prog Tryz.f4 false true false false) := by
  refine returnsInHanded_of_change (C := Tryz.checked) own started (by kernel_rfl) Tryz.func4
    (ChangeSpec.witness6 (enc := enc) (C := Tryz.checked) false ⟨#[], #[.agg #[.slice none 0 0, .slice none 0 0]], []⟩ 8 (by kernel_rfl) (by kernel_rfl) (by kernel_rfl) (by kernel_rfl)) ?_
  intro W base args ds gs before hval0 hW hcnd _
  have hval : ∀ (j : Nat) t v, Tryz.f4.params.toList[j]? = some t → args.toList[j]? = some v → Value.okWide Tryz.prog W .any base t v := fun j t v ht hv => hval0 j t v (by simpa using ht) (by simpa using hv)
  have hW' := hW
  obtain ⟨p, q, hA, hV, rfl, hfz, hnd⟩ := hW
  have hB := hA
  rw [Tryz.params4] at hB
  obtain ⟨v0, vs0, d0, ds0, p0, r0, hargs0, rfl, rfl, h0, k0⟩ := trodAll_cons hB
  obtain ⟨-, hds, -⟩ := trodAll_nil k0
  subst hds
  obtain ⟨rfl, rfl⟩ := trodVars_none hV
  simp only [List.append_nil] at hW'
  obtain ⟨cds, hfit⟩ := Go.Ev.args_fit hA hval shaped
  refine (walk W hfit).mono fun e W' ⟨he, hg⟩ => ?_
  subst he
  exact ⟨_, rfl, Go.Ev.post_args (pv := []) hW' (fun _ _ _ => (trodAll_cons_mk (shut_bool Tryz.underlying4 _) trodAll_mk0)) (Go.Ev.args_stay laid reads hg hA (fun x hx => by simpa using hW'.lt x hx)) (fun _ _ => rfl) hg⟩

theorem over : Rows.safeCountsRow.holds Tryz.pinned (OpenSpec.ofChange Rows.safeCountsSpec) :=
  OpenClaim.holds_of_wide 4 Tryz.f4 rfl rfl rfl rfl rfl rfl rfl ⟨rfl, rfl, rfl, rfl, rfl⟩ rfl rfl rfl rfl rfl (by kernel_rfl) Tryz.func4 (by kernel_rfl)
    (of_decide_eq_true (by kernel_rfl)) (by unfold Func.isWrapper; first | (rw [if_pos (by decide +kernel)]; kernel_rfl) | (rw [if_neg (by decide +kernel)]; exact ⟨rfl, rfl⟩))
    (fun os started H enc _ => lifted os started H enc)

/-- the statement -/
theorem proved : Rows.SafeCountsSaid :=
  over
end Go.Proofs.YtmmehhibkpfghaaGreat.safeCounts
