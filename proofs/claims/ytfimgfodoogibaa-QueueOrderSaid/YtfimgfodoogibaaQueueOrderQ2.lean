/- Parts of the plan for the law QueueOrder: each is one kernel run. -/
import Derived.Test.YtfimgfodoogibaaQueueOrderPlan
set_option linter.unusedVariables false
namespace Go.Proofs.Ytfimgfodoogibaa.queueOrder
open Go Go.Ev
noncomputable section

def db2 : D_ := c0_ [[(15,n1)]] [] [] [(f141,true),(f132,false)]
theorem qb2 : QQ 141 { rank := top } false xb2 zb2 := Cl.partK 1000000 db2 [p0] (by kernel_rfl) (by kernel_rfl) (by kernel_rfl)
def db156 : D_ := c44_ [[(4,(.wrap .i64 (.add (.wrap .i64 (.add (.wrap .i64 (.add (.wrap .i64 (.add (.wrap .i64 (.add (.wrap .i64 (.add (.wrap .i64 (.add (.wrap .i64 (.add (.wrap .i64 (.add (.wrap .i64 (.add v1 n1)) n1)) n1)) n1)) n1)) n1)) n1)) n1)) n1)) n1))),(6,v10)]] [] w0 [(f212,true),(f178,false),(f163,false),(f149,false),(f28,false),(f0,false),(f2,false),(f19,false),(f13,false),(f14,false),(f15,false),(f58,false),(f3,false),(f20,false),(f16,false),(f17,false),(f12,false),(f57,false),(f18,false),(f10,false),(f9,false),(f11,false),(f55,false),(f7,false),(f6,false),(f8,false),(f54,false),(f4,false),(f5,false),(f42,false),(f1,false),(f40,false),(f32,false)]
theorem Hb156 : H xb156 zb156 db156 := by delta H;kernel_rfl
theorem Kb156 : K 69 m69 xb156 db156 [lE] := by delta K;kernel_rfl
theorem qb156 : Q 69 m69 xb156 zb156 := pK Hb156 Kb156
def db96 : D_ := c31_ [[(5,(.wrap .i64 (.add (.wrap .i64 (.add (.wrap .i64 (.add (.wrap .i64 (.add (.wrap .i64 (.add (.wrap .i64 (.add (.wrap .i64 (.add (.wrap .i64 (.add (.wrap .i64 (.add (.wrap .i64 (.add v5 n1)) n1)) n1)) n1)) n1)) n1)) n1)) n1)) n1)) n1))),(21,v13)]] [] w0 a68
theorem Hb96 : H xb96 zb96 db96 := by delta H;kernel_rfl
theorem Kb96 : K 38 (rk 16) xb96 db96 [lE] := by delta K;kernel_rfl
theorem qb96 : Q 38 (rk 16) xb96 zb96 := pK Hb96 Kb96
def db152 : D_ := c44_ [[(4,(.wrap .i64 (.add (.wrap .i64 (.add (.wrap .i64 (.add (.wrap .i64 (.add (.wrap .i64 (.add (.wrap .i64 (.add (.wrap .i64 (.add (.wrap .i64 (.add v1 n1)) n1)) n1)) n1)) n1)) n1)) n1)) n1))),(6,v8)],o4] [] w0 [(f163,true),(f149,false),(f28,false),(f0,false),(f2,false),(f19,false),(f13,false),(f14,false),(f15,false),(f58,false),(f3,false),(f20,false),(f16,false),(f17,false),(f12,false),(f57,false),(f18,false),(f10,false),(f9,false),(f11,false),(f55,false),(f7,false),(f6,false),(f8,false),(f54,false),(f4,false),(f5,false),(f42,false),(f1,false),(f40,false),(f32,false)]
theorem Hb152 : H xb152 zb152 db152 := by delta H;kernel_rfl
theorem Kb152 : K 69 m69 xb152 db152 [lE] := by delta K;kernel_rfl
theorem qb152 : Q 69 m69 xb152 zb152 := pK Hb152 Kb152
def db204 : D_ := c48_ [[(4,(.wrap .i64 (.add (.wrap .i64 (.add (.wrap .i64 (.add (.wrap .i64 (.add (.wrap .i64 (.add (.wrap .i64 (.add (.wrap .i64 (.add (.wrap .i64 (.add (.wrap .i64 (.add v4 n1)) n1)) n1)) n1)) n1)) n1)) n1)) n1)) n1))),(7,v9)]] [] w0 [(f215,true),(f181,false),(f166,false),(f22,false),(f21,false),(f23,false),(f27,false),(f25,false),(f24,false),(f26,false),(f0,false),(f2,false),(f19,false),(f13,false),(f14,false),(f15,false),(f3,false),(f20,false),(f16,false),(f17,false),(f12,false),(f18,false),(f10,false),(f9,false),(f11,false),(f7,false),(f6,false),(f8,false),(f4,false),(f5,false),(f1,false)]
theorem Hb204 : H xb204 zb204 db204 := by delta H;kernel_rfl
theorem Kb204 : K 73 (rk 10) xb204 db204 [lE] := by delta K;kernel_rfl
theorem qb204 : Q 73 (rk 10) xb204 zb204 := pK Hb204 Kb204
def db150 : D_ := c44_ [[(7,v8),(8,v9),(9,v10)]] [] w0 [(f149,true),(f28,false),(f0,false),(f2,false),(f19,false),(f13,false),(f14,false),(f15,false),(f58,false),(f3,false),(f20,false),(f16,false),(f17,false),(f12,false),(f57,false),(f18,false),(f10,false),(f9,false),(f11,false),(f55,false),(f7,false),(f6,false),(f8,false),(f54,false),(f4,false),(f5,false),(f42,false),(f1,false),(f40,false),(f32,false)]
theorem Hb150 : H xb150 zb150 db150 := by delta H;kernel_rfl
theorem Kb150 : K 69 m69 xb150 db150 [lE] := by delta K;kernel_rfl
theorem qb150 : Q 69 m69 xb150 zb150 := pK Hb150 Kb150
def d12 : D_ := K_ f169 (c10_ [[(5,(.wrap .i64 (.add (.wrap .i64 (.add (.wrap .i64 (.add (.wrap .i64 (.add (.wrap .i64 (.add (.wrap .i64 (.add (.wrap .i64 (.add (.wrap .i64 (.add v5 n1)) n1)) n1)) n1)) n1)) n1)) n1)) n1))),(16,v8)]] [] w0) (c11_ [[(15,v8),(16,v15)]] [] w0) [(f29,false),((.eql v14 v8),false),((.eql v14 v9),false),(f220,false),(f146,false),(f118,false),(f92,false),((.eql v15 v8),false),((.eql v15 v9),false),(f221,false),(f147,false),(f117,false),(f93,false),(f18,false),(f10,false),(f9,false),(f11,false),(f55,false),(f7,false),(f6,false),(f8,false),(f54,false),(f4,false),(f5,false),(f42,false),(f1,false),(f40,false),(f32,false)]
theorem H12 : H g12 (t12.cfg) d12 := by delta H;kernel_rfl
theorem K12 : K 12 (rk 22) g12 d12 [lE,lE] := by delta K;kernel_rfl
theorem q12 : Q 12 (rk 22) g12 t12.cfg := pK H12 K12
def db234 : D_ := c52_ [[(10,v10)]] [] w0 [(f218,true),(f22,false),(f21,false),(f23,false),(f27,false),(f25,false),(f24,false),(f26,false),(f0,false),(f2,false),(f19,false),(f13,false),(f14,false),(f15,false),(f3,false),(f20,false),(f16,false),(f17,false),(f12,false),(f18,false),(f10,false),(f9,false),(f11,false),(f7,false),(f6,false),(f8,false),(f4,false),(f5,false),(f1,false)]
theorem Hb234 : H xb234 zb234 db234 := by delta H;kernel_rfl
theorem Kb234 : K 77 (rk 12) xb234 db234 [lE] := by delta K;kernel_rfl
theorem qb234 : Q 77 (rk 12) xb234 zb234 := pK Hb234 Kb234
def d8 : D_ := K_ (.eql (.bits .and .u8 v0 n1) n1) (L_ (.cut 9 q0_ [] w0)) (L_ (.cut 10 q0_ [] w0)) a51
theorem H8 : H g8 (t8.cfg) d8 := by delta H;kernel_rfl
theorem K8 : K 8 (rk 24) g8 d8 [lE,lE] := by delta K;kernel_rfl
theorem q8 : Q 8 (rk 24) g8 t8.cfg := pK H8 K8
def d98 : D_ := L_ (.cut 100 q6_ [] w0) a172
theorem H98 : H g97 (t98.cfg) d98 := by delta H;kernel_rfl
theorem K98 : K 98 (rk 8) g97 d98 [lE] := by delta K;kernel_rfl
theorem q98 : Q 98 (rk 8) g97 t98.cfg := pK H98 K98
def d113 : D_ := L_ (.cut 119 q7_ [] w0) a173
theorem H113 : H g107 (t113.cfg) d113 := by delta H;kernel_rfl
theorem K113 : K 113 (rk 8) g107 d113 [lE] := by delta K;kernel_rfl
theorem q113 : Q 113 (rk 8) g107 t113.cfg := pK H113 K113
def d127 : D_ := L_ (.cut 130 q9_ [] w0) a172
theorem H127 : H g97 (t127.cfg) d127 := by delta H;kernel_rfl
theorem K127 : K 127 (rk 2) g97 d127 [lE] := by delta K;kernel_rfl
theorem q127 : Q 127 (rk 2) g97 t127.cfg := pK H127 K127
def d135 : D_ := K_ f28 (K_ f84 l71 (K_ f85 l71 (K_ f37 l71 (K_ f36 l71 (K_ f95 l71 (K_ f38 l71 (K_ f106 l71 (K_ f128 l71 (K_ f94 l71 (K_ f39 l71 (K_ f129 l71 (K_ f130 l71 l71)))))))))))) l68 a174
theorem H135 : H g129 (t135.cfg) d135 := by delta H;kernel_rfl
theorem K135 : K 135 m135 g129 d135 [lE,lE,lE,lE,lE,lE,lE,lE,lE,lE,lE,lE,lE,lE] := by delta K;kernel_rfl
theorem q135 : Q 135 m135 g129 t135.cfg := pK H135 K135
def d140 : D_ := K_ f28 (K_ f84 l73 (K_ f85 l73 (K_ f37 l73 (K_ f36 l73 (K_ f38 l73 (K_ f106 l73 (K_ f128 l73 (K_ f129 l73 (K_ f130 l73 (K_ (.eql v0 (.add (.mul v1 n6) n3)) l73 l73)))))))))) l68 a172
theorem H140 : H g140 (t140.cfg) d140 := by delta H;kernel_rfl
theorem K140 : K 140 m140 g140 d140 [lE,lE,lE,lE,lE,lE,lE,lE,lE,lE,lE,lE] := by delta K;kernel_rfl
theorem q140 : Q 140 m140 g140 t140.cfg := pK H140 K140
def db76 : D_ := K_ f103 (K_ f108 (K_ f122 (K_ f138 (K_ f199 (K_ f98 (K_ f99 l45 l46) l47) l40) l41) l42) l43) (c7_ [[(24,(.add v23 n1))]] [] []) [(f177,true),(f158,false),(f145,false),(f133,false),(f53,false),(f71,false),(f90,false),(f104,false),(f123,false),(f168,false),(f29,false),(f31,false),(f34,false),(f45,false),(f74,false),(f30,false),(f35,false),(f46,false),(f75,false),(f33,false),(f43,false),(f73,false),(f44,false),(f72,false),(f76,false),(f41,false)]
theorem Hb76 : H xb76 zb76 db76 := by delta H;kernel_rfl
theorem Kb76 : K 6 (rk 26) xb76 db76 [mT (sq 7 fun i => mO (.eql (.var (13+i)) (.lit 2)) false [sA,sP,sU [7]] cB) (lT (pW [] 2) [] [] .non),mT (sq 7 fun i => mO (.eql (.var (13+i)) (.lit 1)) false [sA] (cV [(8+64*i)])) (lT pY (sq 7 fun i => ((2+8*i),(cV [(16+64*i)]))) [] .non),mT (sq 7 fun i => mO (.eql (.var (13+i)) (.lit 0)) false [sA] (cV [(0+64*i)])) (lT pY [(1,(cV [8])),(2,(cV [16])),(9,(cV [72])),(10,(cV [80])),(17,(cV [136])),(18,(cV [144])),(25,(cV [200])),(26,(cV [208])),(33,(cV [264])),(34,(cV [272])),(41,(cV [328])),(42,(cV [336])),(49,(cV [392])),(50,(cV [400]))] [] .non),mT (sq 7 fun i => mO (.eql (.var (13+i)) (.lit 7)) false [sA] (cV [(56+64*i)])) (lT pY [(0,(cV [0])),(1,(cV [8])),(2,(cV [16])),(8,(cV [64])),(9,(cV [72])),(10,(cV [80])),(16,(cV [128])),(17,(cV [136])),(18,(cV [144])),(24,(cV [192])),(25,(cV [200])),(26,(cV [208])),(32,(cV [256])),(33,(cV [264])),(34,(cV [272])),(40,(cV [320])),(41,(cV [328])),(42,(cV [336])),(48,(cV [384])),(49,(cV [392])),(50,(cV [400]))] [] .non),mT (sq 7 fun i => mO (.eql (.var (13+i)) (.lit 6)) false [sA] (cV [(48+64*i)])) (lT pY (ap [(0,(cV [0])),(1,(cV [8])),(2,(cV [16]))] (ap (sq 4 fun i => ((7+i),(cV [(56+8*i)]))) (ap (sq 4 fun i => ((15+i),(cV [(120+8*i)]))) (ap (sq 4 fun i => ((23+i),(cV [(184+8*i)]))) (ap (sq 4 fun i => ((31+i),(cV [(248+8*i)]))) (ap (sq 4 fun i => ((39+i),(cV [(312+8*i)]))) (ap (sq 4 fun i => ((47+i),(cV [(376+8*i)]))) [(55,(cV [440]))]))))))) [] .non),mT (sq 7 fun i => mO (.eql (.var (13+i)) (.lit 5)) false [sA] (cV [(40+64*i)])) (lT pY (ap [(0,(cV [0])),(1,(cV [8])),(2,(cV [16]))] (ap (sq 5 fun i => ((6+i),(cV [(48+8*i)]))) (ap (sq 5 fun i => ((14+i),(cV [(112+8*i)]))) (ap (sq 5 fun i => ((22+i),(cV [(176+8*i)]))) (ap (sq 5 fun i => ((30+i),(cV [(240+8*i)]))) (ap (sq 5 fun i => ((38+i),(cV [(304+8*i)]))) (ap (sq 5 fun i => ((46+i),(cV [(368+8*i)]))) [(54,(cV [432])),(55,(cV [440]))]))))))) [] .non),mT (sq 7 fun i => mO (.eql (.var (13+i)) (.lit 4)) false [sA] (cV [(32+64*i)])) (lT pY (ap [(0,(cV [0])),(1,(cV [8])),(2,(cV [16]))] (ap (sq 6 fun i => ((5+i),(cV [(40+8*i)]))) (ap (sq 6 fun i => ((13+i),(cV [(104+8*i)]))) (ap (sq 6 fun i => ((21+i),(cV [(168+8*i)]))) (ap (sq 6 fun i => ((29+i),(cV [(232+8*i)]))) (ap (sq 6 fun i => ((37+i),(cV [(296+8*i)]))) (ap (sq 6 fun i => ((45+i),(cV [(360+8*i)]))) [(53,(cV [424])),(54,(cV [432])),(55,(cV [440]))]))))))) [] .non),mT (sq 7 fun i => mO (.eql (.var (13+i)) (.rem (.var 8) (.lit 8))) false [sA,sP,sU [7]] cB) (lT pY (ap [(0,(cV [0])),(1,(cV [8])),(2,(cV [16]))] (ap (sq 7 fun i => ((4+i),(cV [(32+8*i)]))) (ap (sq 7 fun i => ((12+i),(cV [(96+8*i)]))) (ap (sq 7 fun i => ((20+i),(cV [(160+8*i)]))) (ap (sq 7 fun i => ((28+i),(cV [(224+8*i)]))) (ap (sq 7 fun i => ((36+i),(cV [(288+8*i)]))) (ap (sq 7 fun i => ((44+i),(cV [(352+8*i)]))) (sq 4 fun i => ((52+i),(cV [(416+8*i)])))))))))) [] .non)] := by delta K;kernel_rfl
theorem qb76 : Q 6 (rk 26) xb76 zb76 := pK Hb76 Kb76
def db56 : D_ := K_ f103 (K_ f108 (K_ f122 (K_ f127 (K_ f109 l27 l28) l31) l30) l29) (c5_ [[(24,(.add v23 n1))]] [] []) [((.eql (.rem v6 n8) n5),true),(f230,false),(f204,false),(f175,false),(f156,false),(f143,false),(f53,false),(f71,false),(f90,false),(f104,false),(f29,false),(f31,false),(f34,false),(f30,false),(f35,false),(f33,false),(f48,false)]
theorem Hb56 : H xb56 zb56 db56 := by delta H;kernel_rfl
theorem Kb56 : K 4 (rk 28) xb56 db56 [mT (sq 5 fun i => mO (.eql (.var (13+i)) (.lit 2)) false [sA,sP,sU [7]] cB) (lT [sA,sU [7],sP] [] [] .non),mT (sq 5 fun i => mO (.eql (.var (13+i)) (.lit 1)) false [sA] (cV [(8+64*i)])) (lT pY [(2,(cV [16])),(3,(cV [24])),(4,(cV [32])),(10,(cV [80])),(11,(cV [88])),(12,(cV [96])),(18,(cV [144])),(19,(cV [152])),(20,(cV [160])),(26,(cV [208])),(27,(cV [216])),(28,(cV [224])),(34,(cV [272])),(35,(cV [280])),(36,(cV [288]))] [] .non),mT (sq 5 fun i => mO (.eql (.var (13+i)) (.lit 0)) false [sA] (cV [(0+64*i)])) (lT pY (ap (sq 4 fun i => ((1+i),(cV [(8+8*i)]))) (ap (sq 4 fun i => ((9+i),(cV [(72+8*i)]))) (ap (sq 4 fun i => ((17+i),(cV [(136+8*i)]))) (ap (sq 4 fun i => ((25+i),(cV [(200+8*i)]))) (sq 4 fun i => ((33+i),(cV [(264+8*i)]))))))) [] .non),mT (sq 5 fun i => mO (.eql (.var (13+i)) (.lit 7)) false [sA] (cV [(56+64*i)])) (lT pY (ap (sq 5 fun i => ((0+i),(cV [(0+8*i)]))) (ap (sq 5 fun i => ((8+i),(cV [(64+8*i)]))) (ap (sq 5 fun i => ((16+i),(cV [(128+8*i)]))) (ap (sq 5 fun i => ((24+i),(cV [(192+8*i)]))) (sq 5 fun i => ((32+i),(cV [(256+8*i)]))))))) [] .non),mT (sq 5 fun i => mO (.eql (.var (13+i)) (.lit 6)) false [sA] (cV [(48+64*i)])) (lT pY (ap (sq 5 fun i => ((0+i),(cV [(0+8*i)]))) (ap (sq 6 fun i => ((7+i),(cV [(56+8*i)]))) (ap (sq 6 fun i => ((15+i),(cV [(120+8*i)]))) (ap (sq 6 fun i => ((23+i),(cV [(184+8*i)]))) (ap (sq 6 fun i => ((31+i),(cV [(248+8*i)]))) [(39,(cV [312]))]))))) [] .non),mT (sq 5 fun i => mO (.eql (.var (13+i)) (.rem (.var 6) (.lit 8))) false [sA,sP,sU [7]] cB) (lT pY (ap (sq 5 fun i => ((0+i),(cV [(0+8*i)]))) (ap (sq 7 fun i => ((6+i),(cV [(48+8*i)]))) (ap (sq 7 fun i => ((14+i),(cV [(112+8*i)]))) (ap (sq 7 fun i => ((22+i),(cV [(176+8*i)]))) (ap (sq 7 fun i => ((30+i),(cV [(240+8*i)]))) [(38,(cV [304])),(39,(cV [312]))]))))) [] .non)] := by delta K;kernel_rfl
theorem qb56 : Q 4 (rk 28) xb56 zb56 := pK Hb56 Kb56
def db107 : D_ := L_ (.cut 52 q0_ [] w0) [(f107,false),(f22,false),(f21,false),(f23,false),(f27,false),(f25,false),(f24,false),(f26,false),(f0,false),(f2,false),(f19,false),(f13,false),(f14,false),(f15,false),(f3,false),(f20,false),(f16,false),(f17,false),(f12,false),(f18,false),(f10,false),(f9,false),(f11,false),(f7,false),(f6,false),(f8,false),(f4,false),(f5,false),(f1,false)]
theorem Hb107 : H xb107 zb107 db107 := by delta H;kernel_rfl
theorem Kb107 : K 43 (rk 14) xb107 db107 [lE] := by delta K;kernel_rfl
theorem qb107 : Q 43 (rk 14) xb107 zb107 := pK Hb107 Kb107

end
end Go.Proofs.Ytfimgfodoogibaa.queueOrder
