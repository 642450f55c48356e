/- Parts of the plan for the law QueueOrder: each is one kernel run. -/
import Derived.Test.YtfimgfodoogibaaQueueOrderPlan
set_option linter.unusedVariables false
namespace Go.Proofs.Ytfimgfodoogibaa.queueOrder
open Go Go.Ev
noncomputable section

def db189 : D_ := c46_ [[(4,(.wrap .i64 (.add (.wrap .i64 (.add (.wrap .i64 (.add (.wrap .i64 (.add (.wrap .i64 (.add (.wrap .i64 (.add (.wrap .i64 (.add (.wrap .i64 (.add (.wrap .i64 (.add (.wrap .i64 (.add (.wrap .i64 (.add (.wrap .i64 (.add (.wrap .i64 (.add (.wrap .i64 (.add v4 n1)) n1)) n1)) n1)) n1)) n1)) n1)) n1)) n1)) n1)) n1)) n1)) n1)) n1))),(6,v12)],o9] [] w0 [((.eql (.rem v1 n7) n5),false),(f235,false),(f214,false),(f180,false),(f165,false),(f151,false),(f22,false),(f21,false),(f23,false),(f27,false),(f25,false),(f24,false),(f26,false),(f0,false),(f2,false),(f19,false),(f13,false),(f14,false),(f15,false),(f3,false),(f20,false),(f16,false),(f17,false),(f12,false),(f18,false),(f10,false),(f9,false),(f11,false),(f7,false),(f6,false),(f8,false),(f4,false),(f5,false),(f1,false)]
theorem Hb189 : H xb189 zb189 db189 := by delta H;kernel_rfl
theorem Kb189 : K 71 (rk 9) xb189 db189 [lE] := by delta K;kernel_rfl
theorem qb189 : Q 71 (rk 9) xb189 zb189 := pK Hb189 Kb189
def db104 : D_ := c35_ [[(5,(.wrap .i64 (.add (.wrap .i64 (.add (.wrap .i64 (.add (.wrap .i64 (.add (.wrap .i64 (.add (.wrap .i64 (.add (.wrap .i64 (.add (.wrap .i64 (.add (.wrap .i64 (.add (.wrap .i64 (.add (.wrap .i64 (.add (.wrap .i64 (.add (.wrap .i64 (.add (.wrap .i64 (.add v5 n1)) n1)) n1)) n1)) n1)) n1)) n1)) n1)) n1)) n1)) n1)) n1)) n1)) n1))),(21,v13)]] [] w0 a68
theorem Hb104 : H xb104 zb104 db104 := by delta H;kernel_rfl
theorem Kb104 : K 42 (rk 15) xb104 db104 [lE] := by delta K;kernel_rfl
theorem qb104 : Q 42 (rk 15) xb104 zb104 := pK Hb104 Kb104
def db172 : D_ := c45_ [[(4,(.lit 100)),(5,v9),(9,v8)]] [] w0 [(f213,true),(f179,false),(f164,false),(f150,false),(f137,false),(f28,false),(f22,false),(f21,false),(f23,false),(f27,false),(f25,false),(f24,false),(f26,false),(f0,false),(f2,false),(f19,false),(f13,false),(f14,false),(f15,false),(f3,false),(f20,false),(f16,false),(f17,false),(f12,false),(f18,false),(f10,false),(f9,false),(f11,false),(f7,false),(f6,false),(f8,false),(f4,false),(f5,false),(f1,false)]
theorem Hb172 : H xb172 zb172 db172 := by delta H;kernel_rfl
theorem Kb172 : K 70 m70 xb172 db172 [lE] := by delta K;kernel_rfl
theorem qb172 : Q 70 m70 xb172 zb172 := pK Hb172 Kb172
def db125 : D_ := c41_ [[(4,(.wrap .i64 (.add (.wrap .i64 (.add (.wrap .i64 (.add (.wrap .i64 (.add (.wrap .i64 (.add (.wrap .i64 (.add (.wrap .i64 (.add (.wrap .i64 (.add (.wrap .i64 (.add (.wrap .i64 (.add (.wrap .i64 (.add v1 n1)) n1)) n1)) n1)) n1)) n1)) n1)) n1)) n1)) n1)) n1))),(9,v13)],o3] [] w0 [(f209,false),(f160,false),(f134,false),(f28,false),(f0,false),(f2,false),(f19,false),(f13,false),(f14,false),(f15,false),(f58,false),(f3,false),(f20,false),(f16,false),(f17,false),(f12,false),(f57,false),(f18,false),(f10,false),(f9,false),(f11,false),(f55,false),(f7,false),(f6,false),(f8,false),(f54,false),(f4,false),(f5,false),(f42,false),(f1,false),(f40,false),(f32,false)]
theorem Hb125 : H xb125 zb125 db125 := by delta H;kernel_rfl
theorem Kb125 : K 65 m65 xb125 db125 [lE] := by delta K;kernel_rfl
theorem qb125 : Q 65 m65 xb125 zb125 := pK Hb125 Kb125
def db86 : D_ := c22_ [[(5,(.wrap .i64 (.add (.wrap .i64 (.add (.wrap .i64 (.add (.wrap .i64 (.add (.wrap .i64 (.add (.wrap .i64 (.add (.wrap .i64 (.add (.wrap .i64 (.add (.wrap .i64 (.add (.wrap .i64 (.add (.wrap .i64 (.add v5 n1)) n1)) n1)) n1)) n1)) n1)) n1)) n1)) n1)) n1)) n1))),(19,v11)]] [] w0 [(f102,true),(f29,false),(f31,false),(f34,false),(f45,false),(f146,false),(f118,false),(f92,false),(f30,false),(f35,false),(f46,false),(f147,false),(f117,false),(f93,false),(f33,false),(f43,false),(f152,false),(f121,false),(f96,false),(f44,false),(f170,false),(f126,false),(f100,false),(f225,false),(f139,false),(f105,false),(f1,false),(f40,false),(f32,false)]
theorem Hb86 : H xb86 zb86 db86 := by delta H;kernel_rfl
theorem Kb86 : K 27 (rk 19) xb86 db86 [lE] := by delta K;kernel_rfl
theorem qb86 : Q 27 (rk 19) xb86 zb86 := pK Hb86 Kb86
def db196 : D_ := c47_ [[(4,(.wrap .i64 (.add (.wrap .i64 (.add (.wrap .i64 (.add (.wrap .i64 (.add (.wrap .i64 (.add (.wrap .i64 (.add (.wrap .i64 (.add (.wrap .i64 (.add (.wrap .i64 (.add (.wrap .i64 (.add v4 n1)) n1)) n1)) n1)) n1)) n1)) n1)) n1)) n1)) n1))),(7,v10),(10,v9)]] [] w0 [(f162,true),(f136,false),(f125,false),(f116,false),(f22,false),(f21,false),(f23,false),(f27,false),(f25,false),(f24,false),(f26,false),(f0,false),(f2,false),(f19,false),(f13,false),(f14,false),(f15,false),(f3,false),(f20,false),(f16,false),(f17,false),(f12,false),(f18,false),(f10,false),(f9,false),(f11,false),(f7,false),(f6,false),(f8,false),(f4,false),(f5,false),(f1,false)]
theorem Hb196 : H xb196 zb196 db196 := by delta H;kernel_rfl
theorem Kb196 : K 72 (rk 8) xb196 db196 [lE] := by delta K;kernel_rfl
theorem qb196 : Q 72 (rk 8) xb196 zb196 := pK Hb196 Kb196
def db263 : D_ := c58_ [[(4,(.wrap .i64 (.add (.wrap .i64 (.add (.wrap .i64 (.add (.wrap .i64 (.add (.wrap .i64 (.add (.wrap .i64 (.add (.wrap .i64 (.add (.wrap .i64 (.add (.wrap .i64 (.add v4 n1)) n1)) n1)) n1)) n1)) n1)) n1)) n1)) n1))),(11,v12),(12,v11)]] [] w0 [(f207,false),(f22,false),(f21,false),(f23,false),(f27,false),(f25,false),(f24,false),(f26,false),(f0,false),(f2,false),(f19,false),(f13,false),(f14,false),(f15,false),(f3,false),(f20,false),(f16,false),(f17,false),(f12,false),(f18,false),(f10,false),(f9,false),(f11,false),(f7,false),(f6,false),(f8,false),(f4,false),(f5,false),(f1,false)]
theorem Hb263 : H xb263 zb263 db263 := by delta H;kernel_rfl
theorem Kb263 : K 86 (rk 12) xb263 db263 [lE] := by delta K;kernel_rfl
theorem qb263 : Q 86 (rk 12) xb263 zb263 := pK Hb263 Kb263
def d31 : D_ := K_ f91 (c25_ [[(5,(.wrap .i64 (.add (.wrap .i64 (.add (.wrap .i64 (.add (.wrap .i64 (.add (.wrap .i64 (.add (.wrap .i64 (.add (.wrap .i64 (.add (.wrap .i64 (.add (.wrap .i64 (.add v5 n1)) n1)) n1)) n1)) n1)) n1)) n1)) n1)) n1))),(20,v12)]] [] w0) (c26_ [[(16,v12),(17,v16),(18,v17),(19,v18),(20,v19)]] [] w0) a62
theorem H31 : H g30 (t31.cfg) d31 := by delta H;kernel_rfl
theorem K31 : K 31 (rk 18) g30 d31 [lE,lE] := by delta K;kernel_rfl
theorem q31 : Q 31 (rk 18) g30 t31.cfg := pK H31 K31
def db228 : D_ := c51_ [[(4,(.wrap .i64 (.add (.wrap .i64 (.add (.wrap .i64 (.add (.wrap .i64 (.add (.wrap .i64 (.add (.wrap .i64 (.add (.wrap .i64 (.add (.wrap .i64 (.add v4 n1)) n1)) n1)) n1)) n1)) n1)) n1)) n1))),(8,v9),(10,v10)]] [] w0 [(f135,true),(f124,false),(f22,false),(f21,false),(f23,false),(f27,false),(f25,false),(f24,false),(f26,false),(f0,false),(f2,false),(f19,false),(f13,false),(f14,false),(f15,false),(f3,false),(f20,false),(f16,false),(f17,false),(f12,false),(f18,false),(f10,false),(f9,false),(f11,false),(f7,false),(f6,false),(f8,false),(f4,false),(f5,false),(f1,false)]
theorem Hb228 : H xb228 zb228 db228 := by delta H;kernel_rfl
theorem Kb228 : K 76 (rk 9) xb228 db228 [lE] := by delta K;kernel_rfl
theorem qb228 : Q 76 (rk 9) xb228 zb228 := pK Hb228 Kb228
def db110 : D_ := L_ (.cut 83 i59_83 [] w0) [(f207,true),(f28,false),(f0,false),(f2,false),(f19,false),(f13,false),(f14,false),(f15,false),(f58,false),(f3,false),(f20,false),(f16,false),(f17,false),(f12,false),(f57,false),(f18,false),(f10,false),(f9,false),(f11,false),(f55,false),(f7,false),(f6,false),(f8,false),(f54,false),(f4,false),(f5,false),(f42,false),(f1,false),(f40,false),(f32,false)]
theorem Hb110 : H xb110 zb110 db110 := by delta H;kernel_rfl
theorem Kb110 : K 59 m59 xb110 db110 [lE] := by delta K;kernel_rfl
theorem qb110 : Q 59 m59 xb110 zb110 := pK Hb110 Kb110
def db258 : D_ := c57_ [[(11,v11)]] [] w0 [(f159,true),(f22,false),(f21,false),(f23,false),(f27,false),(f25,false),(f24,false),(f26,false),(f0,false),(f2,false),(f19,false),(f13,false),(f14,false),(f15,false),(f3,false),(f20,false),(f16,false),(f17,false),(f12,false),(f18,false),(f10,false),(f9,false),(f11,false),(f7,false),(f6,false),(f8,false),(f4,false),(f5,false),(f1,false)]
theorem Hb258 : H xb258 zb258 db258 := by delta H;kernel_rfl
theorem Kb258 : K 84 (rk 11) xb258 db258 [lE] := by delta K;kernel_rfl
theorem qb258 : Q 84 (rk 11) xb258 zb258 := pK Hb258 Kb258
def d126 : D_ := L_ (.cut 132 q8_ [] w0) a172
theorem H126 : H g97 (t126.cfg) d126 := by delta H;kernel_rfl
theorem K126 : K 126 (rk 3) g97 d126 [lE] := by delta K;kernel_rfl
theorem q126 : Q 126 (rk 3) g97 t126.cfg := pK H126 K126
def d107 : D_ := L_ (.cut 113 q7_ [] w0) a173
theorem H107 : H g107 (t107.cfg) d107 := by delta H;kernel_rfl
theorem K107 : K 107 (rk 9) g107 d107 [lE] := by delta K;kernel_rfl
theorem q107 : Q 107 (rk 9) g107 t107.cfg := pK H107 K107
def d137 : D_ := L_ (.cut 138 q7_ [] w0) a173
theorem H137 : H g107 (t137.cfg) d137 := by delta H;kernel_rfl
theorem K137 : K 137 (rk 4) g107 d137 [lE] := by delta K;kernel_rfl
theorem q137 : Q 137 (rk 4) g107 t137.cfg := pK H137 K137
def d129 : D_ := K_ f28 (K_ f84 l67 (K_ f85 l67 (K_ f128 l67 (K_ f106 l67 (K_ f95 l67 (K_ f129 l67 (K_ f130 l67 (K_ f94 l67 (K_ f36 l67 (K_ f39 l67 (K_ f37 l67 (K_ f38 l67 l67)))))))))))) l68 a174
theorem H129 : H g129 (t129.cfg) d129 := by delta H;kernel_rfl
theorem K129 : K 129 m129 g129 d129 [lE,lE,lE,lE,lE,lE,lE,lE,lE,lE,lE,lE,lE,lE] := by delta K;kernel_rfl
theorem q129 : Q 129 m129 g129 t129.cfg := pK H129 K129
def d131 : D_ := K_ f28 (K_ f84 l70 (K_ f85 l70 (K_ f36 l70 (K_ f39 l70 (K_ f94 l70 (K_ f95 l70 (K_ f37 l70 (K_ f38 l70 (K_ f106 l70 (K_ f128 l70 (K_ f129 l70 (K_ f130 l70 l70)))))))))))) l68 a174
theorem H131 : H g129 (t131.cfg) d131 := by delta H;kernel_rfl
theorem K131 : K 131 m131 g129 d131 [lE,lE,lE,lE,lE,lE,lE,lE,lE,lE,lE,lE,lE,lE] := by delta K;kernel_rfl
theorem q131 : Q 131 m131 g129 t131.cfg := pK H131 K131
def db74 : D_ := K_ f101 (K_ f103 (K_ f108 (K_ f122 (K_ f138 (K_ f199 (K_ f98 l46 l47) l40) l41) l42) l43) l44) (c7_ [[(23,(.add v22 n1))]] [] []) [(f158,true),(f145,false),(f133,false),(f53,false),(f71,false),(f90,false),(f104,false),(f123,false),(f168,false),(f29,false),(f31,false),(f34,false),(f45,false),(f74,false),(f30,false),(f35,false),(f46,false),(f75,false),(f33,false),(f43,false),(f73,false),(f44,false),(f72,false),(f76,false),(f41,false)]
theorem Hb74 : H xb74 zb74 db74 := by delta H;kernel_rfl
theorem Kb74 : K 6 (rk 26) xb74 db74 [mT (sq 7 fun i => mO (.eql (.var (13+i)) (.lit 1)) false [sA,sP,sU [7]] cB) (lT (pW [] 2) [] [] .non),mT (sq 7 fun i => mO (.eql (.var (13+i)) (.lit 0)) false [sA] (cV [(0+64*i)])) (lT pY (sq 7 fun i => ((1+8*i),(cV [(8+64*i)]))) [] .non),mT (sq 7 fun i => mO (.eql (.var (13+i)) (.lit 7)) false [sA] (cV [(56+64*i)])) (lT pY [(0,(cV [0])),(1,(cV [8])),(8,(cV [64])),(9,(cV [72])),(16,(cV [128])),(17,(cV [136])),(24,(cV [192])),(25,(cV [200])),(32,(cV [256])),(33,(cV [264])),(40,(cV [320])),(41,(cV [328])),(48,(cV [384])),(49,(cV [392]))] [] .non),mT (sq 7 fun i => mO (.eql (.var (13+i)) (.lit 6)) false [sA] (cV [(48+64*i)])) (lT pY [(0,(cV [0])),(1,(cV [8])),(7,(cV [56])),(8,(cV [64])),(9,(cV [72])),(15,(cV [120])),(16,(cV [128])),(17,(cV [136])),(23,(cV [184])),(24,(cV [192])),(25,(cV [200])),(31,(cV [248])),(32,(cV [256])),(33,(cV [264])),(39,(cV [312])),(40,(cV [320])),(41,(cV [328])),(47,(cV [376])),(48,(cV [384])),(49,(cV [392])),(55,(cV [440]))] [] .non),mT (sq 7 fun i => mO (.eql (.var (13+i)) (.lit 5)) false [sA] (cV [(40+64*i)])) (lT pY (ap [(0,(cV [0])),(1,(cV [8]))] (ap (sq 4 fun i => ((6+i),(cV [(48+8*i)]))) (ap (sq 4 fun i => ((14+i),(cV [(112+8*i)]))) (ap (sq 4 fun i => ((22+i),(cV [(176+8*i)]))) (ap (sq 4 fun i => ((30+i),(cV [(240+8*i)]))) (ap (sq 4 fun i => ((38+i),(cV [(304+8*i)]))) (ap (sq 4 fun i => ((46+i),(cV [(368+8*i)]))) [(54,(cV [432])),(55,(cV [440]))]))))))) [] .non),mT (sq 7 fun i => mO (.eql (.var (13+i)) (.lit 4)) false [sA] (cV [(32+64*i)])) (lT pY (ap [(0,(cV [0])),(1,(cV [8]))] (ap (sq 5 fun i => ((5+i),(cV [(40+8*i)]))) (ap (sq 5 fun i => ((13+i),(cV [(104+8*i)]))) (ap (sq 5 fun i => ((21+i),(cV [(168+8*i)]))) (ap (sq 5 fun i => ((29+i),(cV [(232+8*i)]))) (ap (sq 5 fun i => ((37+i),(cV [(296+8*i)]))) (ap (sq 5 fun i => ((45+i),(cV [(360+8*i)]))) [(53,(cV [424])),(54,(cV [432])),(55,(cV [440]))]))))))) [] .non),mT (sq 7 fun i => mO (.eql (.var (13+i)) (.lit 3)) false [sA] (cV [(24+64*i)])) (lT pY (ap [(0,(cV [0])),(1,(cV [8]))] (ap (sq 6 fun i => ((4+i),(cV [(32+8*i)]))) (ap (sq 6 fun i => ((12+i),(cV [(96+8*i)]))) (ap (sq 6 fun i => ((20+i),(cV [(160+8*i)]))) (ap (sq 6 fun i => ((28+i),(cV [(224+8*i)]))) (ap (sq 6 fun i => ((36+i),(cV [(288+8*i)]))) (ap (sq 6 fun i => ((44+i),(cV [(352+8*i)]))) (sq 4 fun i => ((52+i),(cV [(416+8*i)])))))))))) [] .non),mT (sq 7 fun i => mO (.eql (.var (13+i)) (.rem (.var 8) (.lit 8))) false [sA,sP,sU [7]] cB) (lT pY (ap [(0,(cV [0])),(1,(cV [8]))] (ap (sq 7 fun i => ((3+i),(cV [(24+8*i)]))) (ap (sq 7 fun i => ((11+i),(cV [(88+8*i)]))) (ap (sq 7 fun i => ((19+i),(cV [(152+8*i)]))) (ap (sq 7 fun i => ((27+i),(cV [(216+8*i)]))) (ap (sq 7 fun i => ((35+i),(cV [(280+8*i)]))) (ap (sq 7 fun i => ((43+i),(cV [(344+8*i)]))) (sq 5 fun i => ((51+i),(cV [(408+8*i)])))))))))) [] .non)] := by delta K;kernel_rfl
theorem qb74 : Q 6 (rk 26) xb74 zb74 := pK Hb74 Kb74
def db52 : D_ := K_ f99 (K_ f101 (K_ f103 (K_ f108 (K_ f122 l31 l30) l29) l24) l25) (c5_ [[(22,(.add v21 n1))]] [] []) [(f204,true),(f175,false),(f156,false),(f143,false),(f53,false),(f71,false),(f90,false),(f104,false),(f29,false),(f31,false),(f34,false),(f30,false),(f35,false),(f33,false),(f48,false)]
theorem Hb52 : H xb52 zb52 db52 := by delta H;kernel_rfl
theorem Kb52 : K 4 (rk 28) xb52 db52 [mT (sq 5 fun i => mO (.eql (.var (13+i)) (.lit 0)) false [sA,sP,sU [7]] cB) (lT [sA,sU [7],sP] [] [] .non),mT (sq 5 fun i => mO (.eql (.var (13+i)) (.lit 7)) false [sA] (cV [(56+64*i)])) (lT pY [(0,(cV [0])),(1,(cV [8])),(2,(cV [16])),(8,(cV [64])),(9,(cV [72])),(10,(cV [80])),(16,(cV [128])),(17,(cV [136])),(18,(cV [144])),(24,(cV [192])),(25,(cV [200])),(26,(cV [208])),(32,(cV [256])),(33,(cV [264])),(34,(cV [272]))] [] .non),mT (sq 5 fun i => mO (.eql (.var (13+i)) (.lit 6)) false [sA] (cV [(48+64*i)])) (lT pY (ap [(0,(cV [0])),(1,(cV [8])),(2,(cV [16]))] (ap (sq 4 fun i => ((7+i),(cV [(56+8*i)]))) (ap (sq 4 fun i => ((15+i),(cV [(120+8*i)]))) (ap (sq 4 fun i => ((23+i),(cV [(184+8*i)]))) (ap (sq 4 fun i => ((31+i),(cV [(248+8*i)]))) [(39,(cV [312]))]))))) [] .non),mT (sq 5 fun i => mO (.eql (.var (13+i)) (.lit 5)) false [sA] (cV [(40+64*i)])) (lT pY (ap [(0,(cV [0])),(1,(cV [8])),(2,(cV [16]))] (ap (sq 5 fun i => ((6+i),(cV [(48+8*i)]))) (ap (sq 5 fun i => ((14+i),(cV [(112+8*i)]))) (ap (sq 5 fun i => ((22+i),(cV [(176+8*i)]))) (ap (sq 5 fun i => ((30+i),(cV [(240+8*i)]))) [(38,(cV [304])),(39,(cV [312]))]))))) [] .non),mT (sq 5 fun i => mO (.eql (.var (13+i)) (.lit 4)) false [sA] (cV [(32+64*i)])) (lT pY (ap [(0,(cV [0])),(1,(cV [8])),(2,(cV [16]))] (ap (sq 6 fun i => ((5+i),(cV [(40+8*i)]))) (ap (sq 6 fun i => ((13+i),(cV [(104+8*i)]))) (ap (sq 6 fun i => ((21+i),(cV [(168+8*i)]))) (ap (sq 6 fun i => ((29+i),(cV [(232+8*i)]))) [(37,(cV [296])),(38,(cV [304])),(39,(cV [312]))]))))) [] .non),mT (sq 5 fun i => mO (.eql (.var (13+i)) (.rem (.var 6) (.lit 8))) false [sA,sP,sU [7]] cB) (lT pY (ap [(0,(cV [0])),(1,(cV [8])),(2,(cV [16]))] (ap (sq 7 fun i => ((4+i),(cV [(32+8*i)]))) (ap (sq 7 fun i => ((12+i),(cV [(96+8*i)]))) (ap (sq 7 fun i => ((20+i),(cV [(160+8*i)]))) (ap (sq 7 fun i => ((28+i),(cV [(224+8*i)]))) (sq 4 fun i => ((36+i),(cV [(288+8*i)])))))))) [] .non)] := by delta K;kernel_rfl
theorem qb52 : Q 4 (rk 28) xb52 zb52 := pK Hb52 Kb52
def db30 : D_ := K_ f109 (K_ f98 (K_ f99 l13 l12) l11) (c3_ [[(20,(.add v19 n1))]] [] []) [(f228,true),(f202,false),(f173,false),(f154,false),(f53,false),(f71,false),(f29,false),(f56,false)]
theorem Hb30 : H xb30 zb30 db30 := by delta H;kernel_rfl
theorem Kb30 : K 2 (rk 30) xb30 db30 [mT [mO (.eql (.var 13) (.lit 6)) false [sA,sP,sU [7]] cB,mO (.eql (.var 14) (.lit 6)) false [sA,sP,sU [7]] cB,mO (.eql (.var 15) (.lit 6)) false [sA,sP,sU [7]] cB] (lT [sA,sU [7],sP] [] [] .non),mT (sq 3 fun i => mO (.eql (.var (13+i)) (.lit 5)) false [sA] (cV [(40+64*i)])) (lT pY (ap [(0,(cV [0])),(1,(cV [8])),(2,(cV [16]))] (ap (sq 5 fun i => ((6+i),(cV [(48+8*i)]))) (ap (sq 5 fun i => ((14+i),(cV [(112+8*i)]))) [(22,(cV [176])),(23,(cV [184]))]))) [] .non),mT (sq 3 fun i => mO (.eql (.var (13+i)) (.lit 4)) false [sA] (cV [(32+64*i)])) (lT pY (ap [(0,(cV [0])),(1,(cV [8])),(2,(cV [16]))] (ap (sq 6 fun i => ((5+i),(cV [(40+8*i)]))) (ap (sq 6 fun i => ((13+i),(cV [(104+8*i)]))) [(21,(cV [168])),(22,(cV [176])),(23,(cV [184]))]))) [] .non),mT (sq 3 fun i => mO (.eql (.var (13+i)) (.rem (.var 4) (.lit 8))) false [sA,sP,sU [7]] cB) (lT pY (ap [(0,(cV [0])),(1,(cV [8])),(2,(cV [16]))] (ap (sq 7 fun i => ((4+i),(cV [(32+8*i)]))) (ap (sq 7 fun i => ((12+i),(cV [(96+8*i)]))) (sq 4 fun i => ((20+i),(cV [(160+8*i)])))))) [] .non)] := by delta K;kernel_rfl
theorem qb30 : Q 2 (rk 30) xb30 zb30 := pK Hb30 Kb30
def db95 : D_ := L_ (.cut 43 q0_ [] w0) [(f91,false),(f22,false),(f21,false),(f23,false),(f27,false),(f25,false),(f24,false),(f26,false),(f0,false),(f2,false),(f19,false),(f13,false),(f14,false),(f15,false),(f3,false),(f20,false),(f16,false),(f17,false),(f12,false),(f18,false),(f10,false),(f9,false),(f11,false),(f7,false),(f6,false),(f8,false),(f4,false),(f5,false),(f1,false)]
theorem Hb95 : H xb95 zb95 db95 := by delta H;kernel_rfl
theorem Kb95 : K 35 (rk 16) xb95 db95 [lE] := by delta K;kernel_rfl
theorem qb95 : Q 35 (rk 16) xb95 zb95 := pK Hb95 Kb95

end
end Go.Proofs.Ytfimgfodoogibaa.queueOrder
