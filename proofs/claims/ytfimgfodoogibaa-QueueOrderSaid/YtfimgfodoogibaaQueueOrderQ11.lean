/- Parts of the plan for the law QueueOrder: each is one kernel run. -/
import Derived.Test.YtfimgfodoogibaaQueueOrderPlan
set_option linter.unusedVariables false
namespace Go.Proofs.Ytfimgfodoogibaa.queueOrder
open Go Go.Ev
noncomputable section

def db161 : D_ := c44_ [[(4,(.wrap .i64 (.add (.wrap .i64 (.add (.wrap .i64 (.add (.wrap .i64 (.add (.wrap .i64 (.add (.wrap .i64 (.add (.wrap .i64 (.add (.wrap .i64 (.add (.wrap .i64 (.add (.wrap .i64 (.add (.wrap .i64 (.add (.wrap .i64 (.add (.wrap .i64 (.add (.wrap .i64 (.add v1 n1)) n1)) n1)) n1)) n1)) n1)) n1)) n1)) n1)) n1)) n1)) n1)) n1)) n1))),(6,v13)],o6] [] w0 [((.eql (.rem v2 n7) n5),false),(f233,false),(f212,false),(f178,false),(f163,false),(f149,false),(f28,false),(f0,false),(f2,false),(f19,false),(f13,false),(f14,false),(f15,false),(f58,false),(f3,false),(f20,false),(f16,false),(f17,false),(f12,false),(f57,false),(f18,false),(f10,false),(f9,false),(f11,false),(f55,false),(f7,false),(f6,false),(f8,false),(f54,false),(f4,false),(f5,false),(f42,false),(f1,false),(f40,false),(f32,false)]
theorem Hb161 : H xb161 zb161 db161 := by delta H;kernel_rfl
theorem Kb161 : K 69 m69 xb161 db161 [lE] := by delta K;kernel_rfl
theorem qb161 : Q 69 m69 xb161 zb161 := pK Hb161 Kb161
def db199 : D_ := c47_ [[(4,(.wrap .i64 (.add (.wrap .i64 (.add (.wrap .i64 (.add (.wrap .i64 (.add (.wrap .i64 (.add (.wrap .i64 (.add (.wrap .i64 (.add (.wrap .i64 (.add (.wrap .i64 (.add (.wrap .i64 (.add (.wrap .i64 (.add (.wrap .i64 (.add (.wrap .i64 (.add v4 n1)) n1)) n1)) n1)) n1)) n1)) n1)) n1)) n1)) n1)) n1)) n1)) n1))),(7,v12)],o9] [] w0 [(f211,false),(f162,false),(f136,false),(f125,false),(f116,false),(f22,false),(f21,false),(f23,false),(f27,false),(f25,false),(f24,false),(f26,false),(f0,false),(f2,false),(f19,false),(f13,false),(f14,false),(f15,false),(f3,false),(f20,false),(f16,false),(f17,false),(f12,false),(f18,false),(f10,false),(f9,false),(f11,false),(f7,false),(f6,false),(f8,false),(f4,false),(f5,false),(f1,false)]
theorem Hb199 : H xb199 zb199 db199 := by delta H;kernel_rfl
theorem Kb199 : K 72 (rk 8) xb199 db199 [lE] := by delta K;kernel_rfl
theorem qb199 : Q 72 (rk 8) xb199 zb199 := pK Hb199 Kb199
def db146 : D_ := c43_ [[(4,(.wrap .i64 (.add (.wrap .i64 (.add (.wrap .i64 (.add (.wrap .i64 (.add (.wrap .i64 (.add (.wrap .i64 (.add (.wrap .i64 (.add (.wrap .i64 (.add (.wrap .i64 (.add (.wrap .i64 (.add (.wrap .i64 (.add v1 n1)) n1)) n1)) n1)) n1)) n1)) n1)) n1)) n1)) n1)) n1))),(7,v12)],o5] [] w0 [(f211,true),(f162,false),(f136,false),(f125,false),(f116,false),(f28,false),(f0,false),(f2,false),(f19,false),(f13,false),(f14,false),(f15,false),(f58,false),(f3,false),(f20,false),(f16,false),(f17,false),(f12,false),(f57,false),(f18,false),(f10,false),(f9,false),(f11,false),(f55,false),(f7,false),(f6,false),(f8,false),(f54,false),(f4,false),(f5,false),(f42,false),(f1,false),(f40,false),(f32,false)]
theorem Hb146 : H xb146 zb146 db146 := by delta H;kernel_rfl
theorem Kb146 : K 68 m68 xb146 db146 [lE] := by delta K;kernel_rfl
theorem qb146 : Q 68 m68 xb146 zb146 := pK Hb146 Kb146
def db92 : D_ := c28_ [[(5,(.wrap .i64 (.add (.wrap .i64 (.add (.wrap .i64 (.add (.wrap .i64 (.add (.wrap .i64 (.add (.wrap .i64 (.add (.wrap .i64 (.add (.wrap .i64 (.add (.wrap .i64 (.add (.wrap .i64 (.add (.wrap .i64 (.add (.wrap .i64 (.add v5 n1)) n1)) n1)) n1)) n1)) n1)) n1)) n1)) n1)) n1)) n1)) n1))),(20,v12)]] [] w0 a63
theorem Hb92 : H xb92 zb92 db92 := by delta H;kernel_rfl
theorem Kb92 : K 34 (rk 17) xb92 db92 [lE] := by delta K;kernel_rfl
theorem qb92 : Q 34 (rk 17) xb92 zb92 := pK Hb92 Kb92
def db186 : D_ := c46_ [[(4,(.wrap .i64 (.add (.wrap .i64 (.add (.wrap .i64 (.add (.wrap .i64 (.add (.wrap .i64 (.add (.wrap .i64 (.add (.wrap .i64 (.add (.wrap .i64 (.add (.wrap .i64 (.add (.wrap .i64 (.add (.wrap .i64 (.add v4 n1)) n1)) n1)) n1)) n1)) n1)) n1)) n1)) n1)) n1)) n1))),(6,v10),(10,v9)]] [] w0 [(f235,true),(f214,false),(f180,false),(f165,false),(f151,false),(f22,false),(f21,false),(f23,false),(f27,false),(f25,false),(f24,false),(f26,false),(f0,false),(f2,false),(f19,false),(f13,false),(f14,false),(f15,false),(f3,false),(f20,false),(f16,false),(f17,false),(f12,false),(f18,false),(f10,false),(f9,false),(f11,false),(f7,false),(f6,false),(f8,false),(f4,false),(f5,false),(f1,false)]
theorem Hb186 : H xb186 zb186 db186 := by delta H;kernel_rfl
theorem Kb186 : K 71 (rk 9) xb186 db186 [lE] := by delta K;kernel_rfl
theorem qb186 : Q 71 (rk 9) xb186 zb186 := pK Hb186 Kb186
def db206 : D_ := c48_ [[(4,(.wrap .i64 (.add (.wrap .i64 (.add (.wrap .i64 (.add (.wrap .i64 (.add (.wrap .i64 (.add (.wrap .i64 (.add (.wrap .i64 (.add (.wrap .i64 (.add (.wrap .i64 (.add (.wrap .i64 (.add v4 n1)) n1)) n1)) n1)) n1)) n1)) n1)) n1)) n1)) n1))),(7,v10),(10,v9)]] [] w0 [(f236,true),(f215,false),(f181,false),(f166,false),(f22,false),(f21,false),(f23,false),(f27,false),(f25,false),(f24,false),(f26,false),(f0,false),(f2,false),(f19,false),(f13,false),(f14,false),(f15,false),(f3,false),(f20,false),(f16,false),(f17,false),(f12,false),(f18,false),(f10,false),(f9,false),(f11,false),(f7,false),(f6,false),(f8,false),(f4,false),(f5,false),(f1,false)]
theorem Hb206 : H xb206 zb206 db206 := by delta H;kernel_rfl
theorem Kb206 : K 73 (rk 10) xb206 db206 [lE] := by delta K;kernel_rfl
theorem qb206 : Q 73 (rk 10) xb206 zb206 := pK Hb206 Kb206
def db269 : D_ := c60_ [[(4,(.wrap .i64 (.add (.wrap .i64 (.add (.wrap .i64 (.add (.wrap .i64 (.add (.wrap .i64 (.add (.wrap .i64 (.add (.wrap .i64 (.add (.wrap .i64 (.add (.wrap .i64 (.add v4 n1)) n1)) n1)) n1)) n1)) n1)) n1)) n1)) n1))),(11,v12),(12,v11)]] [] w0 [((.eql (.rem v3 n2) n0),false),(f22,false),(f21,false),(f23,false),(f27,false),(f25,false),(f24,false),(f26,false),(f0,false),(f2,false),(f19,false),(f13,false),(f14,false),(f15,false),(f3,false),(f20,false),(f16,false),(f17,false),(f12,false),(f18,false),(f10,false),(f9,false),(f11,false),(f7,false),(f6,false),(f8,false),(f4,false),(f5,false),(f1,false)]
theorem Hb269 : H xb269 zb269 db269 := by delta H;kernel_rfl
theorem Kb269 : K 91 (rk 10) xb269 db269 [lE] := by delta K;kernel_rfl
theorem qb269 : Q 91 (rk 10) xb269 zb269 := pK Hb269 Kb269
def db122 : D_ := c41_ [[(4,(.wrap .i64 (.add (.wrap .i64 (.add (.wrap .i64 (.add (.wrap .i64 (.add (.wrap .i64 (.add (.wrap .i64 (.add (.wrap .i64 (.add (.wrap .i64 (.add v1 n1)) n1)) n1)) n1)) n1)) n1)) n1)) n1))),(9,v11)]] [] w0 [(f160,true),(f134,false),(f28,false),(f0,false),(f2,false),(f19,false),(f13,false),(f14,false),(f15,false),(f58,false),(f3,false),(f20,false),(f16,false),(f17,false),(f12,false),(f57,false),(f18,false),(f10,false),(f9,false),(f11,false),(f55,false),(f7,false),(f6,false),(f8,false),(f54,false),(f4,false),(f5,false),(f42,false),(f1,false),(f40,false),(f32,false)]
theorem Hb122 : H xb122 zb122 db122 := by delta H;kernel_rfl
theorem Kb122 : K 65 m65 xb122 db122 [lE] := by delta K;kernel_rfl
theorem qb122 : Q 65 m65 xb122 zb122 := pK Hb122 Kb122
def db202 : D_ := c48_ [[(4,(.wrap .i64 (.add (.wrap .i64 (.add (.wrap .i64 (.add (.wrap .i64 (.add (.wrap .i64 (.add (.wrap .i64 (.add (.wrap .i64 (.add (.wrap .i64 (.add v4 n1)) n1)) n1)) n1)) n1)) n1)) n1)) n1))),(7,v8),(9,v9)]] [] w0 [(f181,true),(f166,false),(f22,false),(f21,false),(f23,false),(f27,false),(f25,false),(f24,false),(f26,false),(f0,false),(f2,false),(f19,false),(f13,false),(f14,false),(f15,false),(f3,false),(f20,false),(f16,false),(f17,false),(f12,false),(f18,false),(f10,false),(f9,false),(f11,false),(f7,false),(f6,false),(f8,false),(f4,false),(f5,false),(f1,false)]
theorem Hb202 : H xb202 zb202 db202 := by delta H;kernel_rfl
theorem Kb202 : K 73 (rk 10) xb202 db202 [lE] := by delta K;kernel_rfl
theorem qb202 : Q 73 (rk 10) xb202 zb202 := pK Hb202 Kb202
def d10 : D_ := K_ f222 (c9_ [[(5,(.lit 40))],o0,[(14,v5),(15,v6)]] [] w0) (L_ (.cut 13 q0_ [] w0)) a51
theorem H10 : H g8 (t10.cfg) d10 := by delta H;kernel_rfl
theorem K10 : K 10 (rk 23) g8 d10 [lE,lE] := by delta K;kernel_rfl
theorem q10 : Q 10 (rk 23) g8 t10.cfg := pK H10 K10
def d9 : D_ := K_ f222 (L_ (.cut 11 q0_ [] w0)) (c9_ [[(5,(.lit 39))],o0,[(14,v6),(15,v5)]] [] w0) a51
theorem H9 : H g8 (t9.cfg) d9 := by delta H;kernel_rfl
theorem K9 : K 9 (rk 23) g8 d9 [lE,lE] := by delta K;kernel_rfl
theorem q9 : Q 9 (rk 23) g8 t9.cfg := pK H9 K9
def d90 : D_ := l66 a51
theorem H90 : H g71 (t90.cfg) d90 := by delta H;kernel_rfl
theorem K90 : K 90 (rk 10) g71 d90 [lE] := by delta K;kernel_rfl
theorem q90 : Q 90 (rk 10) g71 t90.cfg := pK H90 K90
def d103 : D_ := L_ (.cut 109 q6_ [] w0) a172
theorem H103 : H g97 (t103.cfg) d103 := by delta H;kernel_rfl
theorem K103 : K 103 (rk 6) g97 d103 [lE] := by delta K;kernel_rfl
theorem q103 : Q 103 (rk 6) g97 t103.cfg := pK H103 K103
def d119 : D_ := L_ (.cut 125 q7_ [] w0) a173
theorem H119 : H g107 (t119.cfg) d119 := by delta H;kernel_rfl
theorem K119 : K 119 (rk 7) g107 d119 [lE] := by delta K;kernel_rfl
theorem q119 : Q 119 (rk 7) g107 t119.cfg := pK H119 K119
def d60 : D_ := K_ f28 (K_ f94 l55 (K_ f51 l55 (K_ f83 l55 (K_ f84 l55 (K_ f39 l55 (K_ f50 l55 (K_ f52 l55 (K_ f95 l55 (K_ f36 l55 (K_ f37 l55 (K_ f38 l55 (K_ f85 l55 l55)))))))))))) (L_ (.cut 65 q3_ [] w0)) a73
theorem H60 : H g55 (t60.cfg) d60 := by delta H;kernel_rfl
theorem K60 : K 60 m60 g55 d60 [lE,lE,lE,lE,lE,lE,lE,lE,lE,lE,lE,lE,lE,lE] := by delta K;kernel_rfl
theorem q60 : Q 60 m60 g55 t60.cfg := pK H60 K60
def d49 : D_ := L_ (.cut 58 q2_ [] w0) a72
theorem H49 : H g45 (t49.cfg) d49 := by delta H;kernel_rfl
theorem K49 : K 49 (rk 15) g45 d49 [lE] := by delta K;kernel_rfl
theorem q49 : Q 49 (rk 15) g45 t49.cfg := pK H49 K49
def db126 : D_ := K_ f94 l62 (K_ f51 l62 (K_ f83 l62 (K_ f84 l62 (K_ f36 l62 (K_ f50 l62 (K_ f52 l62 (K_ f39 l62 (K_ f95 l62 (K_ f37 l62 (K_ f38 l62 (K_ f85 l62 l62))))))))))) a74
theorem Hb126 : H xb126 zb126 db126 := by delta H;kernel_rfl
theorem Kb126 : K 67 m67 xb126 db126 [lE,lE,lE,lE,lE,lE,lE,lE,lE,lE,lE,lE,lE] := by delta K;kernel_rfl
theorem qb126 : Q 67 m67 xb126 zb126 := pK Hb126 Kb126
def db64 : D_ := K_ f101 (K_ f103 (K_ f108 (K_ f122 (K_ f138 (K_ f109 l37 l39) l38) l32) l33) l34) (c6_ [[(23,(.add v22 n1))]] [] []) [(f205,true),(f176,false),(f157,false),(f144,false),(f53,false),(f71,false),(f90,false),(f104,false),(f123,false),(f29,false),(f31,false),(f34,false),(f45,false),(f30,false),(f35,false),(f46,false),(f33,false),(f43,false),(f44,false),(f49,false)]
theorem Hb64 : H xb64 zb64 db64 := by delta H;kernel_rfl
theorem Kb64 : K 5 (rk 27) xb64 db64 [mT (sq 6 fun i => mO (.eql (.var (13+i)) (.lit 1)) false [sA,sP,sU [7]] cB) (lT [sA,sU [7],sP] [] [] .non),mT (sq 6 fun i => mO (.eql (.var (13+i)) (.lit 0)) false [sA] (cV [(0+64*i)])) (lT pY [(1,(cV [8])),(2,(cV [16])),(9,(cV [72])),(10,(cV [80])),(17,(cV [136])),(18,(cV [144])),(25,(cV [200])),(26,(cV [208])),(33,(cV [264])),(34,(cV [272])),(41,(cV [328])),(42,(cV [336]))] [] .non),mT (sq 6 fun i => mO (.eql (.var (13+i)) (.lit 7)) false [sA] (cV [(56+64*i)])) (lT pY [(0,(cV [0])),(1,(cV [8])),(2,(cV [16])),(8,(cV [64])),(9,(cV [72])),(10,(cV [80])),(16,(cV [128])),(17,(cV [136])),(18,(cV [144])),(24,(cV [192])),(25,(cV [200])),(26,(cV [208])),(32,(cV [256])),(33,(cV [264])),(34,(cV [272])),(40,(cV [320])),(41,(cV [328])),(42,(cV [336]))] [] .non),mT (sq 6 fun i => mO (.eql (.var (13+i)) (.lit 6)) false [sA] (cV [(48+64*i)])) (lT pY (ap [(0,(cV [0])),(1,(cV [8])),(2,(cV [16]))] (ap (sq 4 fun i => ((7+i),(cV [(56+8*i)]))) (ap (sq 4 fun i => ((15+i),(cV [(120+8*i)]))) (ap (sq 4 fun i => ((23+i),(cV [(184+8*i)]))) (ap (sq 4 fun i => ((31+i),(cV [(248+8*i)]))) (ap (sq 4 fun i => ((39+i),(cV [(312+8*i)]))) [(47,(cV [376]))])))))) [] .non),mT (sq 6 fun i => mO (.eql (.var (13+i)) (.lit 5)) false [sA] (cV [(40+64*i)])) (lT pY (ap [(0,(cV [0])),(1,(cV [8])),(2,(cV [16]))] (ap (sq 5 fun i => ((6+i),(cV [(48+8*i)]))) (ap (sq 5 fun i => ((14+i),(cV [(112+8*i)]))) (ap (sq 5 fun i => ((22+i),(cV [(176+8*i)]))) (ap (sq 5 fun i => ((30+i),(cV [(240+8*i)]))) (ap (sq 5 fun i => ((38+i),(cV [(304+8*i)]))) [(46,(cV [368])),(47,(cV [376]))])))))) [] .non),mT (sq 6 fun i => mO (.eql (.var (13+i)) (.lit 4)) false [sA] (cV [(32+64*i)])) (lT pY (ap [(0,(cV [0])),(1,(cV [8])),(2,(cV [16]))] (ap (sq 6 fun i => ((5+i),(cV [(40+8*i)]))) (ap (sq 6 fun i => ((13+i),(cV [(104+8*i)]))) (ap (sq 6 fun i => ((21+i),(cV [(168+8*i)]))) (ap (sq 6 fun i => ((29+i),(cV [(232+8*i)]))) (ap (sq 6 fun i => ((37+i),(cV [(296+8*i)]))) [(45,(cV [360])),(46,(cV [368])),(47,(cV [376]))])))))) [] .non),mT (sq 6 fun i => mO (.eql (.var (13+i)) (.rem (.var 7) (.lit 8))) false [sA,sP,sU [7]] cB) (lT pY (ap [(0,(cV [0])),(1,(cV [8])),(2,(cV [16]))] (ap (sq 7 fun i => ((4+i),(cV [(32+8*i)]))) (ap (sq 7 fun i => ((12+i),(cV [(96+8*i)]))) (ap (sq 7 fun i => ((20+i),(cV [(160+8*i)]))) (ap (sq 7 fun i => ((28+i),(cV [(224+8*i)]))) (ap (sq 7 fun i => ((36+i),(cV [(288+8*i)]))) (sq 4 fun i => ((44+i),(cV [(352+8*i)]))))))))) [] .non)] := by delta K;kernel_rfl
theorem qb64 : Q 5 (rk 27) xb64 zb64 := pK Hb64 Kb64
def db32 : D_ := K_ f98 (K_ f99 (K_ f101 l14 l13) l12) (c3_ [[(21,(.add v20 n1))]] [] []) [((.eql (.rem v4 n8) n4),true),(f228,false),(f202,false),(f173,false),(f154,false),(f53,false),(f71,false),(f29,false),(f56,false)]
theorem Hb32 : H xb32 zb32 db32 := by delta H;kernel_rfl
theorem Kb32 : K 2 (rk 30) xb32 db32 [mT [mO (.eql (.var 13) (.lit 7)) false [sA,sP,sU [7]] cB,mO (.eql (.var 14) (.lit 7)) false [sA,sP,sU [7]] cB,mO (.eql (.var 15) (.lit 7)) false [sA,sP,sU [7]] cB] (lT [sA,sU [7],sP] [] [] .non),mT (sq 3 fun i => mO (.eql (.var (13+i)) (.lit 6)) false [sA] (cV [(48+64*i)])) (lT pY (ap (sq 4 fun i => ((0+i),(cV [(0+8*i)]))) (ap (sq 5 fun i => ((7+i),(cV [(56+8*i)]))) (ap (sq 5 fun i => ((15+i),(cV [(120+8*i)]))) [(23,(cV [184]))]))) [] .non),mT (sq 3 fun i => mO (.eql (.var (13+i)) (.lit 5)) false [sA] (cV [(40+64*i)])) (lT pY (ap (sq 4 fun i => ((0+i),(cV [(0+8*i)]))) (ap (sq 6 fun i => ((6+i),(cV [(48+8*i)]))) (ap (sq 6 fun i => ((14+i),(cV [(112+8*i)]))) [(22,(cV [176])),(23,(cV [184]))]))) [] .non),mT (sq 3 fun i => mO (.eql (.var (13+i)) (.rem (.var 4) (.lit 8))) false [sA,sP,sU [7]] cB) (lT pY (ap (sq 4 fun i => ((0+i),(cV [(0+8*i)]))) (ap (sq 7 fun i => ((5+i),(cV [(40+8*i)]))) (ap (sq 7 fun i => ((13+i),(cV [(104+8*i)]))) [(21,(cV [168])),(22,(cV [176])),(23,(cV [184]))]))) [] .non)] := by delta K;kernel_rfl
theorem qb32 : Q 2 (rk 30) xb32 zb32 := pK Hb32 Kb32
def db97 : D_ := c32_ [[(16,v13),(17,v16),(18,v17),(19,v18),(20,v19),(21,v20)]] [] w0 a69
theorem Hb97 : H xb97 zb97 db97 := by delta H;kernel_rfl
theorem Kb97 : K 38 (rk 16) xb97 db97 [lE] := by delta K;kernel_rfl
theorem qb97 : Q 38 (rk 16) xb97 zb97 := pK Hb97 Kb97

end
end Go.Proofs.Ytfimgfodoogibaa.queueOrder
