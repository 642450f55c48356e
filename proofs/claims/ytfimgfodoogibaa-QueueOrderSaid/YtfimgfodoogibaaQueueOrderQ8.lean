/- Parts of the plan for the law QueueOrder: each is one kernel run. -/
import Derived.Test.YtfimgfodoogibaaQueueOrderPlan
set_option linter.unusedVariables false
namespace Go.Proofs.Ytfimgfodoogibaa.queueOrder
open Go Go.Ev
noncomputable section

def db13 : D_ := c0_ [[(21,n1)]] [] [] [((.eql (.rem v0 n8) n6),false),(f226,false),(f200,false),(f171,false),(f153,false),(f141,false),(f132,false)]
theorem qb13 : QQ 141 { rank := top } false xb13 zb13 := Cl.partK 1000000 db13 [lT [sA,sU [2,10]] [] [] .non] (by kernel_rfl) (by kernel_rfl) (by kernel_rfl)
def db134 : D_ := c42_ [[(4,(.wrap .i64 (.add (.wrap .i64 (.add (.wrap .i64 (.add (.wrap .i64 (.add (.wrap .i64 (.add (.wrap .i64 (.add (.wrap .i64 (.add (.wrap .i64 (.add (.wrap .i64 (.add (.wrap .i64 (.add v1 n1)) n1)) n1)) n1)) n1)) n1)) n1)) n1)) n1)) n1))),(8,v12),(11,v11)]] [] w0 [(f210,true),(f161,false),(f135,false),(f124,false),(f28,false),(f0,false),(f2,false),(f19,false),(f13,false),(f14,false),(f15,false),(f58,false),(f3,false),(f20,false),(f16,false),(f17,false),(f12,false),(f57,false),(f18,false),(f10,false),(f9,false),(f11,false),(f55,false),(f7,false),(f6,false),(f8,false),(f54,false),(f4,false),(f5,false),(f42,false),(f1,false),(f40,false),(f32,false)]
theorem Hb134 : H xb134 zb134 db134 := by delta H;kernel_rfl
theorem Kb134 : K 67 m67 xb134 db134 [lE] := by delta K;kernel_rfl
theorem qb134 : Q 67 m67 xb134 zb134 := pK Hb134 Kb134
def db168 : D_ := c45_ [[(4,(.lit 98)),(5,v7),(8,v8)]] [] w0 [(f164,true),(f150,false),(f137,false),(f28,false),(f22,false),(f21,false),(f23,false),(f27,false),(f25,false),(f24,false),(f26,false),(f0,false),(f2,false),(f19,false),(f13,false),(f14,false),(f15,false),(f3,false),(f20,false),(f16,false),(f17,false),(f12,false),(f18,false),(f10,false),(f9,false),(f11,false),(f7,false),(f6,false),(f8,false),(f4,false),(f5,false),(f1,false)]
theorem Hb168 : H xb168 zb168 db168 := by delta H;kernel_rfl
theorem Kb168 : K 70 m70 xb168 db168 [lE] := by delta K;kernel_rfl
theorem qb168 : Q 70 m70 xb168 zb168 := pK Hb168 Kb168
def db166 : D_ := c45_ [[(4,(.lit 97)),(5,v6),(7,v7),(8,v8)]] [] w0 [(f150,true),(f137,false),(f28,false),(f22,false),(f21,false),(f23,false),(f27,false),(f25,false),(f24,false),(f26,false),(f0,false),(f2,false),(f19,false),(f13,false),(f14,false),(f15,false),(f3,false),(f20,false),(f16,false),(f17,false),(f12,false),(f18,false),(f10,false),(f9,false),(f11,false),(f7,false),(f6,false),(f8,false),(f4,false),(f5,false),(f1,false)]
theorem Hb166 : H xb166 zb166 db166 := by delta H;kernel_rfl
theorem Kb166 : K 70 m70 xb166 db166 [lE] := by delta K;kernel_rfl
theorem qb166 : Q 70 m70 xb166 zb166 := pK Hb166 Kb166
def db214 : D_ := c49_ [[(4,(.wrap .i64 (.add (.wrap .i64 (.add (.wrap .i64 (.add (.wrap .i64 (.add (.wrap .i64 (.add (.wrap .i64 (.add (.wrap .i64 (.add (.wrap .i64 (.add (.wrap .i64 (.add v4 n1)) n1)) n1)) n1)) n1)) n1)) n1)) n1)) n1))),(8,v10)]] [] w0 [(f237,true),(f216,false),(f182,false),(f22,false),(f21,false),(f23,false),(f27,false),(f25,false),(f24,false),(f26,false),(f0,false),(f2,false),(f19,false),(f13,false),(f14,false),(f15,false),(f3,false),(f20,false),(f16,false),(f17,false),(f12,false),(f18,false),(f10,false),(f9,false),(f11,false),(f7,false),(f6,false),(f8,false),(f4,false),(f5,false),(f1,false)]
theorem Hb214 : H xb214 zb214 db214 := by delta H;kernel_rfl
theorem Kb214 : K 74 (rk 7) xb214 db214 [lE] := by delta K;kernel_rfl
theorem qb214 : Q 74 (rk 7) xb214 zb214 := pK Hb214 Kb214
def db138 : D_ := c43_ [o4] [] w0 [(f116,true),(f28,false),(f0,false),(f2,false),(f19,false),(f13,false),(f14,false),(f15,false),(f58,false),(f3,false),(f20,false),(f16,false),(f17,false),(f12,false),(f57,false),(f18,false),(f10,false),(f9,false),(f11,false),(f55,false),(f7,false),(f6,false),(f8,false),(f54,false),(f4,false),(f5,false),(f42,false),(f1,false),(f40,false),(f32,false)]
theorem Hb138 : H xb138 zb138 db138 := by delta H;kernel_rfl
theorem Kb138 : K 68 m68 xb138 db138 [lE] := by delta K;kernel_rfl
theorem qb138 : Q 68 m68 xb138 zb138 := pK Hb138 Kb138
def db242 : D_ := c53_ [[(4,(.wrap .i64 (.add (.wrap .i64 (.add (.wrap .i64 (.add (.wrap .i64 (.add (.wrap .i64 (.add (.wrap .i64 (.add (.wrap .i64 (.add (.wrap .i64 (.add v4 n1)) n1)) n1)) n1)) n1)) n1)) n1)) n1))),(10,v11)]] [] w0 [((.eql (.rem v1 n3) n1),true),(f240,false),(f22,false),(f21,false),(f23,false),(f27,false),(f25,false),(f24,false),(f26,false),(f0,false),(f2,false),(f19,false),(f13,false),(f14,false),(f15,false),(f3,false),(f20,false),(f16,false),(f17,false),(f12,false),(f18,false),(f10,false),(f9,false),(f11,false),(f7,false),(f6,false),(f8,false),(f4,false),(f5,false),(f1,false)]
theorem Hb242 : H xb242 zb242 db242 := by delta H;kernel_rfl
theorem Kb242 : K 79 (rk 13) xb242 db242 [lE] := by delta K;kernel_rfl
theorem qb242 : Q 79 (rk 13) xb242 zb242 := pK Hb242 Kb242
def db190 : D_ := c47_ [o7] [] w0 [(f116,true),(f22,false),(f21,false),(f23,false),(f27,false),(f25,false),(f24,false),(f26,false),(f0,false),(f2,false),(f19,false),(f13,false),(f14,false),(f15,false),(f3,false),(f20,false),(f16,false),(f17,false),(f12,false),(f18,false),(f10,false),(f9,false),(f11,false),(f7,false),(f6,false),(f8,false),(f4,false),(f5,false),(f1,false)]
theorem Hb190 : H xb190 zb190 db190 := by delta H;kernel_rfl
theorem Kb190 : K 72 (rk 8) xb190 db190 [lE] := by delta K;kernel_rfl
theorem qb190 : Q 72 (rk 8) xb190 zb190 := pK Hb190 Kb190
def d11 : D_ := K_ f169 (L_ (.cut 14 q0_ [] w0)) (c10_ [[(5,(.lit 46))],o0,[(14,v7),(15,v5),(16,v6)]] [] w0) a51
theorem H11 : H g8 (t11.cfg) d11 := by delta H;kernel_rfl
theorem K11 : K 11 (rk 22) g8 d11 [lE,lE] := by delta K;kernel_rfl
theorem q11 : Q 11 (rk 22) g8 t11.cfg := pK H11 K11
def d94 : D_ := l66 a51
theorem H94 : H g71 (t94.cfg) d94 := by delta H;kernel_rfl
theorem K94 : K 94 (rk 10) g71 d94 [lE] := by delta K;kernel_rfl
theorem q94 : Q 94 (rk 10) g71 t94.cfg := pK H94 K94
def d109 : D_ := L_ (.cut 115 q6_ [] w0) a172
theorem H109 : H g97 (t109.cfg) d109 := by delta H;kernel_rfl
theorem K109 : K 109 (rk 5) g97 d109 [lE] := by delta K;kernel_rfl
theorem q109 : Q 109 (rk 5) g97 t109.cfg := pK H109 K109
def d55 : D_ := K_ f28 (K_ f94 l50 (K_ f95 l50 (K_ f83 l50 (K_ f84 l50 (K_ f51 l50 (K_ f50 l50 (K_ f52 l50 (K_ f39 l50 (K_ f36 l50 (K_ f37 l50 (K_ f38 l50 (K_ f85 l50 l50)))))))))))) (L_ (.cut 57 q3_ [] w0)) a73
theorem H55 : H g55 (t55.cfg) d55 := by delta H;kernel_rfl
theorem K55 : K 55 m55 g55 d55 [lE,lE,lE,lE,lE,lE,lE,lE,lE,lE,lE,lE,lE,lE] := by delta K;kernel_rfl
theorem q55 : Q 55 m55 g55 t55.cfg := pK H55 K55
def d47 : D_ := L_ (.cut 61 q2_ [] w0) a72
theorem H47 : H g45 (t47.cfg) d47 := by delta H;kernel_rfl
theorem K47 : K 47 (rk 15) g45 d47 [lE] := by delta K;kernel_rfl
theorem q47 : Q 47 (rk 15) g45 t47.cfg := pK H47 K47
def db112 : D_ := K_ f94 l57 (K_ f51 l57 (K_ f83 l57 (K_ f84 l57 (K_ f52 l57 (K_ f50 l57 (K_ f95 l57 (K_ f39 l57 (K_ f36 l57 (K_ f37 l57 (K_ f38 l57 (K_ f85 l57 l57))))))))))) a74
theorem Hb112 : H xb112 zb112 db112 := by delta H;kernel_rfl
theorem Kb112 : K 62 m62 xb112 db112 [lE,lE,lE,lE,lE,lE,lE,lE,lE,lE,lE,lE,lE] := by delta K;kernel_rfl
theorem qb112 : Q 62 m62 xb112 zb112 := pK Hb112 Kb112
def db60 : D_ := K_ f98 (K_ f99 (K_ f101 (K_ f103 (K_ f108 (K_ f122 l38 l32) l33) l34) l35) l36) (c6_ [[(21,(.add v20 n1))]] [] []) [(f157,true),(f144,false),(f53,false),(f71,false),(f90,false),(f104,false),(f123,false),(f29,false),(f31,false),(f34,false),(f45,false),(f30,false),(f35,false),(f46,false),(f33,false),(f43,false),(f44,false),(f49,false)]
theorem Hb60 : H xb60 zb60 db60 := by delta H;kernel_rfl
theorem Kb60 : K 5 (rk 27) xb60 db60 [mT (sq 6 fun i => mO (.eql (.var (13+i)) (.lit 7)) false [sA,sP,sU [7]] cB) (lT [sA,sU [7],sP] [] [] .non),mT (sq 6 fun i => mO (.eql (.var (13+i)) (.lit 6)) false [sA] (cV [(48+64*i)])) (lT pY [(0,(cV [0])),(7,(cV [56])),(8,(cV [64])),(15,(cV [120])),(16,(cV [128])),(23,(cV [184])),(24,(cV [192])),(31,(cV [248])),(32,(cV [256])),(39,(cV [312])),(40,(cV [320])),(47,(cV [376]))] [] .non),mT (sq 6 fun i => mO (.eql (.var (13+i)) (.lit 5)) false [sA] (cV [(40+64*i)])) (lT pY [(0,(cV [0])),(6,(cV [48])),(7,(cV [56])),(8,(cV [64])),(14,(cV [112])),(15,(cV [120])),(16,(cV [128])),(22,(cV [176])),(23,(cV [184])),(24,(cV [192])),(30,(cV [240])),(31,(cV [248])),(32,(cV [256])),(38,(cV [304])),(39,(cV [312])),(40,(cV [320])),(46,(cV [368])),(47,(cV [376]))] [] .non),mT (sq 6 fun i => mO (.eql (.var (13+i)) (.lit 4)) false [sA] (cV [(32+64*i)])) (lT pY (ap [(0,(cV [0]))] (ap (sq 4 fun i => ((5+i),(cV [(40+8*i)]))) (ap (sq 4 fun i => ((13+i),(cV [(104+8*i)]))) (ap (sq 4 fun i => ((21+i),(cV [(168+8*i)]))) (ap (sq 4 fun i => ((29+i),(cV [(232+8*i)]))) (ap (sq 4 fun i => ((37+i),(cV [(296+8*i)]))) [(45,(cV [360])),(46,(cV [368])),(47,(cV [376]))])))))) [] .non),mT (sq 6 fun i => mO (.eql (.var (13+i)) (.lit 3)) false [sA] (cV [(24+64*i)])) (lT pY (ap [(0,(cV [0]))] (ap (sq 5 fun i => ((4+i),(cV [(32+8*i)]))) (ap (sq 5 fun i => ((12+i),(cV [(96+8*i)]))) (ap (sq 5 fun i => ((20+i),(cV [(160+8*i)]))) (ap (sq 5 fun i => ((28+i),(cV [(224+8*i)]))) (ap (sq 5 fun i => ((36+i),(cV [(288+8*i)]))) (sq 4 fun i => ((44+i),(cV [(352+8*i)]))))))))) [] .non),mT (sq 6 fun i => mO (.eql (.var (13+i)) (.lit 2)) false [sA] (cV [(16+64*i)])) (lT pY (ap [(0,(cV [0]))] (ap (sq 6 fun i => ((3+i),(cV [(24+8*i)]))) (ap (sq 6 fun i => ((11+i),(cV [(88+8*i)]))) (ap (sq 6 fun i => ((19+i),(cV [(152+8*i)]))) (ap (sq 6 fun i => ((27+i),(cV [(216+8*i)]))) (ap (sq 6 fun i => ((35+i),(cV [(280+8*i)]))) (sq 5 fun i => ((43+i),(cV [(344+8*i)]))))))))) [] .non),mT (sq 6 fun i => mO (.eql (.var (13+i)) (.rem (.var 7) (.lit 8))) false [sA,sP,sU [7]] cB) (lT pY (ap [(0,(cV [0]))] (ap (sq 7 fun i => ((2+i),(cV [(16+8*i)]))) (ap (sq 7 fun i => ((10+i),(cV [(80+8*i)]))) (ap (sq 7 fun i => ((18+i),(cV [(144+8*i)]))) (ap (sq 7 fun i => ((26+i),(cV [(208+8*i)]))) (ap (sq 7 fun i => ((34+i),(cV [(272+8*i)]))) (sq 6 fun i => ((42+i),(cV [(336+8*i)]))))))))) [] .non)] := by delta K;kernel_rfl
theorem qb60 : Q 5 (rk 27) xb60 zb60 := pK Hb60 Kb60
def db34 : D_ := K_ f167 (K_ f127 (K_ f109 (K_ f98 l16 l17) l18) l19) (c4_ [[(18,(.add v17 n1))]] [] []) [(f142,true),(f53,false),(f71,false),(f90,false),(f29,false),(f31,false),(f30,false),(f47,false)]
theorem Hb34 : H xb34 zb34 db34 := by delta H;kernel_rfl
theorem Kb34 : K 3 (rk 29) xb34 db34 [mT [mO (.eql (.var 13) (.lit 4)) false [sA,sP,sU [7]] cB,mO (.eql (.var 14) (.lit 4)) false [sA,sP,sU [7]] cB,mO (.eql (.var 15) (.lit 4)) false [sA,sP,sU [7]] cB,mO (.eql (.var 16) (.lit 4)) false [sA,sP,sU [7]] cB] (lT [sA,sU [7],sP] [] [] .non),mT (sq 4 fun i => mO (.eql (.var (13+i)) (.lit 3)) false [sA] (cV [(24+64*i)])) (lT pY (ap (sq 4 fun i => ((4+i),(cV [(32+8*i)]))) (ap (sq 4 fun i => ((12+i),(cV [(96+8*i)]))) (ap (sq 4 fun i => ((20+i),(cV [(160+8*i)]))) (sq 4 fun i => ((28+i),(cV [(224+8*i)])))))) [] .non),mT (sq 4 fun i => mO (.eql (.var (13+i)) (.lit 2)) false [sA] (cV [(16+64*i)])) (lT pY (ap (sq 5 fun i => ((3+i),(cV [(24+8*i)]))) (ap (sq 5 fun i => ((11+i),(cV [(88+8*i)]))) (ap (sq 5 fun i => ((19+i),(cV [(152+8*i)]))) (sq 5 fun i => ((27+i),(cV [(216+8*i)])))))) [] .non),mT (sq 4 fun i => mO (.eql (.var (13+i)) (.lit 1)) false [sA] (cV [(8+64*i)])) (lT pY (ap (sq 6 fun i => ((2+i),(cV [(16+8*i)]))) (ap (sq 6 fun i => ((10+i),(cV [(80+8*i)]))) (ap (sq 6 fun i => ((18+i),(cV [(144+8*i)]))) (sq 6 fun i => ((26+i),(cV [(208+8*i)])))))) [] .non),mT (sq 4 fun i => mO (.eql (.var (13+i)) (.rem (.var 5) (.lit 8))) false [sA,sP,sU [7]] cB) (lT pY (ap (sq 7 fun i => ((1+i),(cV [(8+8*i)]))) (ap (sq 7 fun i => ((9+i),(cV [(72+8*i)]))) (ap (sq 7 fun i => ((17+i),(cV [(136+8*i)]))) (sq 7 fun i => ((25+i),(cV [(200+8*i)])))))) [] .non)] := by delta K;kernel_rfl
theorem qb34 : Q 3 (rk 29) xb34 zb34 := pK Hb34 Kb34
def db87 : D_ := c23_ [[(18,v11),(19,v18)]] [] w0 [(f102,false),(f29,false),(f31,false),(f34,false),(f45,false),(f146,false),(f118,false),(f92,false),(f30,false),(f35,false),(f46,false),(f147,false),(f117,false),(f93,false),(f33,false),(f43,false),(f152,false),(f121,false),(f96,false),(f44,false),(f170,false),(f126,false),(f100,false),(f225,false),(f139,false),(f105,false),(f1,false),(f40,false),(f32,false)]
theorem Hb87 : H xb87 zb87 db87 := by delta H;kernel_rfl
theorem Kb87 : K 27 (rk 19) xb87 db87 [lE] := by delta K;kernel_rfl
theorem qb87 : Q 27 (rk 19) xb87 zb87 := pK Hb87 Kb87

end
end Go.Proofs.Ytfimgfodoogibaa.queueOrder
