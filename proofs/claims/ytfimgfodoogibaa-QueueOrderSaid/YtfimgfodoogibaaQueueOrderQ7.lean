/- Parts of the plan for the law QueueOrder: each is one kernel run. -/
import Derived.Test.YtfimgfodoogibaaQueueOrderPlan
set_option linter.unusedVariables false
namespace Go.Proofs.Ytfimgfodoogibaa.queueOrder
open Go Go.Ev
noncomputable section

def db12 : D_ := c0_ [[(20,n1)]] [] [] [((.eql (.rem v0 n8) n6),true),(f226,false),(f200,false),(f171,false),(f153,false),(f141,false),(f132,false)]
theorem qb12 : QQ 141 { rank := top } false xb12 zb12 := Cl.partK 1000000 db12 [p0] (by kernel_rfl) (by kernel_rfl) (by kernel_rfl)
def db98 : D_ := c32_ [[(5,(.wrap .i64 (.add (.wrap .i64 (.add (.wrap .i64 (.add (.wrap .i64 (.add (.wrap .i64 (.add (.wrap .i64 (.add (.wrap .i64 (.add (.wrap .i64 (.add (.wrap .i64 (.add (.wrap .i64 (.add (.wrap .i64 (.add v5 n1)) n1)) n1)) n1)) n1)) n1)) n1)) n1)) n1)) n1)) n1))),(21,v13)]] [] w0 a68
theorem Hb98 : H xb98 zb98 db98 := by delta H;kernel_rfl
theorem Kb98 : K 39 (rk 17) xb98 db98 [lE] := by delta K;kernel_rfl
theorem qb98 : Q 39 (rk 17) xb98 zb98 := pK Hb98 Kb98
def db154 : D_ := c44_ [[(4,(.wrap .i64 (.add (.wrap .i64 (.add (.wrap .i64 (.add (.wrap .i64 (.add (.wrap .i64 (.add (.wrap .i64 (.add (.wrap .i64 (.add (.wrap .i64 (.add (.wrap .i64 (.add v1 n1)) n1)) n1)) n1)) n1)) n1)) n1)) n1)) n1))),(6,v9),(9,v10)]] [] w0 [(f178,true),(f163,false),(f149,false),(f28,false),(f0,false),(f2,false),(f19,false),(f13,false),(f14,false),(f15,false),(f58,false),(f3,false),(f20,false),(f16,false),(f17,false),(f12,false),(f57,false),(f18,false),(f10,false),(f9,false),(f11,false),(f55,false),(f7,false),(f6,false),(f8,false),(f54,false),(f4,false),(f5,false),(f42,false),(f1,false),(f40,false),(f32,false)]
theorem Hb154 : H xb154 zb154 db154 := by delta H;kernel_rfl
theorem Kb154 : K 69 m69 xb154 db154 [lE] := by delta K;kernel_rfl
theorem qb154 : Q 69 m69 xb154 zb154 := pK Hb154 Kb154
def db140 : D_ := c43_ [[(4,(.wrap .i64 (.add (.wrap .i64 (.add (.wrap .i64 (.add (.wrap .i64 (.add (.wrap .i64 (.add (.wrap .i64 (.add (.wrap .i64 (.add (.wrap .i64 (.add v1 n1)) n1)) n1)) n1)) n1)) n1)) n1)) n1))),(7,v9),(9,v10)]] [] w0 [(f125,true),(f116,false),(f28,false),(f0,false),(f2,false),(f19,false),(f13,false),(f14,false),(f15,false),(f58,false),(f3,false),(f20,false),(f16,false),(f17,false),(f12,false),(f57,false),(f18,false),(f10,false),(f9,false),(f11,false),(f55,false),(f7,false),(f6,false),(f8,false),(f54,false),(f4,false),(f5,false),(f42,false),(f1,false),(f40,false),(f32,false)]
theorem Hb140 : H xb140 zb140 db140 := by delta H;kernel_rfl
theorem Kb140 : K 68 m68 xb140 db140 [lE] := by delta K;kernel_rfl
theorem qb140 : Q 68 m68 xb140 zb140 := pK Hb140 Kb140
def db194 : D_ := c47_ [[(4,(.wrap .i64 (.add (.wrap .i64 (.add (.wrap .i64 (.add (.wrap .i64 (.add (.wrap .i64 (.add (.wrap .i64 (.add (.wrap .i64 (.add (.wrap .i64 (.add (.wrap .i64 (.add v4 n1)) n1)) n1)) n1)) n1)) n1)) n1)) n1)) n1))),(7,v9)]] [] w0 [(f136,true),(f125,false),(f116,false),(f22,false),(f21,false),(f23,false),(f27,false),(f25,false),(f24,false),(f26,false),(f0,false),(f2,false),(f19,false),(f13,false),(f14,false),(f15,false),(f3,false),(f20,false),(f16,false),(f17,false),(f12,false),(f18,false),(f10,false),(f9,false),(f11,false),(f7,false),(f6,false),(f8,false),(f4,false),(f5,false),(f1,false)]
theorem Hb194 : H xb194 zb194 db194 := by delta H;kernel_rfl
theorem Kb194 : K 72 (rk 8) xb194 db194 [lE] := by delta K;kernel_rfl
theorem qb194 : Q 72 (rk 8) xb194 zb194 := pK Hb194 Kb194
def db164 : D_ := c45_ [[(6,v6),(7,v7),(8,v8)]] [] w0 [(f137,true),(f28,false),(f22,false),(f21,false),(f23,false),(f27,false),(f25,false),(f24,false),(f26,false),(f0,false),(f2,false),(f19,false),(f13,false),(f14,false),(f15,false),(f3,false),(f20,false),(f16,false),(f17,false),(f12,false),(f18,false),(f10,false),(f9,false),(f11,false),(f7,false),(f6,false),(f8,false),(f4,false),(f5,false),(f1,false)]
theorem Hb164 : H xb164 zb164 db164 := by delta H;kernel_rfl
theorem Kb164 : K 70 m70 xb164 db164 [lE] := by delta K;kernel_rfl
theorem qb164 : Q 70 m70 xb164 zb164 := pK Hb164 Kb164
def db260 : D_ := c57_ [[(4,(.wrap .i64 (.add (.wrap .i64 (.add (.wrap .i64 (.add (.wrap .i64 (.add (.wrap .i64 (.add (.wrap .i64 (.add (.wrap .i64 (.add (.wrap .i64 (.add v4 n1)) n1)) n1)) n1)) n1)) n1)) n1)) n1))),(10,v11)]] [] w0 [(f208,true),(f159,false),(f22,false),(f21,false),(f23,false),(f27,false),(f25,false),(f24,false),(f26,false),(f0,false),(f2,false),(f19,false),(f13,false),(f14,false),(f15,false),(f3,false),(f20,false),(f16,false),(f17,false),(f12,false),(f18,false),(f10,false),(f9,false),(f11,false),(f7,false),(f6,false),(f8,false),(f4,false),(f5,false),(f1,false)]
theorem Hb260 : H xb260 zb260 db260 := by delta H;kernel_rfl
theorem Kb260 : K 84 (rk 11) xb260 db260 [lE] := by delta K;kernel_rfl
theorem qb260 : Q 84 (rk 11) xb260 zb260 := pK Hb260 Kb260
def db218 : D_ := c50_ [o10] [] w0 [(f183,true),(f22,false),(f21,false),(f23,false),(f27,false),(f25,false),(f24,false),(f26,false),(f0,false),(f2,false),(f19,false),(f13,false),(f14,false),(f15,false),(f3,false),(f20,false),(f16,false),(f17,false),(f12,false),(f18,false),(f10,false),(f9,false),(f11,false),(f7,false),(f6,false),(f8,false),(f4,false),(f5,false),(f1,false)]
theorem Hb218 : H xb218 zb218 db218 := by delta H;kernel_rfl
theorem Kb218 : K 75 (rk 11) xb218 db218 [lE] := by delta K;kernel_rfl
theorem qb218 : Q 75 (rk 11) xb218 zb218 := pK Hb218 Kb218
def d23 : D_ := K_ f102 (L_ (.cut 29 q0_ [] w0)) (c19_ [[(5,(.lit 67))],o0,[(14,v10),(15,v5),(16,v6),(17,v7),(18,v8),(19,v9)]] [] w0) a51
theorem H23 : H g8 (t23.cfg) d23 := by delta H;kernel_rfl
theorem K23 : K 23 (rk 18) g8 d23 [lE,lE] := by delta K;kernel_rfl
theorem q23 : Q 23 (rk 18) g8 t23.cfg := pK H23 K23
def d97 : D_ := L_ (.cut 98 q6_ [] w0) a172
theorem H97 : H g97 (t97.cfg) d97 := by delta H;kernel_rfl
theorem K97 : K 97 (rk 9) g97 d97 [lE] := by delta K;kernel_rfl
theorem q97 : Q 97 (rk 9) g97 t97.cfg := pK H97 K97
def d112 : D_ := L_ (.cut 118 q6_ [] w0) a172
theorem H112 : H g97 (t112.cfg) d112 := by delta H;kernel_rfl
theorem K112 : K 112 (rk 5) g97 d112 [lE] := by delta K;kernel_rfl
theorem q112 : Q 112 (rk 5) g97 t112.cfg := pK H112 K112
def d123 : D_ := L_ (.cut 129 q9_ [] w0) a172
theorem H123 : H g97 (t123.cfg) d123 := by delta H;kernel_rfl
theorem K123 : K 123 (rk 2) g97 d123 [lE] := by delta K;kernel_rfl
theorem q123 : Q 123 (rk 2) g97 t123.cfg := pK H123 K123
def d130 : D_ := K_ f28 (K_ f84 l69 (K_ f85 l69 (K_ f106 l69 (K_ f38 l69 (K_ f95 l69 (K_ f128 l69 (K_ f129 l69 (K_ f130 l69 (K_ f94 l69 (K_ f36 l69 (K_ f39 l69 (K_ f37 l69 l69)))))))))))) l68 a174
theorem H130 : H g129 (t130.cfg) d130 := by delta H;kernel_rfl
theorem K130 : K 130 m130 g129 d130 [lE,lE,lE,lE,lE,lE,lE,lE,lE,lE,lE,lE,lE,lE] := by delta K;kernel_rfl
theorem q130 : Q 130 m130 g129 t130.cfg := pK H130 K130
def db72 : D_ := K_ f99 (K_ f101 (K_ f103 (K_ f108 (K_ f122 (K_ f138 (K_ f199 l47 l40) l41) l42) l43) l44) l45) (c7_ [[(22,(.add v21 n1))]] [] []) [(f145,true),(f133,false),(f53,false),(f71,false),(f90,false),(f104,false),(f123,false),(f168,false),(f29,false),(f31,false),(f34,false),(f45,false),(f74,false),(f30,false),(f35,false),(f46,false),(f75,false),(f33,false),(f43,false),(f73,false),(f44,false),(f72,false),(f76,false),(f41,false)]
theorem Hb72 : H xb72 zb72 db72 := by delta H;kernel_rfl
theorem Kb72 : K 6 (rk 26) xb72 db72 [mT (sq 7 fun i => mO (.eql (.var (13+i)) (.lit 0)) false [sA,sP,sU [7]] cB) (lT (pW [] 2) [] [] .non),mT (sq 7 fun i => mO (.eql (.var (13+i)) (.lit 7)) false [sA] (cV [(56+64*i)])) (lT pY (sq 7 fun i => ((0+8*i),(cV [(0+64*i)]))) [] .non),mT (sq 7 fun i => mO (.eql (.var (13+i)) (.lit 6)) false [sA] (cV [(48+64*i)])) (lT pY [(0,(cV [0])),(7,(cV [56])),(8,(cV [64])),(15,(cV [120])),(16,(cV [128])),(23,(cV [184])),(24,(cV [192])),(31,(cV [248])),(32,(cV [256])),(39,(cV [312])),(40,(cV [320])),(47,(cV [376])),(48,(cV [384])),(55,(cV [440]))] [] .non),mT (sq 7 fun i => mO (.eql (.var (13+i)) (.lit 5)) false [sA] (cV [(40+64*i)])) (lT pY [(0,(cV [0])),(6,(cV [48])),(7,(cV [56])),(8,(cV [64])),(14,(cV [112])),(15,(cV [120])),(16,(cV [128])),(22,(cV [176])),(23,(cV [184])),(24,(cV [192])),(30,(cV [240])),(31,(cV [248])),(32,(cV [256])),(38,(cV [304])),(39,(cV [312])),(40,(cV [320])),(46,(cV [368])),(47,(cV [376])),(48,(cV [384])),(54,(cV [432])),(55,(cV [440]))] [] .non),mT (sq 7 fun i => mO (.eql (.var (13+i)) (.lit 4)) false [sA] (cV [(32+64*i)])) (lT pY (ap [(0,(cV [0]))] (ap (sq 4 fun i => ((5+i),(cV [(40+8*i)]))) (ap (sq 4 fun i => ((13+i),(cV [(104+8*i)]))) (ap (sq 4 fun i => ((21+i),(cV [(168+8*i)]))) (ap (sq 4 fun i => ((29+i),(cV [(232+8*i)]))) (ap (sq 4 fun i => ((37+i),(cV [(296+8*i)]))) (ap (sq 4 fun i => ((45+i),(cV [(360+8*i)]))) [(53,(cV [424])),(54,(cV [432])),(55,(cV [440]))]))))))) [] .non),mT (sq 7 fun i => mO (.eql (.var (13+i)) (.lit 3)) false [sA] (cV [(24+64*i)])) (lT pY (ap [(0,(cV [0]))] (ap (sq 5 fun i => ((4+i),(cV [(32+8*i)]))) (ap (sq 5 fun i => ((12+i),(cV [(96+8*i)]))) (ap (sq 5 fun i => ((20+i),(cV [(160+8*i)]))) (ap (sq 5 fun i => ((28+i),(cV [(224+8*i)]))) (ap (sq 5 fun i => ((36+i),(cV [(288+8*i)]))) (ap (sq 5 fun i => ((44+i),(cV [(352+8*i)]))) (sq 4 fun i => ((52+i),(cV [(416+8*i)])))))))))) [] .non),mT (sq 7 fun i => mO (.eql (.var (13+i)) (.lit 2)) false [sA] (cV [(16+64*i)])) (lT pY (ap [(0,(cV [0]))] (ap (sq 6 fun i => ((3+i),(cV [(24+8*i)]))) (ap (sq 6 fun i => ((11+i),(cV [(88+8*i)]))) (ap (sq 6 fun i => ((19+i),(cV [(152+8*i)]))) (ap (sq 6 fun i => ((27+i),(cV [(216+8*i)]))) (ap (sq 6 fun i => ((35+i),(cV [(280+8*i)]))) (ap (sq 6 fun i => ((43+i),(cV [(344+8*i)]))) (sq 5 fun i => ((51+i),(cV [(408+8*i)])))))))))) [] .non),mT (sq 7 fun i => mO (.eql (.var (13+i)) (.rem (.var 8) (.lit 8))) false [sA,sP,sU [7]] cB) (lT pY (ap [(0,(cV [0]))] (ap (sq 7 fun i => ((2+i),(cV [(16+8*i)]))) (ap (sq 7 fun i => ((10+i),(cV [(80+8*i)]))) (ap (sq 7 fun i => ((18+i),(cV [(144+8*i)]))) (ap (sq 7 fun i => ((26+i),(cV [(208+8*i)]))) (ap (sq 7 fun i => ((34+i),(cV [(272+8*i)]))) (ap (sq 7 fun i => ((42+i),(cV [(336+8*i)]))) (sq 6 fun i => ((50+i),(cV [(400+8*i)])))))))))) [] .non)] := by delta K;kernel_rfl
theorem qb72 : Q 6 (rk 26) xb72 zb72 := pK Hb72 Kb72
def db46 : D_ := K_ f127 (K_ f109 (K_ f98 (K_ f99 (K_ f101 l24 l25) l26) l27) l28) (c5_ [[(19,(.add v18 n1))]] [] []) [(f143,true),(f53,false),(f71,false),(f90,false),(f104,false),(f29,false),(f31,false),(f34,false),(f30,false),(f35,false),(f33,false),(f48,false)]
theorem Hb46 : H xb46 zb46 db46 := by delta H;kernel_rfl
theorem Kb46 : K 4 (rk 28) xb46 db46 [mT (sq 5 fun i => mO (.eql (.var (13+i)) (.lit 5)) false [sA,sP,sU [7]] cB) (lT [sA,sU [7],sP] [] [] .non),mT (sq 5 fun i => mO (.eql (.var (13+i)) (.lit 4)) false [sA] (cV [(32+64*i)])) (lT pY [(5,(cV [40])),(6,(cV [48])),(7,(cV [56])),(13,(cV [104])),(14,(cV [112])),(15,(cV [120])),(21,(cV [168])),(22,(cV [176])),(23,(cV [184])),(29,(cV [232])),(30,(cV [240])),(31,(cV [248])),(37,(cV [296])),(38,(cV [304])),(39,(cV [312]))] [] .non),mT (sq 5 fun i => mO (.eql (.var (13+i)) (.lit 3)) false [sA] (cV [(24+64*i)])) (lT pY (ap (sq 4 fun i => ((4+i),(cV [(32+8*i)]))) (ap (sq 4 fun i => ((12+i),(cV [(96+8*i)]))) (ap (sq 4 fun i => ((20+i),(cV [(160+8*i)]))) (ap (sq 4 fun i => ((28+i),(cV [(224+8*i)]))) (sq 4 fun i => ((36+i),(cV [(288+8*i)]))))))) [] .non),mT (sq 5 fun i => mO (.eql (.var (13+i)) (.lit 2)) false [sA] (cV [(16+64*i)])) (lT pY (ap (sq 5 fun i => ((3+i),(cV [(24+8*i)]))) (ap (sq 5 fun i => ((11+i),(cV [(88+8*i)]))) (ap (sq 5 fun i => ((19+i),(cV [(152+8*i)]))) (ap (sq 5 fun i => ((27+i),(cV [(216+8*i)]))) (sq 5 fun i => ((35+i),(cV [(280+8*i)]))))))) [] .non),mT (sq 5 fun i => mO (.eql (.var (13+i)) (.lit 1)) false [sA] (cV [(8+64*i)])) (lT pY (ap (sq 6 fun i => ((2+i),(cV [(16+8*i)]))) (ap (sq 6 fun i => ((10+i),(cV [(80+8*i)]))) (ap (sq 6 fun i => ((18+i),(cV [(144+8*i)]))) (ap (sq 6 fun i => ((26+i),(cV [(208+8*i)]))) (sq 6 fun i => ((34+i),(cV [(272+8*i)]))))))) [] .non),mT (sq 5 fun i => mO (.eql (.var (13+i)) (.rem (.var 6) (.lit 8))) false [sA,sP,sU [7]] cB) (lT pY (ap (sq 7 fun i => ((1+i),(cV [(8+8*i)]))) (ap (sq 7 fun i => ((9+i),(cV [(72+8*i)]))) (ap (sq 7 fun i => ((17+i),(cV [(136+8*i)]))) (ap (sq 7 fun i => ((25+i),(cV [(200+8*i)]))) (sq 7 fun i => ((33+i),(cV [(264+8*i)]))))))) [] .non)] := by delta K;kernel_rfl
theorem qb46 : Q 4 (rk 28) xb46 zb46 := pK Hb46 Kb46
def db42 : D_ := K_ f99 (K_ f101 (K_ f103 (K_ f108 l23 l22) l21) l20) (c4_ [[(22,(.add v21 n1))]] [] []) [(f229,true),(f203,false),(f174,false),(f155,false),(f142,false),(f53,false),(f71,false),(f90,false),(f29,false),(f31,false),(f30,false),(f47,false)]
theorem Hb42 : H xb42 zb42 db42 := by delta H;kernel_rfl
theorem Kb42 : K 3 (rk 29) xb42 db42 [mT [mO (.eql (.var 13) (.lit 0)) false [sA,sP,sU [7]] cB,mO (.eql (.var 14) (.lit 0)) false [sA,sP,sU [7]] cB,mO (.eql (.var 15) (.lit 0)) false [sA,sP,sU [7]] cB,mO (.eql (.var 16) (.lit 0)) false [sA,sP,sU [7]] cB] (lT [sA,sU [7],sP] [] [] .non),mT (sq 4 fun i => mO (.eql (.var (13+i)) (.lit 7)) false [sA] (cV [(56+64*i)])) (lT pY (ap (sq 4 fun i => ((0+i),(cV [(0+8*i)]))) (ap (sq 4 fun i => ((8+i),(cV [(64+8*i)]))) (ap (sq 4 fun i => ((16+i),(cV [(128+8*i)]))) (sq 4 fun i => ((24+i),(cV [(192+8*i)])))))) [] .non),mT (sq 4 fun i => mO (.eql (.var (13+i)) (.lit 6)) false [sA] (cV [(48+64*i)])) (lT pY (ap (sq 4 fun i => ((0+i),(cV [(0+8*i)]))) (ap (sq 5 fun i => ((7+i),(cV [(56+8*i)]))) (ap (sq 5 fun i => ((15+i),(cV [(120+8*i)]))) (ap (sq 5 fun i => ((23+i),(cV [(184+8*i)]))) [(31,(cV [248]))])))) [] .non),mT (sq 4 fun i => mO (.eql (.var (13+i)) (.lit 5)) false [sA] (cV [(40+64*i)])) (lT pY (ap (sq 4 fun i => ((0+i),(cV [(0+8*i)]))) (ap (sq 6 fun i => ((6+i),(cV [(48+8*i)]))) (ap (sq 6 fun i => ((14+i),(cV [(112+8*i)]))) (ap (sq 6 fun i => ((22+i),(cV [(176+8*i)]))) [(30,(cV [240])),(31,(cV [248]))])))) [] .non),mT (sq 4 fun i => mO (.eql (.var (13+i)) (.rem (.var 5) (.lit 8))) false [sA,sP,sU [7]] cB) (lT pY (ap (sq 4 fun i => ((0+i),(cV [(0+8*i)]))) (ap (sq 7 fun i => ((5+i),(cV [(40+8*i)]))) (ap (sq 7 fun i => ((13+i),(cV [(104+8*i)]))) (ap (sq 7 fun i => ((21+i),(cV [(168+8*i)]))) [(29,(cV [232])),(30,(cV [240])),(31,(cV [248]))])))) [] .non)] := by delta K;kernel_rfl
theorem qb42 : Q 3 (rk 29) xb42 zb42 := pK Hb42 Kb42
def db101 : D_ := c34_ [[(18,v13),(19,v18),(20,v19),(21,v20)]] [] w0 a69
theorem Hb101 : H xb101 zb101 db101 := by delta H;kernel_rfl
theorem Kb101 : K 40 (rk 17) xb101 db101 [lE] := by delta K;kernel_rfl
theorem qb101 : Q 40 (rk 17) xb101 zb101 := pK Hb101 Kb101

end
end Go.Proofs.Ytfimgfodoogibaa.queueOrder
