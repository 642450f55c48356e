/- Parts of the plan for the law QueueOrder: each is one kernel run. -/
import Derived.Test.YtfimgfodoogibaaQueueOrderPlan
set_option linter.unusedVariables false
namespace Go.Proofs.Ytfimgfodoogibaa.queueOrder
open Go Go.Ev
noncomputable section

def db6 : D_ := c0_ [[(17,n1)]] [] [] [(f171,true),(f153,false),(f141,false),(f132,false)]
theorem qb6 : QQ 141 { rank := top } false xb6 zb6 := Cl.partK 1000000 db6 [p0] (by kernel_rfl) (by kernel_rfl) (by kernel_rfl)
def db239 : D_ := c52_ [[(4,(.wrap .i64 (.add (.wrap .i64 (.add (.wrap .i64 (.add (.wrap .i64 (.add (.wrap .i64 (.add (.wrap .i64 (.add (.wrap .i64 (.add (.wrap .i64 (.add (.wrap .i64 (.add (.wrap .i64 (.add (.wrap .i64 (.add v4 n1)) n1)) n1)) n1)) n1)) n1)) n1)) n1)) n1)) n1)) n1))),(9,v12)],o11] [] w0 [((.eql (.rem v1 n4) n2),false),(f239,false),(f218,false),(f22,false),(f21,false),(f23,false),(f27,false),(f25,false),(f24,false),(f26,false),(f0,false),(f2,false),(f19,false),(f13,false),(f14,false),(f15,false),(f3,false),(f20,false),(f16,false),(f17,false),(f12,false),(f18,false),(f10,false),(f9,false),(f11,false),(f7,false),(f6,false),(f8,false),(f4,false),(f5,false),(f1,false)]
theorem Hb239 : H xb239 zb239 db239 := by delta H;kernel_rfl
theorem Kb239 : K 77 (rk 12) xb239 db239 [lE] := by delta K;kernel_rfl
theorem qb239 : Q 77 (rk 12) xb239 zb239 := pK Hb239 Kb239
def db142 : D_ := c43_ [[(4,(.wrap .i64 (.add (.wrap .i64 (.add (.wrap .i64 (.add (.wrap .i64 (.add (.wrap .i64 (.add (.wrap .i64 (.add (.wrap .i64 (.add (.wrap .i64 (.add (.wrap .i64 (.add v1 n1)) n1)) n1)) n1)) n1)) n1)) n1)) n1)) n1))),(7,v10)]] [] w0 [(f136,true),(f125,false),(f116,false),(f28,false),(f0,false),(f2,false),(f19,false),(f13,false),(f14,false),(f15,false),(f58,false),(f3,false),(f20,false),(f16,false),(f17,false),(f12,false),(f57,false),(f18,false),(f10,false),(f9,false),(f11,false),(f55,false),(f7,false),(f6,false),(f8,false),(f54,false),(f4,false),(f5,false),(f42,false),(f1,false),(f40,false),(f32,false)]
theorem Hb142 : H xb142 zb142 db142 := by delta H;kernel_rfl
theorem Kb142 : K 68 m68 xb142 db142 [lE] := by delta K;kernel_rfl
theorem qb142 : Q 68 m68 xb142 zb142 := pK Hb142 Kb142
def db124 : D_ := c41_ [[(4,(.wrap .i64 (.add (.wrap .i64 (.add (.wrap .i64 (.add (.wrap .i64 (.add (.wrap .i64 (.add (.wrap .i64 (.add (.wrap .i64 (.add (.wrap .i64 (.add (.wrap .i64 (.add v1 n1)) n1)) n1)) n1)) n1)) n1)) n1)) n1)) n1))),(9,v12),(11,v11)]] [] w0 [(f209,true),(f160,false),(f134,false),(f28,false),(f0,false),(f2,false),(f19,false),(f13,false),(f14,false),(f15,false),(f58,false),(f3,false),(f20,false),(f16,false),(f17,false),(f12,false),(f57,false),(f18,false),(f10,false),(f9,false),(f11,false),(f55,false),(f7,false),(f6,false),(f8,false),(f54,false),(f4,false),(f5,false),(f42,false),(f1,false),(f40,false),(f32,false)]
theorem Hb124 : H xb124 zb124 db124 := by delta H;kernel_rfl
theorem Kb124 : K 65 m65 xb124 db124 [lE] := by delta K;kernel_rfl
theorem qb124 : Q 65 m65 xb124 zb124 := pK Hb124 Kb124
def db230 : D_ := c51_ [[(4,(.wrap .i64 (.add (.wrap .i64 (.add (.wrap .i64 (.add (.wrap .i64 (.add (.wrap .i64 (.add (.wrap .i64 (.add (.wrap .i64 (.add (.wrap .i64 (.add (.wrap .i64 (.add v4 n1)) n1)) n1)) n1)) n1)) n1)) n1)) n1)) n1))),(8,v10)]] [] w0 [(f161,true),(f135,false),(f124,false),(f22,false),(f21,false),(f23,false),(f27,false),(f25,false),(f24,false),(f26,false),(f0,false),(f2,false),(f19,false),(f13,false),(f14,false),(f15,false),(f3,false),(f20,false),(f16,false),(f17,false),(f12,false),(f18,false),(f10,false),(f9,false),(f11,false),(f7,false),(f6,false),(f8,false),(f4,false),(f5,false),(f1,false)]
theorem Hb230 : H xb230 zb230 db230 := by delta H;kernel_rfl
theorem Kb230 : K 76 (rk 9) xb230 db230 [lE] := by delta K;kernel_rfl
theorem qb230 : Q 76 (rk 9) xb230 zb230 := pK Hb230 Kb230
def d88 : D_ := L_ (.cut 94 q5_ [] w0) a51
theorem H88 : H g71 (t88.cfg) d88 := by delta H;kernel_rfl
theorem K88 : K 88 (rk 11) g71 d88 [lE] := by delta K;kernel_rfl
theorem q88 : Q 88 (rk 11) g71 t88.cfg := pK H88 K88
def d15 : D_ := K_ f140 (c12_ [[(5,(.wrap .i64 (.add (.wrap .i64 (.add (.wrap .i64 (.add (.wrap .i64 (.add (.wrap .i64 (.add (.wrap .i64 (.add (.wrap .i64 (.add (.wrap .i64 (.add v5 n1)) n1)) n1)) n1)) n1)) n1)) n1)) n1))),(17,v9)]] [] w0) (c13_ [[(15,v9),(16,v15),(17,v16)]] [] w0) a53
theorem H15 : H g15 (t15.cfg) d15 := by delta H;kernel_rfl
theorem K15 : K 15 (rk 21) g15 d15 [lE,lE] := by delta K;kernel_rfl
theorem q15 : Q 15 (rk 21) g15 t15.cfg := pK H15 K15
def db240 : D_ := c53_ [[(11,v11)]] [] w0 [(f240,true),(f22,false),(f21,false),(f23,false),(f27,false),(f25,false),(f24,false),(f26,false),(f0,false),(f2,false),(f19,false),(f13,false),(f14,false),(f15,false),(f3,false),(f20,false),(f16,false),(f17,false),(f12,false),(f18,false),(f10,false),(f9,false),(f11,false),(f7,false),(f6,false),(f8,false),(f4,false),(f5,false),(f1,false)]
theorem Hb240 : H xb240 zb240 db240 := by delta H;kernel_rfl
theorem Kb240 : K 79 (rk 13) xb240 db240 [lE] := by delta K;kernel_rfl
theorem qb240 : Q 79 (rk 13) xb240 zb240 := pK Hb240 Kb240
def d117 : D_ := L_ (.cut 123 q8_ [] w0) a172
theorem H117 : H g97 (t117.cfg) d117 := by delta H;kernel_rfl
theorem K117 : K 117 (rk 3) g97 d117 [lE] := by delta K;kernel_rfl
theorem q117 : Q 117 (rk 3) g97 t117.cfg := pK H117 K117
def d54 : D_ := K_ f28 (K_ f84 l49 (K_ f50 l49 (K_ f51 l49 (K_ f52 l49 (K_ f39 l49 (K_ f36 l49 (K_ f37 l49 (K_ f38 l49 (K_ f106 l49 (K_ f85 l49 l49)))))))))) (c37_ [[(0,v5),(1,v6),(2,v7),(3,v8),(4,v9),(5,v10),(6,v11),(7,v12)]] [] w0) a51
theorem H54 : H g53 (t54.cfg) d54 := by delta H;kernel_rfl
theorem K54 : K 54 m54 g53 d54 [lE,lE,lE,lE,lE,lE,lE,lE,lE,lE,lE,lE] := by delta K;kernel_rfl
theorem q54 : Q 54 m54 g53 t54.cfg := pK H54 K54
def d105 : D_ := L_ (.cut 111 q6_ [] w0) a172
theorem H105 : H g97 (t105.cfg) d105 := by delta H;kernel_rfl
theorem K105 : K 105 (rk 5) g97 d105 [lE] := by delta K;kernel_rfl
theorem q105 : Q 105 (rk 5) g97 t105.cfg := pK H105 K105
def d125 : D_ := L_ (.cut 134 q7_ [] w0) a173
theorem H125 : H g107 (t125.cfg) d125 := by delta H;kernel_rfl
theorem K125 : K 125 (rk 6) g107 d125 [lE] := by delta K;kernel_rfl
theorem q125 : Q 125 (rk 6) g107 t125.cfg := pK H125 K125
def d64 : D_ := K_ f28 (K_ f94 l59 (K_ f51 l59 (K_ f83 l59 (K_ f84 l59 (K_ f38 l59 (K_ f50 l59 (K_ f52 l59 (K_ f39 l59 (K_ f36 l59 (K_ f37 l59 (K_ f95 l59 (K_ f85 l59 l59)))))))))))) (L_ (.cut 69 q3_ [] w0)) a73
theorem H64 : H g55 (t64.cfg) d64 := by delta H;kernel_rfl
theorem K64 : K 64 m64 g55 d64 [lE,lE,lE,lE,lE,lE,lE,lE,lE,lE,lE,lE,lE,lE] := by delta K;kernel_rfl
theorem q64 : Q 64 m64 g55 t64.cfg := pK H64 K64
def d48 : D_ := L_ (.cut 60 q2_ [] w0) a72
theorem H48 : H g45 (t48.cfg) d48 := by delta H;kernel_rfl
theorem K48 : K 48 (rk 16) g45 d48 [lE] := by delta K;kernel_rfl
theorem q48 : Q 48 (rk 16) g45 t48.cfg := pK H48 K48
def db118 : D_ := K_ f94 l60 (K_ f51 l60 (K_ f83 l60 (K_ f84 l60 (K_ f39 l60 (K_ f50 l60 (K_ f52 l60 (K_ f95 l60 (K_ f36 l60 (K_ f37 l60 (K_ f38 l60 (K_ f85 l60 l60))))))))))) a74
theorem Hb118 : H xb118 zb118 db118 := by delta H;kernel_rfl
theorem Kb118 : K 65 m65 xb118 db118 [lE,lE,lE,lE,lE,lE,lE,lE,lE,lE,lE,lE,lE] := by delta K;kernel_rfl
theorem qb118 : Q 65 m65 xb118 zb118 := pK Hb118 Kb118
def db62 : D_ := K_ f99 (K_ f101 (K_ f103 (K_ f108 (K_ f122 (K_ f138 l39 l38) l32) l33) l34) l35) (c6_ [[(22,(.add v21 n1))]] [] []) [(f176,true),(f157,false),(f144,false),(f53,false),(f71,false),(f90,false),(f104,false),(f123,false),(f29,false),(f31,false),(f34,false),(f45,false),(f30,false),(f35,false),(f46,false),(f33,false),(f43,false),(f44,false),(f49,false)]
theorem Hb62 : H xb62 zb62 db62 := by delta H;kernel_rfl
theorem Kb62 : K 5 (rk 27) xb62 db62 [mT (sq 6 fun i => mO (.eql (.var (13+i)) (.lit 0)) false [sA,sP,sU [7]] cB) (lT [sA,sU [7],sP] [] [] .non),mT (sq 6 fun i => mO (.eql (.var (13+i)) (.lit 7)) false [sA] (cV [(56+64*i)])) (lT pY [(0,(cV [0])),(1,(cV [8])),(8,(cV [64])),(9,(cV [72])),(16,(cV [128])),(17,(cV [136])),(24,(cV [192])),(25,(cV [200])),(32,(cV [256])),(33,(cV [264])),(40,(cV [320])),(41,(cV [328]))] [] .non),mT (sq 6 fun i => mO (.eql (.var (13+i)) (.lit 6)) false [sA] (cV [(48+64*i)])) (lT pY [(0,(cV [0])),(1,(cV [8])),(7,(cV [56])),(8,(cV [64])),(9,(cV [72])),(15,(cV [120])),(16,(cV [128])),(17,(cV [136])),(23,(cV [184])),(24,(cV [192])),(25,(cV [200])),(31,(cV [248])),(32,(cV [256])),(33,(cV [264])),(39,(cV [312])),(40,(cV [320])),(41,(cV [328])),(47,(cV [376]))] [] .non),mT (sq 6 fun i => mO (.eql (.var (13+i)) (.lit 5)) false [sA] (cV [(40+64*i)])) (lT pY (ap [(0,(cV [0])),(1,(cV [8]))] (ap (sq 4 fun i => ((6+i),(cV [(48+8*i)]))) (ap (sq 4 fun i => ((14+i),(cV [(112+8*i)]))) (ap (sq 4 fun i => ((22+i),(cV [(176+8*i)]))) (ap (sq 4 fun i => ((30+i),(cV [(240+8*i)]))) (ap (sq 4 fun i => ((38+i),(cV [(304+8*i)]))) [(46,(cV [368])),(47,(cV [376]))])))))) [] .non),mT (sq 6 fun i => mO (.eql (.var (13+i)) (.lit 4)) false [sA] (cV [(32+64*i)])) (lT pY (ap [(0,(cV [0])),(1,(cV [8]))] (ap (sq 5 fun i => ((5+i),(cV [(40+8*i)]))) (ap (sq 5 fun i => ((13+i),(cV [(104+8*i)]))) (ap (sq 5 fun i => ((21+i),(cV [(168+8*i)]))) (ap (sq 5 fun i => ((29+i),(cV [(232+8*i)]))) (ap (sq 5 fun i => ((37+i),(cV [(296+8*i)]))) [(45,(cV [360])),(46,(cV [368])),(47,(cV [376]))])))))) [] .non),mT (sq 6 fun i => mO (.eql (.var (13+i)) (.lit 3)) false [sA] (cV [(24+64*i)])) (lT pY (ap [(0,(cV [0])),(1,(cV [8]))] (ap (sq 6 fun i => ((4+i),(cV [(32+8*i)]))) (ap (sq 6 fun i => ((12+i),(cV [(96+8*i)]))) (ap (sq 6 fun i => ((20+i),(cV [(160+8*i)]))) (ap (sq 6 fun i => ((28+i),(cV [(224+8*i)]))) (ap (sq 6 fun i => ((36+i),(cV [(288+8*i)]))) (sq 4 fun i => ((44+i),(cV [(352+8*i)]))))))))) [] .non),mT (sq 6 fun i => mO (.eql (.var (13+i)) (.rem (.var 7) (.lit 8))) false [sA,sP,sU [7]] cB) (lT pY (ap [(0,(cV [0])),(1,(cV [8]))] (ap (sq 7 fun i => ((3+i),(cV [(24+8*i)]))) (ap (sq 7 fun i => ((11+i),(cV [(88+8*i)]))) (ap (sq 7 fun i => ((19+i),(cV [(152+8*i)]))) (ap (sq 7 fun i => ((27+i),(cV [(216+8*i)]))) (ap (sq 7 fun i => ((35+i),(cV [(280+8*i)]))) (sq 5 fun i => ((43+i),(cV [(344+8*i)]))))))))) [] .non)] := by delta K;kernel_rfl
theorem qb62 : Q 5 (rk 27) xb62 zb62 := pK Hb62 Kb62
def db28 : D_ := K_ f127 (K_ f109 (K_ f98 l12 l11) l8) (c3_ [[(19,(.add v18 n1))]] [] []) [(f202,true),(f173,false),(f154,false),(f53,false),(f71,false),(f29,false),(f56,false)]
theorem Hb28 : H xb28 zb28 db28 := by delta H;kernel_rfl
theorem Kb28 : K 2 (rk 30) xb28 db28 [mT [mO (.eql (.var 13) (.lit 5)) false [sA,sP,sU [7]] cB,mO (.eql (.var 14) (.lit 5)) false [sA,sP,sU [7]] cB,mO (.eql (.var 15) (.lit 5)) false [sA,sP,sU [7]] cB] (lT [sA,sU [7],sP] [] [] .non),mT (sq 3 fun i => mO (.eql (.var (13+i)) (.lit 4)) false [sA] (cV [(32+64*i)])) (lT pY (ap [(0,(cV [0])),(1,(cV [8]))] (ap (sq 5 fun i => ((5+i),(cV [(40+8*i)]))) (ap (sq 5 fun i => ((13+i),(cV [(104+8*i)]))) [(21,(cV [168])),(22,(cV [176])),(23,(cV [184]))]))) [] .non),mT (sq 3 fun i => mO (.eql (.var (13+i)) (.lit 3)) false [sA] (cV [(24+64*i)])) (lT pY (ap [(0,(cV [0])),(1,(cV [8]))] (ap (sq 6 fun i => ((4+i),(cV [(32+8*i)]))) (ap (sq 6 fun i => ((12+i),(cV [(96+8*i)]))) (sq 4 fun i => ((20+i),(cV [(160+8*i)])))))) [] .non),mT (sq 3 fun i => mO (.eql (.var (13+i)) (.rem (.var 4) (.lit 8))) false [sA,sP,sU [7]] cB) (lT pY (ap [(0,(cV [0])),(1,(cV [8]))] (ap (sq 7 fun i => ((3+i),(cV [(24+8*i)]))) (ap (sq 7 fun i => ((11+i),(cV [(88+8*i)]))) (sq 5 fun i => ((19+i),(cV [(152+8*i)])))))) [] .non)] := by delta K;kernel_rfl
theorem qb28 : Q 2 (rk 30) xb28 zb28 := pK Hb28 Kb28
def db91 : D_ := c28_ [[(18,v12),(19,v18),(20,v19)]] [] w0 a64
theorem Hb91 : H xb91 zb91 db91 := by delta H;kernel_rfl
theorem Kb91 : K 33 (rk 18) xb91 db91 [lE] := by delta K;kernel_rfl
theorem qb91 : Q 33 (rk 18) xb91 zb91 := pK Hb91 Kb91

end
end Go.Proofs.Ytfimgfodoogibaa.queueOrder
