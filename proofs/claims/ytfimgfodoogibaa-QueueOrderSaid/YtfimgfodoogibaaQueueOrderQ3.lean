/- Parts of the plan for the law QueueOrder: each is one kernel run. -/
import Derived.Test.YtfimgfodoogibaaQueueOrderPlan
set_option linter.unusedVariables false
namespace Go.Proofs.Ytfimgfodoogibaa.queueOrder
open Go Go.Ev
noncomputable section

def db4 : D_ := c0_ [[(16,n1)]] [] [] [(f153,true),(f141,false),(f132,false)]
theorem qb4 : QQ 141 { rank := top } false xb4 zb4 := Cl.partK 1000000 db4 [p0] (by kernel_rfl) (by kernel_rfl) (by kernel_rfl)
def db144 : D_ := c43_ [[(4,(.wrap .i64 (.add (.wrap .i64 (.add (.wrap .i64 (.add (.wrap .i64 (.add (.wrap .i64 (.add (.wrap .i64 (.add (.wrap .i64 (.add (.wrap .i64 (.add (.wrap .i64 (.add (.wrap .i64 (.add v1 n1)) n1)) n1)) n1)) n1)) n1)) n1)) n1)) n1)) n1))),(7,v11),(10,v10)]] [] w0 [(f162,true),(f136,false),(f125,false),(f116,false),(f28,false),(f0,false),(f2,false),(f19,false),(f13,false),(f14,false),(f15,false),(f58,false),(f3,false),(f20,false),(f16,false),(f17,false),(f12,false),(f57,false),(f18,false),(f10,false),(f9,false),(f11,false),(f55,false),(f7,false),(f6,false),(f8,false),(f54,false),(f4,false),(f5,false),(f42,false),(f1,false),(f40,false),(f32,false)]
theorem Hb144 : H xb144 zb144 db144 := by delta H;kernel_rfl
theorem Kb144 : K 68 m68 xb144 db144 [lE] := by delta K;kernel_rfl
theorem qb144 : Q 68 m68 xb144 zb144 := pK Hb144 Kb144
def db267 : D_ := c59_ [[(4,(.wrap .i64 (.add (.wrap .i64 (.add (.wrap .i64 (.add (.wrap .i64 (.add (.wrap .i64 (.add (.wrap .i64 (.add (.wrap .i64 (.add (.wrap .i64 (.add (.wrap .i64 (.add (.wrap .i64 (.add v4 n1)) n1)) n1)) n1)) n1)) n1)) n1)) n1)) n1)) n1))),(10,v12),(12,v11)]] [] w0 [((.eql (.rem v3 n3) n1),false),(f242,false),(f22,false),(f21,false),(f23,false),(f27,false),(f25,false),(f24,false),(f26,false),(f0,false),(f2,false),(f19,false),(f13,false),(f14,false),(f15,false),(f3,false),(f20,false),(f16,false),(f17,false),(f12,false),(f18,false),(f10,false),(f9,false),(f11,false),(f7,false),(f6,false),(f8,false),(f4,false),(f5,false),(f1,false)]
theorem Hb267 : H xb267 zb267 db267 := by delta H;kernel_rfl
theorem Kb267 : K 87 (rk 9) xb267 db267 [lE] := by delta K;kernel_rfl
theorem qb267 : Q 87 (rk 9) xb267 zb267 := pK Hb267 Kb267
def d17 : D_ := K_ f140 (c14_ [[(5,(.lit 42))],o0,[(14,v5),(15,v6),(16,v7),(17,v8)]] [] w0) (L_ (.cut 22 q0_ [] w0)) a51
theorem H17 : H g8 (t17.cfg) d17 := by delta H;kernel_rfl
theorem K17 : K 17 (rk 21) g8 d17 [lE,lE] := by delta K;kernel_rfl
theorem q17 : Q 17 (rk 21) g8 t17.cfg := pK H17 K17
def db238 : D_ := c52_ [[(4,(.wrap .i64 (.add (.wrap .i64 (.add (.wrap .i64 (.add (.wrap .i64 (.add (.wrap .i64 (.add (.wrap .i64 (.add (.wrap .i64 (.add (.wrap .i64 (.add (.wrap .i64 (.add v4 n1)) n1)) n1)) n1)) n1)) n1)) n1)) n1)) n1))),(9,v11),(11,v10)]] [] w0 [((.eql (.rem v1 n4) n2),true),(f239,false),(f218,false),(f22,false),(f21,false),(f23,false),(f27,false),(f25,false),(f24,false),(f26,false),(f0,false),(f2,false),(f19,false),(f13,false),(f14,false),(f15,false),(f3,false),(f20,false),(f16,false),(f17,false),(f12,false),(f18,false),(f10,false),(f9,false),(f11,false),(f7,false),(f6,false),(f8,false),(f4,false),(f5,false),(f1,false)]
theorem Hb238 : H xb238 zb238 db238 := by delta H;kernel_rfl
theorem Kb238 : K 77 (rk 12) xb238 db238 [lE] := by delta K;kernel_rfl
theorem qb238 : Q 77 (rk 12) xb238 zb238 := pK Hb238 Kb238
def d92 : D_ := L_ (.cut 96 q5_ [] w0) a51
theorem H92 : H g71 (t92.cfg) d92 := by delta H;kernel_rfl
theorem K92 : K 92 (rk 11) g71 d92 [lE] := by delta K;kernel_rfl
theorem q92 : Q 92 (rk 11) g71 t92.cfg := pK H92 K92
def d19 : D_ := K_ f120 (c15_ [[(5,(.wrap .i64 (.add (.wrap .i64 (.add (.wrap .i64 (.add (.wrap .i64 (.add (.wrap .i64 (.add (.wrap .i64 (.add (.wrap .i64 (.add (.wrap .i64 (.add v5 n1)) n1)) n1)) n1)) n1)) n1)) n1)) n1))),(18,v10)]] [] w0) (c16_ [[(15,v10),(16,v15),(17,v16),(18,v17)]] [] w0) a54
theorem H19 : H g19 (t19.cfg) d19 := by delta H;kernel_rfl
theorem K19 : K 19 (rk 20) g19 d19 [lE,lE] := by delta K;kernel_rfl
theorem q19 : Q 19 (rk 20) g19 t19.cfg := pK H19 K19
def db244 : D_ := c54_ [[(10,v10)]] [] w0 [(f134,true),(f22,false),(f21,false),(f23,false),(f27,false),(f25,false),(f24,false),(f26,false),(f0,false),(f2,false),(f19,false),(f13,false),(f14,false),(f15,false),(f3,false),(f20,false),(f16,false),(f17,false),(f12,false),(f18,false),(f10,false),(f9,false),(f11,false),(f7,false),(f6,false),(f8,false),(f4,false),(f5,false),(f1,false)]
theorem Hb244 : H xb244 zb244 db244 := by delta H;kernel_rfl
theorem Kb244 : K 80 (rk 10) xb244 db244 [lE] := by delta K;kernel_rfl
theorem qb244 : Q 80 (rk 10) xb244 zb244 := pK Hb244 Kb244
def d121 : D_ := L_ (.cut 127 q8_ [] w0) a172
theorem H121 : H g97 (t121.cfg) d121 := by delta H;kernel_rfl
theorem K121 : K 121 (rk 3) g97 d121 [lE] := by delta K;kernel_rfl
theorem q121 : Q 121 (rk 3) g97 t121.cfg := pK H121 K121
def d78 : D_ := L_ (.cut 105 q4_ [] w0) a51
theorem H78 : H g71 (t78.cfg) d78 := by delta H;kernel_rfl
theorem K78 : K 78 (rk 6) g71 d78 [lE] := by delta K;kernel_rfl
theorem q78 : Q 78 (rk 6) g71 t78.cfg := pK H78 K78
def d100 : D_ := L_ (.cut 104 q6_ [] w0) a172
theorem H100 : H g97 (t100.cfg) d100 := by delta H;kernel_rfl
theorem K100 : K 100 (rk 7) g97 d100 [lE] := by delta K;kernel_rfl
theorem q100 : Q 100 (rk 7) g97 t100.cfg := pK H100 K100
def d115 : D_ := L_ (.cut 121 q6_ [] w0) a172
theorem H115 : H g97 (t115.cfg) d115 := by delta H;kernel_rfl
theorem K115 : K 115 (rk 4) g97 d115 [lE] := by delta K;kernel_rfl
theorem q115 : Q 115 (rk 4) g97 t115.cfg := pK H115 K115
def d132 : D_ := L_ (.cut 135 q9_ [] w0) a172
theorem H132 : H g97 (t132.cfg) d132 := by delta H;kernel_rfl
theorem K132 : K 132 (rk 2) g97 d132 [lE] := by delta K;kernel_rfl
theorem q132 : Q 132 (rk 2) g97 t132.cfg := pK H132 K132
def d50 : D_ := L_ (.cut 56 q2_ [] w0) a72
theorem H50 : H g45 (t50.cfg) d50 := by delta H;kernel_rfl
theorem K50 : K 50 (rk 14) g45 d50 [lE] := by delta K;kernel_rfl
theorem q50 : Q 50 (rk 14) g45 t50.cfg := pK H50 K50
def db136 : D_ := K_ f94 l63 (K_ f51 l63 (K_ f83 l63 (K_ f84 l63 (K_ f37 l63 (K_ f50 l63 (K_ f52 l63 (K_ f39 l63 (K_ f36 l63 (K_ f95 l63 (K_ f38 l63 (K_ f85 l63 l63))))))))))) a74
theorem Hb136 : H xb136 zb136 db136 := by delta H;kernel_rfl
theorem Kb136 : K 68 m68 xb136 db136 [lE,lE,lE,lE,lE,lE,lE,lE,lE,lE,lE,lE,lE] := by delta K;kernel_rfl
theorem qb136 : Q 68 m68 xb136 zb136 := pK Hb136 Kb136
def db66 : D_ := K_ f103 (K_ f108 (K_ f122 (K_ f138 (K_ f109 (K_ f98 l36 l37) l39) l38) l32) l33) (c6_ [[(24,(.add v23 n1))]] [] []) [(f231,true),(f205,false),(f176,false),(f157,false),(f144,false),(f53,false),(f71,false),(f90,false),(f104,false),(f123,false),(f29,false),(f31,false),(f34,false),(f45,false),(f30,false),(f35,false),(f46,false),(f33,false),(f43,false),(f44,false),(f49,false)]
theorem Hb66 : H xb66 zb66 db66 := by delta H;kernel_rfl
theorem Kb66 : K 5 (rk 27) xb66 db66 [mT (sq 6 fun i => mO (.eql (.var (13+i)) (.lit 2)) false [sA,sP,sU [7]] cB) (lT [sA,sU [7],sP] [] [] .non),mT (sq 6 fun i => mO (.eql (.var (13+i)) (.lit 1)) false [sA] (cV [(8+64*i)])) (lT pY [(2,(cV [16])),(3,(cV [24])),(10,(cV [80])),(11,(cV [88])),(18,(cV [144])),(19,(cV [152])),(26,(cV [208])),(27,(cV [216])),(34,(cV [272])),(35,(cV [280])),(42,(cV [336])),(43,(cV [344]))] [] .non),mT (sq 6 fun i => mO (.eql (.var (13+i)) (.lit 0)) false [sA] (cV [(0+64*i)])) (lT pY [(1,(cV [8])),(2,(cV [16])),(3,(cV [24])),(9,(cV [72])),(10,(cV [80])),(11,(cV [88])),(17,(cV [136])),(18,(cV [144])),(19,(cV [152])),(25,(cV [200])),(26,(cV [208])),(27,(cV [216])),(33,(cV [264])),(34,(cV [272])),(35,(cV [280])),(41,(cV [328])),(42,(cV [336])),(43,(cV [344]))] [] .non),mT (sq 6 fun i => mO (.eql (.var (13+i)) (.lit 7)) false [sA] (cV [(56+64*i)])) (lT pY (ap (sq 4 fun i => ((0+i),(cV [(0+8*i)]))) (ap (sq 4 fun i => ((8+i),(cV [(64+8*i)]))) (ap (sq 4 fun i => ((16+i),(cV [(128+8*i)]))) (ap (sq 4 fun i => ((24+i),(cV [(192+8*i)]))) (ap (sq 4 fun i => ((32+i),(cV [(256+8*i)]))) (sq 4 fun i => ((40+i),(cV [(320+8*i)])))))))) [] .non),mT (sq 6 fun i => mO (.eql (.var (13+i)) (.lit 6)) false [sA] (cV [(48+64*i)])) (lT pY (ap (sq 4 fun i => ((0+i),(cV [(0+8*i)]))) (ap (sq 5 fun i => ((7+i),(cV [(56+8*i)]))) (ap (sq 5 fun i => ((15+i),(cV [(120+8*i)]))) (ap (sq 5 fun i => ((23+i),(cV [(184+8*i)]))) (ap (sq 5 fun i => ((31+i),(cV [(248+8*i)]))) (ap (sq 5 fun i => ((39+i),(cV [(312+8*i)]))) [(47,(cV [376]))])))))) [] .non),mT (sq 6 fun i => mO (.eql (.var (13+i)) (.lit 5)) false [sA] (cV [(40+64*i)])) (lT pY (ap (sq 4 fun i => ((0+i),(cV [(0+8*i)]))) (ap (sq 6 fun i => ((6+i),(cV [(48+8*i)]))) (ap (sq 6 fun i => ((14+i),(cV [(112+8*i)]))) (ap (sq 6 fun i => ((22+i),(cV [(176+8*i)]))) (ap (sq 6 fun i => ((30+i),(cV [(240+8*i)]))) (ap (sq 6 fun i => ((38+i),(cV [(304+8*i)]))) [(46,(cV [368])),(47,(cV [376]))])))))) [] .non),mT (sq 6 fun i => mO (.eql (.var (13+i)) (.rem (.var 7) (.lit 8))) false [sA,sP,sU [7]] cB) (lT pY (ap (sq 4 fun i => ((0+i),(cV [(0+8*i)]))) (ap (sq 7 fun i => ((5+i),(cV [(40+8*i)]))) (ap (sq 7 fun i => ((13+i),(cV [(104+8*i)]))) (ap (sq 7 fun i => ((21+i),(cV [(168+8*i)]))) (ap (sq 7 fun i => ((29+i),(cV [(232+8*i)]))) (ap (sq 7 fun i => ((37+i),(cV [(296+8*i)]))) [(45,(cV [360])),(46,(cV [368])),(47,(cV [376]))])))))) [] .non)] := by delta K;kernel_rfl
theorem qb66 : Q 5 (rk 27) xb66 zb66 := pK Hb66 Kb66
def db16 : D_ := K_ (.lss n0 v15) (K_ f223 l0 l1) (c2_ [[(16,(.add v15 n1))]] [] []) [(f172,true),(f53,false),(f86,false)]
theorem Hb16 : H xb16 zb16 db16 := by delta H;kernel_rfl
theorem Kb16 : K 1 (rk 31) xb16 db16 [mT [mO (.eql (.var 13) (.lit 2)) false [sA,sP,sU [7]] cB,mO (.eql (.var 14) (.lit 2)) false [sA,sP,sU [7]] cB] (lT [sA,sU [7],sP] [] [] .non),mT [mO (.eql (.var 13) (.lit 1)) false [sA] (cV [8]),mO (.eql (.var 14) (.lit 1)) false [sA] (cV [72])] (lT pY (ap (sq 6 fun i => ((2+i),(cV [(16+8*i)]))) (sq 6 fun i => ((10+i),(cV [(80+8*i)])))) [] .non),mT [mO (.eql (.var 13) (.rem (.var 3) (.lit 8))) false [sA,sP,sU [7]] cB,mO (.eql (.var 14) (.rem (.var 3) (.lit 8))) false [sA,sP,sU [7]] cB] (lT pY (ap (sq 7 fun i => ((1+i),(cV [(8+8*i)]))) (sq 7 fun i => ((9+i),(cV [(72+8*i)])))) [] .non)] := by delta K;kernel_rfl
theorem qb16 : Q 1 (rk 31) xb16 zb16 := pK Hb16 Kb16
def db20 : D_ := K_ f167 (K_ f127 l3 l2) (c2_ [[(18,(.add v17 n1))]] [] []) [(f227,true),(f201,false),(f172,false),(f53,false),(f86,false)]
theorem Hb20 : H xb20 zb20 db20 := by delta H;kernel_rfl
theorem Kb20 : K 1 (rk 31) xb20 db20 [mT [mO (.eql (.var 13) (.lit 4)) false [sA,sP,sU [7]] cB,mO (.eql (.var 14) (.lit 4)) false [sA,sP,sU [7]] cB] (lT [sA,sU [7],sP] [] [] .non),mT [mO (.eql (.var 13) (.lit 3)) false [sA] (cV [24]),mO (.eql (.var 14) (.lit 3)) false [sA] (cV [88])] (lT pY (ap [(0,(cV [0])),(1,(cV [8]))] (ap (sq 6 fun i => ((4+i),(cV [(32+8*i)]))) (sq 4 fun i => ((12+i),(cV [(96+8*i)]))))) [] .non),mT [mO (.eql (.var 13) (.rem (.var 3) (.lit 8))) false [sA,sP,sU [7]] cB,mO (.eql (.var 14) (.rem (.var 3) (.lit 8))) false [sA,sP,sU [7]] cB] (lT pY (ap [(0,(cV [0])),(1,(cV [8]))] (ap (sq 7 fun i => ((3+i),(cV [(24+8*i)]))) (sq 5 fun i => ((11+i),(cV [(88+8*i)]))))) [] .non)] := by delta K;kernel_rfl
theorem qb20 : Q 1 (rk 31) xb20 zb20 := pK Hb20 Kb20

end
end Go.Proofs.Ytfimgfodoogibaa.queueOrder
