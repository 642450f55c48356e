/- Parts of the plan for the law QueueOrder: each is one kernel run. -/
import Derived.Test.YtfimgfodoogibaaQueueOrderPlan
set_option linter.unusedVariables false
namespace Go.Proofs.Ytfimgfodoogibaa.queueOrder
open Go Go.Ev
noncomputable section

def db177 : D_ := c45_ [[(4,(.lit 104)),(5,v12),(9,v8),(10,v9),(11,v10),(12,v11)]] [] w0 [((.eql (.rem v1 n8) n6),false),(f234,false),(f213,false),(f179,false),(f164,false),(f150,false),(f137,false),(f28,false),(f22,false),(f21,false),(f23,false),(f27,false),(f25,false),(f24,false),(f26,false),(f0,false),(f2,false),(f19,false),(f13,false),(f14,false),(f15,false),(f3,false),(f20,false),(f16,false),(f17,false),(f12,false),(f18,false),(f10,false),(f9,false),(f11,false),(f7,false),(f6,false),(f8,false),(f4,false),(f5,false),(f1,false)]
theorem Hb177 : H xb177 zb177 db177 := by delta H;kernel_rfl
theorem Kb177 : K 70 m70 xb177 db177 [lE] := by delta K;kernel_rfl
theorem qb177 : Q 70 m70 xb177 zb177 := pK Hb177 Kb177
def db209 : D_ := c48_ [[(4,(.wrap .i64 (.add (.wrap .i64 (.add (.wrap .i64 (.add (.wrap .i64 (.add (.wrap .i64 (.add (.wrap .i64 (.add (.wrap .i64 (.add (.wrap .i64 (.add (.wrap .i64 (.add (.wrap .i64 (.add (.wrap .i64 (.add (.wrap .i64 (.add (.wrap .i64 (.add v4 n1)) n1)) n1)) n1)) n1)) n1)) n1)) n1)) n1)) n1)) n1)) n1)) n1))),(7,v12)],o9] [] w0 [((.eql (.rem v1 n6) n4),false),(f236,false),(f215,false),(f181,false),(f166,false),(f22,false),(f21,false),(f23,false),(f27,false),(f25,false),(f24,false),(f26,false),(f0,false),(f2,false),(f19,false),(f13,false),(f14,false),(f15,false),(f3,false),(f20,false),(f16,false),(f17,false),(f12,false),(f18,false),(f10,false),(f9,false),(f11,false),(f7,false),(f6,false),(f8,false),(f4,false),(f5,false),(f1,false)]
theorem Hb209 : H xb209 zb209 db209 := by delta H;kernel_rfl
theorem Kb209 : K 73 (rk 10) xb209 db209 [lE] := by delta K;kernel_rfl
theorem qb209 : Q 73 (rk 10) xb209 zb209 := pK Hb209 Kb209
def db217 : D_ := c49_ [[(4,(.wrap .i64 (.add (.wrap .i64 (.add (.wrap .i64 (.add (.wrap .i64 (.add (.wrap .i64 (.add (.wrap .i64 (.add (.wrap .i64 (.add (.wrap .i64 (.add (.wrap .i64 (.add (.wrap .i64 (.add (.wrap .i64 (.add (.wrap .i64 (.add v4 n1)) n1)) n1)) n1)) n1)) n1)) n1)) n1)) n1)) n1)) n1)) n1))),(8,v12)],o11] [] w0 [((.eql (.rem v3 n5) n3),false),(f237,false),(f216,false),(f182,false),(f22,false),(f21,false),(f23,false),(f27,false),(f25,false),(f24,false),(f26,false),(f0,false),(f2,false),(f19,false),(f13,false),(f14,false),(f15,false),(f3,false),(f20,false),(f16,false),(f17,false),(f12,false),(f18,false),(f10,false),(f9,false),(f11,false),(f7,false),(f6,false),(f8,false),(f4,false),(f5,false),(f1,false)]
theorem Hb217 : H xb217 zb217 db217 := by delta H;kernel_rfl
theorem Kb217 : K 74 (rk 7) xb217 db217 [lE] := by delta K;kernel_rfl
theorem qb217 : Q 74 (rk 7) xb217 zb217 := pK Hb217 Kb217
def db88 : D_ := c23_ [[(5,(.lit 44))],o0,[(14,v5),(15,v6),(16,v7),(17,v8),(18,v9),(19,v10)]] [] w0 [(f102,true),(f22,false),(f21,false),(f23,false),(f27,false),(f25,false),(f24,false),(f26,false),(f0,false),(f2,false),(f19,false),(f13,false),(f14,false),(f15,false),(f3,false),(f20,false),(f16,false),(f17,false),(f12,false),(f18,false),(f10,false),(f9,false),(f11,false),(f7,false),(f6,false),(f8,false),(f4,false),(f5,false),(f1,false)]
theorem Hb88 : H xb88 zb88 db88 := by delta H;kernel_rfl
theorem Kb88 : K 28 (rk 18) xb88 db88 [lE] := by delta K;kernel_rfl
theorem qb88 : Q 28 (rk 18) xb88 zb88 := pK Hb88 Kb88
def db84 : D_ := c18_ [[(5,(.lit 43))],o0,[(14,v5),(15,v6),(16,v7),(17,v8),(18,v9)]] [] w0 [(f120,true),(f22,false),(f21,false),(f23,false),(f27,false),(f25,false),(f24,false),(f26,false),(f0,false),(f2,false),(f19,false),(f13,false),(f14,false),(f15,false),(f3,false),(f20,false),(f16,false),(f17,false),(f12,false),(f18,false),(f10,false),(f9,false),(f11,false),(f7,false),(f6,false),(f8,false),(f4,false),(f5,false),(f1,false)]
theorem Hb84 : H xb84 zb84 db84 := by delta H;kernel_rfl
theorem Kb84 : K 22 (rk 20) xb84 db84 [lE] := by delta K;kernel_rfl
theorem qb84 : Q 22 (rk 20) xb84 zb84 := pK Hb84 Kb84
def d21 : D_ := K_ f120 (c17_ [[(5,(.wrap .i64 (.add (.wrap .i64 (.add (.wrap .i64 (.add (.wrap .i64 (.add (.wrap .i64 (.add (.wrap .i64 (.add (.wrap .i64 (.add (.wrap .i64 (.add (.wrap .i64 (.add (.wrap .i64 (.add v5 n1)) n1)) n1)) n1)) n1)) n1)) n1)) n1)) n1)) n1))),(18,v10)]] [] w0) (c18_ [[(17,v10),(18,v17)]] [] w0) a54
theorem H21 : H g19 (t21.cfg) d21 := by delta H;kernel_rfl
theorem K21 : K 21 (rk 20) g19 d21 [lE,lE] := by delta K;kernel_rfl
theorem q21 : Q 21 (rk 20) g19 t21.cfg := pK H21 K21
def db182 : D_ := c46_ [[(4,(.wrap .i64 (.add (.wrap .i64 (.add (.wrap .i64 (.add (.wrap .i64 (.add (.wrap .i64 (.add (.wrap .i64 (.add (.wrap .i64 (.add (.wrap .i64 (.add (.wrap .i64 (.add v4 n1)) n1)) n1)) n1)) n1)) n1)) n1)) n1)) n1))),(6,v8),(9,v9)]] [] w0 [(f180,true),(f165,false),(f151,false),(f22,false),(f21,false),(f23,false),(f27,false),(f25,false),(f24,false),(f26,false),(f0,false),(f2,false),(f19,false),(f13,false),(f14,false),(f15,false),(f3,false),(f20,false),(f16,false),(f17,false),(f12,false),(f18,false),(f10,false),(f9,false),(f11,false),(f7,false),(f6,false),(f8,false),(f4,false),(f5,false),(f1,false)]
theorem Hb182 : H xb182 zb182 db182 := by delta H;kernel_rfl
theorem Kb182 : K 71 (rk 9) xb182 db182 [lE] := by delta K;kernel_rfl
theorem qb182 : Q 71 (rk 9) xb182 zb182 := pK Hb182 Kb182
def db116 : D_ := c40_ [[(4,(.wrap .i64 (.add (.wrap .i64 (.add (.wrap .i64 (.add (.wrap .i64 (.add (.wrap .i64 (.add (.wrap .i64 (.add (.wrap .i64 (.add (.wrap .i64 (.add v1 n1)) n1)) n1)) n1)) n1)) n1)) n1)) n1))),(10,v12)]] [] w0 [(f208,true),(f159,false),(f28,false),(f0,false),(f2,false),(f19,false),(f13,false),(f14,false),(f15,false),(f58,false),(f3,false),(f20,false),(f16,false),(f17,false),(f12,false),(f57,false),(f18,false),(f10,false),(f9,false),(f11,false),(f55,false),(f7,false),(f6,false),(f8,false),(f54,false),(f4,false),(f5,false),(f42,false),(f1,false),(f40,false),(f32,false)]
theorem Hb116 : H xb116 zb116 db116 := by delta H;kernel_rfl
theorem Kb116 : K 62 m62 xb116 db116 [lE] := by delta K;kernel_rfl
theorem qb116 : Q 62 m62 xb116 zb116 := pK Hb116 Kb116
def db236 : D_ := c52_ [[(4,(.wrap .i64 (.add (.wrap .i64 (.add (.wrap .i64 (.add (.wrap .i64 (.add (.wrap .i64 (.add (.wrap .i64 (.add (.wrap .i64 (.add (.wrap .i64 (.add v4 n1)) n1)) n1)) n1)) n1)) n1)) n1)) n1))),(9,v10)]] [] w0 [(f239,true),(f218,false),(f22,false),(f21,false),(f23,false),(f27,false),(f25,false),(f24,false),(f26,false),(f0,false),(f2,false),(f19,false),(f13,false),(f14,false),(f15,false),(f3,false),(f20,false),(f16,false),(f17,false),(f12,false),(f18,false),(f10,false),(f9,false),(f11,false),(f7,false),(f6,false),(f8,false),(f4,false),(f5,false),(f1,false)]
theorem Hb236 : H xb236 zb236 db236 := by delta H;kernel_rfl
theorem Kb236 : K 77 (rk 12) xb236 db236 [lE] := by delta K;kernel_rfl
theorem qb236 : Q 77 (rk 12) xb236 zb236 := pK Hb236 Kb236
def db178 : D_ := c46_ [[(7,v7),(8,v8),(9,v9)]] [] w0 [(f151,true),(f22,false),(f21,false),(f23,false),(f27,false),(f25,false),(f24,false),(f26,false),(f0,false),(f2,false),(f19,false),(f13,false),(f14,false),(f15,false),(f3,false),(f20,false),(f16,false),(f17,false),(f12,false),(f18,false),(f10,false),(f9,false),(f11,false),(f7,false),(f6,false),(f8,false),(f4,false),(f5,false),(f1,false)]
theorem Hb178 : H xb178 zb178 db178 := by delta H;kernel_rfl
theorem Kb178 : K 71 (rk 9) xb178 db178 [lE] := by delta K;kernel_rfl
theorem qb178 : Q 71 (rk 9) xb178 zb178 := pK Hb178 Kb178
def db252 : D_ := c56_ [[(10,v10)]] [] w0 [(f219,true),(f22,false),(f21,false),(f23,false),(f27,false),(f25,false),(f24,false),(f26,false),(f0,false),(f2,false),(f19,false),(f13,false),(f14,false),(f15,false),(f3,false),(f20,false),(f16,false),(f17,false),(f12,false),(f18,false),(f10,false),(f9,false),(f11,false),(f7,false),(f6,false),(f8,false),(f4,false),(f5,false),(f1,false)]
theorem Hb252 : H xb252 zb252 db252 := by delta H;kernel_rfl
theorem Kb252 : K 82 (rk 8) xb252 db252 [lE] := by delta K;kernel_rfl
theorem qb252 : Q 82 (rk 8) xb252 zb252 := pK Hb252 Kb252
def d124 : D_ := L_ (.cut 133 q8_ [] w0) a172
theorem H124 : H g97 (t124.cfg) d124 := by delta H;kernel_rfl
theorem K124 : K 124 (rk 3) g97 d124 [lE] := by delta K;kernel_rfl
theorem q124 : Q 124 (rk 3) g97 t124.cfg := pK H124 K124
def d106 : D_ := L_ (.cut 112 q6_ [] w0) a172
theorem H106 : H g97 (t106.cfg) d106 := by delta H;kernel_rfl
theorem K106 : K 106 (rk 6) g97 d106 [lE] := by delta K;kernel_rfl
theorem q106 : Q 106 (rk 6) g97 t106.cfg := pK H106 K106
def d134 : D_ := L_ (.cut 137 q7_ [] w0) a173
theorem H134 : H g107 (t134.cfg) d134 := by delta H;kernel_rfl
theorem K134 : K 134 (rk 5) g107 d134 [lE] := by delta K;kernel_rfl
theorem q134 : Q 134 (rk 5) g107 t134.cfg := pK H134 K134
def d66 : D_ := K_ f28 (K_ f94 l61 (K_ f50 l61 (K_ f51 l61 (K_ f84 l61 (K_ f85 l61 (K_ f52 l61 (K_ f39 l61 (K_ f36 l61 (K_ f37 l61 (K_ f38 l61 (K_ f106 l61 (K_ f95 l61 l61)))))))))))) (L_ (.cut 70 q1_ [] w0)) a51
theorem H66 : H g53 (t66.cfg) d66 := by delta H;kernel_rfl
theorem K66 : K 66 m66 g53 d66 [lE,lE,lE,lE,lE,lE,lE,lE,lE,lE,lE,lE,lE,lE] := by delta K;kernel_rfl
theorem q66 : Q 66 m66 g53 t66.cfg := pK H66 K66
def d52 : D_ := L_ (.cut 53 q1_ [] w0) a51
theorem H52 : H g8 (t52.cfg) d52 := by delta H;kernel_rfl
theorem K52 : K 52 (rk 12) g8 d52 [lE] := by delta K;kernel_rfl
theorem q52 : Q 52 (rk 12) g8 t52.cfg := pK H52 K52
def db162 : D_ := K_ f94 l65 (K_ f50 l65 (K_ f51 l65 (K_ f84 l65 (K_ f85 l65 (K_ f52 l65 (K_ f39 l65 (K_ f36 l65 (K_ f37 l65 (K_ f38 l65 (K_ f106 l65 (K_ f95 l65 l65))))))))))) [(f28,true),(f22,false),(f21,false),(f23,false),(f27,false),(f25,false),(f24,false),(f26,false),(f0,false),(f2,false),(f19,false),(f13,false),(f14,false),(f15,false),(f3,false),(f20,false),(f16,false),(f17,false),(f12,false),(f18,false),(f10,false),(f9,false),(f11,false),(f7,false),(f6,false),(f8,false),(f4,false),(f5,false),(f1,false)]
theorem Hb162 : H xb162 zb162 db162 := by delta H;kernel_rfl
theorem Kb162 : K 70 m70 xb162 db162 [lE,lE,lE,lE,lE,lE,lE,lE,lE,lE,lE,lE,lE] := by delta K;kernel_rfl
theorem qb162 : Q 70 m70 xb162 zb162 := pK Hb162 Kb162
def db50 : D_ := K_ f98 (K_ f99 (K_ f101 (K_ f103 (K_ f108 l30 l29) l24) l25) l26) (c5_ [[(21,(.add v20 n1))]] [] []) [(f175,true),(f156,false),(f143,false),(f53,false),(f71,false),(f90,false),(f104,false),(f29,false),(f31,false),(f34,false),(f30,false),(f35,false),(f33,false),(f48,false)]
theorem Hb50 : H xb50 zb50 db50 := by delta H;kernel_rfl
theorem Kb50 : K 4 (rk 28) xb50 db50 [mT (sq 5 fun i => mO (.eql (.var (13+i)) (.lit 7)) false [sA,sP,sU [7]] cB) (lT [sA,sU [7],sP] [] [] .non),mT (sq 5 fun i => mO (.eql (.var (13+i)) (.lit 6)) false [sA] (cV [(48+64*i)])) (lT pY [(0,(cV [0])),(1,(cV [8])),(7,(cV [56])),(8,(cV [64])),(9,(cV [72])),(15,(cV [120])),(16,(cV [128])),(17,(cV [136])),(23,(cV [184])),(24,(cV [192])),(25,(cV [200])),(31,(cV [248])),(32,(cV [256])),(33,(cV [264])),(39,(cV [312]))] [] .non),mT (sq 5 fun i => mO (.eql (.var (13+i)) (.lit 5)) false [sA] (cV [(40+64*i)])) (lT pY (ap [(0,(cV [0])),(1,(cV [8]))] (ap (sq 4 fun i => ((6+i),(cV [(48+8*i)]))) (ap (sq 4 fun i => ((14+i),(cV [(112+8*i)]))) (ap (sq 4 fun i => ((22+i),(cV [(176+8*i)]))) (ap (sq 4 fun i => ((30+i),(cV [(240+8*i)]))) [(38,(cV [304])),(39,(cV [312]))]))))) [] .non),mT (sq 5 fun i => mO (.eql (.var (13+i)) (.lit 4)) false [sA] (cV [(32+64*i)])) (lT pY (ap [(0,(cV [0])),(1,(cV [8]))] (ap (sq 5 fun i => ((5+i),(cV [(40+8*i)]))) (ap (sq 5 fun i => ((13+i),(cV [(104+8*i)]))) (ap (sq 5 fun i => ((21+i),(cV [(168+8*i)]))) (ap (sq 5 fun i => ((29+i),(cV [(232+8*i)]))) [(37,(cV [296])),(38,(cV [304])),(39,(cV [312]))]))))) [] .non),mT (sq 5 fun i => mO (.eql (.var (13+i)) (.lit 3)) false [sA] (cV [(24+64*i)])) (lT pY (ap [(0,(cV [0])),(1,(cV [8]))] (ap (sq 6 fun i => ((4+i),(cV [(32+8*i)]))) (ap (sq 6 fun i => ((12+i),(cV [(96+8*i)]))) (ap (sq 6 fun i => ((20+i),(cV [(160+8*i)]))) (ap (sq 6 fun i => ((28+i),(cV [(224+8*i)]))) (sq 4 fun i => ((36+i),(cV [(288+8*i)])))))))) [] .non),mT (sq 5 fun i => mO (.eql (.var (13+i)) (.rem (.var 6) (.lit 8))) false [sA,sP,sU [7]] cB) (lT pY (ap [(0,(cV [0])),(1,(cV [8]))] (ap (sq 7 fun i => ((3+i),(cV [(24+8*i)]))) (ap (sq 7 fun i => ((11+i),(cV [(88+8*i)]))) (ap (sq 7 fun i => ((19+i),(cV [(152+8*i)]))) (ap (sq 7 fun i => ((27+i),(cV [(216+8*i)]))) (sq 5 fun i => ((35+i),(cV [(280+8*i)])))))))) [] .non)] := by delta K;kernel_rfl
theorem qb50 : Q 4 (rk 28) xb50 zb50 := pK Hb50 Kb50
def db26 : D_ := K_ f167 (K_ f127 (K_ f109 l11 l8) l9) (c3_ [[(18,(.add v17 n1))]] [] []) [(f173,true),(f154,false),(f53,false),(f71,false),(f29,false),(f56,false)]
theorem Hb26 : H xb26 zb26 db26 := by delta H;kernel_rfl
theorem Kb26 : K 2 (rk 30) xb26 db26 [mT [mO (.eql (.var 13) (.lit 4)) false [sA,sP,sU [7]] cB,mO (.eql (.var 14) (.lit 4)) false [sA,sP,sU [7]] cB,mO (.eql (.var 15) (.lit 4)) false [sA,sP,sU [7]] cB] (lT [sA,sU [7],sP] [] [] .non),mT (sq 3 fun i => mO (.eql (.var (13+i)) (.lit 3)) false [sA] (cV [(24+64*i)])) (lT pY (ap [(0,(cV [0]))] (ap (sq 5 fun i => ((4+i),(cV [(32+8*i)]))) (ap (sq 5 fun i => ((12+i),(cV [(96+8*i)]))) (sq 4 fun i => ((20+i),(cV [(160+8*i)])))))) [] .non),mT (sq 3 fun i => mO (.eql (.var (13+i)) (.lit 2)) false [sA] (cV [(16+64*i)])) (lT pY (ap [(0,(cV [0]))] (ap (sq 6 fun i => ((3+i),(cV [(24+8*i)]))) (ap (sq 6 fun i => ((11+i),(cV [(88+8*i)]))) (sq 5 fun i => ((19+i),(cV [(152+8*i)])))))) [] .non),mT (sq 3 fun i => mO (.eql (.var (13+i)) (.rem (.var 4) (.lit 8))) false [sA,sP,sU [7]] cB) (lT pY (ap [(0,(cV [0]))] (ap (sq 7 fun i => ((2+i),(cV [(16+8*i)]))) (ap (sq 7 fun i => ((10+i),(cV [(80+8*i)]))) (sq 6 fun i => ((18+i),(cV [(144+8*i)])))))) [] .non)] := by delta K;kernel_rfl
theorem qb26 : Q 2 (rk 30) xb26 zb26 := pK Hb26 Kb26
def db85 : D_ := L_ (.cut 28 q0_ [] w0) [(f120,false),(f22,false),(f21,false),(f23,false),(f27,false),(f25,false),(f24,false),(f26,false),(f0,false),(f2,false),(f19,false),(f13,false),(f14,false),(f15,false),(f3,false),(f20,false),(f16,false),(f17,false),(f12,false),(f18,false),(f10,false),(f9,false),(f11,false),(f7,false),(f6,false),(f8,false),(f4,false),(f5,false),(f1,false)]
theorem Hb85 : H xb85 zb85 db85 := by delta H;kernel_rfl
theorem Kb85 : K 22 (rk 20) xb85 db85 [lE] := by delta K;kernel_rfl
theorem qb85 : Q 22 (rk 20) xb85 zb85 := pK Hb85 Kb85

end
end Go.Proofs.Ytfimgfodoogibaa.queueOrder
