/- Parts of the plan for the law QueueOrder: each is one kernel run. -/
import Derived.Test.YtfimgfodoogibaaQueueOrderPlan
set_option linter.unusedVariables false
namespace Go.Proofs.Ytfimgfodoogibaa.queueOrder
open Go Go.Ev
noncomputable section

def db0 : D_ := c0_ [[(14,n1)]] [] [] [(f132,true)]
theorem qb0 : QQ 141 { rank := top } false xb0 zb0 := Cl.partK 1000000 db0 [p0] (by kernel_rfl) (by kernel_rfl) (by kernel_rfl)
def db170 : D_ := c45_ [[(4,(.lit 99)),(5,v8)]] [] w0 [(f179,true),(f164,false),(f150,false),(f137,false),(f28,false),(f22,false),(f21,false),(f23,false),(f27,false),(f25,false),(f24,false),(f26,false),(f0,false),(f2,false),(f19,false),(f13,false),(f14,false),(f15,false),(f3,false),(f20,false),(f16,false),(f17,false),(f12,false),(f18,false),(f10,false),(f9,false),(f11,false),(f7,false),(f6,false),(f8,false),(f4,false),(f5,false),(f1,false)]
theorem Hb170 : H xb170 zb170 db170 := by delta H;kernel_rfl
theorem Kb170 : K 70 m70 xb170 db170 [lE] := by delta K;kernel_rfl
theorem qb170 : Q 70 m70 xb170 zb170 := pK Hb170 Kb170
def db132 : D_ := c42_ [[(4,(.wrap .i64 (.add (.wrap .i64 (.add (.wrap .i64 (.add (.wrap .i64 (.add (.wrap .i64 (.add (.wrap .i64 (.add (.wrap .i64 (.add (.wrap .i64 (.add (.wrap .i64 (.add v1 n1)) n1)) n1)) n1)) n1)) n1)) n1)) n1)) n1))),(8,v11)]] [] w0 [(f161,true),(f135,false),(f124,false),(f28,false),(f0,false),(f2,false),(f19,false),(f13,false),(f14,false),(f15,false),(f58,false),(f3,false),(f20,false),(f16,false),(f17,false),(f12,false),(f57,false),(f18,false),(f10,false),(f9,false),(f11,false),(f55,false),(f7,false),(f6,false),(f8,false),(f54,false),(f4,false),(f5,false),(f42,false),(f1,false),(f40,false),(f32,false)]
theorem Hb132 : H xb132 zb132 db132 := by delta H;kernel_rfl
theorem Kb132 : K 67 m67 xb132 db132 [lE] := by delta K;kernel_rfl
theorem qb132 : Q 67 m67 xb132 zb132 := pK Hb132 Kb132
def db111 : D_ := c39_ [[(4,(.wrap .i64 (.add (.wrap .i64 (.add (.wrap .i64 (.add (.wrap .i64 (.add (.wrap .i64 (.add (.wrap .i64 (.add (.wrap .i64 (.add (.wrap .i64 (.add (.wrap .i64 (.add v1 n1)) n1)) n1)) n1)) n1)) n1)) n1)) n1)) n1))),(11,v13),(12,v12)]] [] w0 [(f207,false),(f28,false),(f0,false),(f2,false),(f19,false),(f13,false),(f14,false),(f15,false),(f58,false),(f3,false),(f20,false),(f16,false),(f17,false),(f12,false),(f57,false),(f18,false),(f10,false),(f9,false),(f11,false),(f55,false),(f7,false),(f6,false),(f8,false),(f54,false),(f4,false),(f5,false),(f42,false),(f1,false),(f40,false),(f32,false)]
theorem Hb111 : H xb111 zb111 db111 := by delta H;kernel_rfl
theorem Kb111 : K 59 m59 xb111 db111 [lE] := by delta K;kernel_rfl
theorem qb111 : Q 59 m59 xb111 zb111 := pK Hb111 Kb111
def db248 : D_ := c54_ [[(4,(.wrap .i64 (.add (.wrap .i64 (.add (.wrap .i64 (.add (.wrap .i64 (.add (.wrap .i64 (.add (.wrap .i64 (.add (.wrap .i64 (.add (.wrap .i64 (.add (.wrap .i64 (.add v4 n1)) n1)) n1)) n1)) n1)) n1)) n1)) n1)) n1))),(9,v11),(11,v10)]] [] w0 [(f209,true),(f160,false),(f134,false),(f22,false),(f21,false),(f23,false),(f27,false),(f25,false),(f24,false),(f26,false),(f0,false),(f2,false),(f19,false),(f13,false),(f14,false),(f15,false),(f3,false),(f20,false),(f16,false),(f17,false),(f12,false),(f18,false),(f10,false),(f9,false),(f11,false),(f7,false),(f6,false),(f8,false),(f4,false),(f5,false),(f1,false)]
theorem Hb248 : H xb248 zb248 db248 := by delta H;kernel_rfl
theorem Kb248 : K 80 (rk 10) xb248 db248 [lE] := by delta K;kernel_rfl
theorem qb248 : Q 80 (rk 10) xb248 zb248 := pK Hb248 Kb248
def d36 : D_ := K_ f107 (L_ (.cut 44 q0_ [] w0)) (c30_ [[(5,(.lit 81))],o0,[(14,v12),(15,v5),(16,v6),(17,v7),(18,v8),(19,v9),(20,v10),(21,v11)]] [] w0) a51
theorem H36 : H g8 (t36.cfg) d36 := by delta H;kernel_rfl
theorem K36 : K 36 (rk 14) g8 d36 [lE,lE] := by delta K;kernel_rfl
theorem q36 : Q 36 (rk 14) g8 t36.cfg := pK H36 K36
def d24 : D_ := K_ f102 (c19_ [[(5,(.wrap .i64 (.add (.wrap .i64 (.add (.wrap .i64 (.add (.wrap .i64 (.add (.wrap .i64 (.add (.wrap .i64 (.add (.wrap .i64 (.add (.wrap .i64 (.add v5 n1)) n1)) n1)) n1)) n1)) n1)) n1)) n1))),(19,v11)]] [] w0) (c20_ [[(15,v11),(16,v15),(17,v16),(18,v17),(19,v18)]] [] w0) a57
theorem H24 : H g24 (t24.cfg) d24 := by delta H;kernel_rfl
theorem K24 : K 24 (rk 19) g24 d24 [lE,lE] := by delta K;kernel_rfl
theorem q24 : Q 24 (rk 19) g24 t24.cfg := pK H24 K24
def db250 : D_ := L_ (.cut 88 i81_88 [] w0) [((.eql (.rem v1 n2) n0),true),(f22,false),(f21,false),(f23,false),(f27,false),(f25,false),(f24,false),(f26,false),(f0,false),(f2,false),(f19,false),(f13,false),(f14,false),(f15,false),(f3,false),(f20,false),(f16,false),(f17,false),(f12,false),(f18,false),(f10,false),(f9,false),(f11,false),(f7,false),(f6,false),(f8,false),(f4,false),(f5,false),(f1,false)]
theorem Hb250 : H xb250 zb250 db250 := by delta H;kernel_rfl
theorem Kb250 : K 81 (rk 12) xb250 db250 [lE] := by delta K;kernel_rfl
theorem qb250 : Q 81 (rk 12) xb250 zb250 := pK Hb250 Kb250
def d122 : D_ := L_ (.cut 128 q8_ [] w0) a172
theorem H122 : H g97 (t122.cfg) d122 := by delta H;kernel_rfl
theorem K122 : K 122 (rk 3) g97 d122 [lE] := by delta K;kernel_rfl
theorem q122 : Q 122 (rk 3) g97 t122.cfg := pK H122 K122
def d85 : D_ := l66 a51
theorem H85 : H g71 (t85.cfg) d85 := by delta H;kernel_rfl
theorem K85 : K 85 (rk 10) g71 d85 [lE] := by delta K;kernel_rfl
theorem q85 : Q 85 (rk 10) g71 t85.cfg := pK H85 K85
def d101 : D_ := L_ (.cut 106 q6_ [] w0) a172
theorem H101 : H g97 (t101.cfg) d101 := by delta H;kernel_rfl
theorem K101 : K 101 (rk 7) g97 d101 [lE] := by delta K;kernel_rfl
theorem q101 : Q 101 (rk 7) g97 t101.cfg := pK H101 K101
def d116 : D_ := L_ (.cut 122 q6_ [] w0) a172
theorem H116 : H g97 (t116.cfg) d116 := by delta H;kernel_rfl
theorem K116 : K 116 (rk 4) g97 d116 [lE] := by delta K;kernel_rfl
theorem q116 : Q 116 (rk 4) g97 t116.cfg := pK H116 K116
def d133 : D_ := L_ (.cut 136 q9_ [] w0) a172
theorem H133 : H g97 (t133.cfg) d133 := by delta H;kernel_rfl
theorem K133 : K 133 (rk 2) g97 d133 [lE] := by delta K;kernel_rfl
theorem q133 : Q 133 (rk 2) g97 t133.cfg := pK H133 K133
def d51 : D_ := L_ (.cut 55 q2_ [] w0) a72
theorem H51 : H g45 (t51.cfg) d51 := by delta H;kernel_rfl
theorem K51 : K 51 (rk 13) g45 d51 [lE] := by delta K;kernel_rfl
theorem q51 : Q 51 (rk 13) g45 t51.cfg := pK H51 K51
def db148 : D_ := K_ f94 l64 (K_ f51 l64 (K_ f83 l64 (K_ f84 l64 (K_ f38 l64 (K_ f50 l64 (K_ f52 l64 (K_ f39 l64 (K_ f36 l64 (K_ f37 l64 (K_ f95 l64 (K_ f85 l64 l64))))))))))) a74
theorem Hb148 : H xb148 zb148 db148 := by delta H;kernel_rfl
theorem Kb148 : K 69 m69 xb148 db148 [lE,lE,lE,lE,lE,lE,lE,lE,lE,lE,lE,lE,lE] := by delta K;kernel_rfl
theorem qb148 : Q 69 m69 xb148 zb148 := pK Hb148 Kb148
def db48 : D_ := K_ f109 (K_ f98 (K_ f99 (K_ f101 (K_ f103 l29 l24) l25) l26) l27) (c5_ [[(20,(.add v19 n1))]] [] []) [(f156,true),(f143,false),(f53,false),(f71,false),(f90,false),(f104,false),(f29,false),(f31,false),(f34,false),(f30,false),(f35,false),(f33,false),(f48,false)]
theorem Hb48 : H xb48 zb48 db48 := by delta H;kernel_rfl
theorem Kb48 : K 4 (rk 28) xb48 db48 [mT (sq 5 fun i => mO (.eql (.var (13+i)) (.lit 6)) false [sA,sP,sU [7]] cB) (lT [sA,sU [7],sP] [] [] .non),mT (sq 5 fun i => mO (.eql (.var (13+i)) (.lit 5)) false [sA] (cV [(40+64*i)])) (lT pY [(0,(cV [0])),(6,(cV [48])),(7,(cV [56])),(8,(cV [64])),(14,(cV [112])),(15,(cV [120])),(16,(cV [128])),(22,(cV [176])),(23,(cV [184])),(24,(cV [192])),(30,(cV [240])),(31,(cV [248])),(32,(cV [256])),(38,(cV [304])),(39,(cV [312]))] [] .non),mT (sq 5 fun i => mO (.eql (.var (13+i)) (.lit 4)) false [sA] (cV [(32+64*i)])) (lT pY (ap [(0,(cV [0]))] (ap (sq 4 fun i => ((5+i),(cV [(40+8*i)]))) (ap (sq 4 fun i => ((13+i),(cV [(104+8*i)]))) (ap (sq 4 fun i => ((21+i),(cV [(168+8*i)]))) (ap (sq 4 fun i => ((29+i),(cV [(232+8*i)]))) [(37,(cV [296])),(38,(cV [304])),(39,(cV [312]))]))))) [] .non),mT (sq 5 fun i => mO (.eql (.var (13+i)) (.lit 3)) false [sA] (cV [(24+64*i)])) (lT pY (ap [(0,(cV [0]))] (ap (sq 5 fun i => ((4+i),(cV [(32+8*i)]))) (ap (sq 5 fun i => ((12+i),(cV [(96+8*i)]))) (ap (sq 5 fun i => ((20+i),(cV [(160+8*i)]))) (ap (sq 5 fun i => ((28+i),(cV [(224+8*i)]))) (sq 4 fun i => ((36+i),(cV [(288+8*i)])))))))) [] .non),mT (sq 5 fun i => mO (.eql (.var (13+i)) (.lit 2)) false [sA] (cV [(16+64*i)])) (lT pY (ap [(0,(cV [0]))] (ap (sq 6 fun i => ((3+i),(cV [(24+8*i)]))) (ap (sq 6 fun i => ((11+i),(cV [(88+8*i)]))) (ap (sq 6 fun i => ((19+i),(cV [(152+8*i)]))) (ap (sq 6 fun i => ((27+i),(cV [(216+8*i)]))) (sq 5 fun i => ((35+i),(cV [(280+8*i)])))))))) [] .non),mT (sq 5 fun i => mO (.eql (.var (13+i)) (.rem (.var 6) (.lit 8))) false [sA,sP,sU [7]] cB) (lT pY (ap [(0,(cV [0]))] (ap (sq 7 fun i => ((2+i),(cV [(16+8*i)]))) (ap (sq 7 fun i => ((10+i),(cV [(80+8*i)]))) (ap (sq 7 fun i => ((18+i),(cV [(144+8*i)]))) (ap (sq 7 fun i => ((26+i),(cV [(208+8*i)]))) (sq 6 fun i => ((34+i),(cV [(272+8*i)])))))))) [] .non)] := by delta K;kernel_rfl
theorem qb48 : Q 4 (rk 28) xb48 zb48 := pK Hb48 Kb48
def db24 : D_ := K_ f223 (K_ f167 (K_ f127 l8 l9) l10) (c3_ [[(17,(.add v16 n1))]] [] []) [(f154,true),(f53,false),(f71,false),(f29,false),(f56,false)]
theorem Hb24 : H xb24 zb24 db24 := by delta H;kernel_rfl
theorem Kb24 : K 2 (rk 30) xb24 db24 [mT [mO (.eql (.var 13) (.lit 3)) false [sA,sP,sU [7]] cB,mO (.eql (.var 14) (.lit 3)) false [sA,sP,sU [7]] cB,mO (.eql (.var 15) (.lit 3)) false [sA,sP,sU [7]] cB] (lT [sA,sU [7],sP] [] [] .non),mT (sq 3 fun i => mO (.eql (.var (13+i)) (.lit 2)) false [sA] (cV [(16+64*i)])) (lT pY (ap (sq 5 fun i => ((3+i),(cV [(24+8*i)]))) (ap (sq 5 fun i => ((11+i),(cV [(88+8*i)]))) (sq 5 fun i => ((19+i),(cV [(152+8*i)]))))) [] .non),mT (sq 3 fun i => mO (.eql (.var (13+i)) (.lit 1)) false [sA] (cV [(8+64*i)])) (lT pY (ap (sq 6 fun i => ((2+i),(cV [(16+8*i)]))) (ap (sq 6 fun i => ((10+i),(cV [(80+8*i)]))) (sq 6 fun i => ((18+i),(cV [(144+8*i)]))))) [] .non),mT (sq 3 fun i => mO (.eql (.var (13+i)) (.rem (.var 4) (.lit 8))) false [sA,sP,sU [7]] cB) (lT pY (ap (sq 7 fun i => ((1+i),(cV [(8+8*i)]))) (ap (sq 7 fun i => ((9+i),(cV [(72+8*i)]))) (sq 7 fun i => ((17+i),(cV [(136+8*i)]))))) [] .non)] := by delta K;kernel_rfl
theorem qb24 : Q 2 (rk 30) xb24 zb24 := pK Hb24 Kb24
def db14 : D_ := K_ (.lss n0 v14) (c1_ [[(14,n1),(16,(.add v15 n1))]] [] []) (c1_ [[(15,(.add v14 n1))]] [] []) [((.eql (.rem v2 n8) n0),true),(f131,false)]
theorem Hb14 : H xb14 zb14 db14 := by delta H;kernel_rfl
theorem Kb14 : K 0 (rk 32) xb14 db14 [mT [mO (.eql (.var 13) (.lit 1)) false [sA,sP,sU [7]] cB] (lT [sA,sU [7],sP] [] [] .non),mT [mO (.eql (.var 13) (.rem (.var 2) (.lit 8))) false [sA,sP,sU [7]] cB] (lT pY [(1,(cV [8])),(2,(cV [16])),(3,(cV [24])),(4,(cV [32])),(5,(cV [40])),(6,(cV [48])),(7,(cV [56]))] [] .non)] := by delta K;kernel_rfl
theorem qb14 : Q 0 (rk 32) xb14 zb14 := pK Hb14 Kb14

end
end Go.Proofs.Ytfimgfodoogibaa.queueOrder
