/- Parts of the plan for the law QueueOrder: each is one kernel run. -/
import Derived.Test.YtfimgfodoogibaaQueueOrderPlan
set_option linter.unusedVariables false
namespace Go.Proofs.Ytfimgfodoogibaa.queueOrder
open Go Go.Ev
noncomputable section

def db8 : D_ := c0_ [[(18,n1)]] [] [] [(f200,true),(f171,false),(f153,false),(f141,false),(f132,false)]
theorem qb8 : QQ 141 { rank := top } false xb8 zb8 := Cl.partK 1000000 db8 [p0] (by kernel_rfl) (by kernel_rfl) (by kernel_rfl)
def db249 : D_ := c54_ [[(4,(.wrap .i64 (.add (.wrap .i64 (.add (.wrap .i64 (.add (.wrap .i64 (.add (.wrap .i64 (.add (.wrap .i64 (.add (.wrap .i64 (.add (.wrap .i64 (.add (.wrap .i64 (.add (.wrap .i64 (.add (.wrap .i64 (.add v4 n1)) n1)) n1)) n1)) n1)) n1)) n1)) n1)) n1)) n1)) n1))),(9,v12)],o11] [] w0 [(f209,false),(f160,false),(f134,false),(f22,false),(f21,false),(f23,false),(f27,false),(f25,false),(f24,false),(f26,false),(f0,false),(f2,false),(f19,false),(f13,false),(f14,false),(f15,false),(f3,false),(f20,false),(f16,false),(f17,false),(f12,false),(f18,false),(f10,false),(f9,false),(f11,false),(f7,false),(f6,false),(f8,false),(f4,false),(f5,false),(f1,false)]
theorem Hb249 : H xb249 zb249 db249 := by delta H;kernel_rfl
theorem Kb249 : K 80 (rk 10) xb249 db249 [lE] := by delta K;kernel_rfl
theorem qb249 : Q 80 (rk 10) xb249 zb249 := pK Hb249 Kb249
def db243 : D_ := c53_ [[(4,(.wrap .i64 (.add (.wrap .i64 (.add (.wrap .i64 (.add (.wrap .i64 (.add (.wrap .i64 (.add (.wrap .i64 (.add (.wrap .i64 (.add (.wrap .i64 (.add (.wrap .i64 (.add (.wrap .i64 (.add v4 n1)) n1)) n1)) n1)) n1)) n1)) n1)) n1)) n1)) n1))),(10,v12),(12,v11)]] [] w0 [((.eql (.rem v1 n3) n1),false),(f240,false),(f22,false),(f21,false),(f23,false),(f27,false),(f25,false),(f24,false),(f26,false),(f0,false),(f2,false),(f19,false),(f13,false),(f14,false),(f15,false),(f3,false),(f20,false),(f16,false),(f17,false),(f12,false),(f18,false),(f10,false),(f9,false),(f11,false),(f7,false),(f6,false),(f8,false),(f4,false),(f5,false),(f1,false)]
theorem Hb243 : H xb243 zb243 db243 := by delta H;kernel_rfl
theorem Kb243 : K 79 (rk 13) xb243 db243 [lE] := by delta K;kernel_rfl
theorem qb243 : Q 79 (rk 13) xb243 zb243 := pK Hb243 Kb243
def d26 : D_ := K_ f102 (c21_ [[(5,(.wrap .i64 (.add (.wrap .i64 (.add (.wrap .i64 (.add (.wrap .i64 (.add (.wrap .i64 (.add (.wrap .i64 (.add (.wrap .i64 (.add (.wrap .i64 (.add (.wrap .i64 (.add (.wrap .i64 (.add v5 n1)) n1)) n1)) n1)) n1)) n1)) n1)) n1)) n1)) n1))),(19,v11)]] [] w0) (c22_ [[(17,v11),(18,v17),(19,v18)]] [] w0) a57
theorem H26 : H g24 (t26.cfg) d26 := by delta H;kernel_rfl
theorem K26 : K 26 (rk 19) g24 d26 [lE,lE] := by delta K;kernel_rfl
theorem q26 : Q 26 (rk 19) g24 t26.cfg := pK H26 K26
def db256 : D_ := c56_ [[(4,(.wrap .i64 (.add (.wrap .i64 (.add (.wrap .i64 (.add (.wrap .i64 (.add (.wrap .i64 (.add (.wrap .i64 (.add (.wrap .i64 (.add (.wrap .i64 (.add (.wrap .i64 (.add v4 n1)) n1)) n1)) n1)) n1)) n1)) n1)) n1)) n1))),(9,v11),(11,v10)]] [] w0 [((.eql (.rem v3 n4) n2),true),(f241,false),(f219,false),(f22,false),(f21,false),(f23,false),(f27,false),(f25,false),(f24,false),(f26,false),(f0,false),(f2,false),(f19,false),(f13,false),(f14,false),(f15,false),(f3,false),(f20,false),(f16,false),(f17,false),(f12,false),(f18,false),(f10,false),(f9,false),(f11,false),(f7,false),(f6,false),(f8,false),(f4,false),(f5,false),(f1,false)]
theorem Hb256 : H xb256 zb256 db256 := by delta H;kernel_rfl
theorem Kb256 : K 82 (rk 8) xb256 db256 [lE] := by delta K;kernel_rfl
theorem qb256 : Q 82 (rk 8) xb256 zb256 := pK Hb256 Kb256
def db180 : D_ := c46_ [[(4,(.wrap .i64 (.add (.wrap .i64 (.add (.wrap .i64 (.add (.wrap .i64 (.add (.wrap .i64 (.add (.wrap .i64 (.add (.wrap .i64 (.add (.wrap .i64 (.add v4 n1)) n1)) n1)) n1)) n1)) n1)) n1)) n1))),(6,v7)],o7] [] w0 [(f165,true),(f151,false),(f22,false),(f21,false),(f23,false),(f27,false),(f25,false),(f24,false),(f26,false),(f0,false),(f2,false),(f19,false),(f13,false),(f14,false),(f15,false),(f3,false),(f20,false),(f16,false),(f17,false),(f12,false),(f18,false),(f10,false),(f9,false),(f11,false),(f7,false),(f6,false),(f8,false),(f4,false),(f5,false),(f1,false)]
theorem Hb180 : H xb180 zb180 db180 := by delta H;kernel_rfl
theorem Kb180 : K 71 (rk 9) xb180 db180 [lE] := by delta K;kernel_rfl
theorem qb180 : Q 71 (rk 9) xb180 zb180 := pK Hb180 Kb180
def db254 : D_ := c56_ [[(4,(.wrap .i64 (.add (.wrap .i64 (.add (.wrap .i64 (.add (.wrap .i64 (.add (.wrap .i64 (.add (.wrap .i64 (.add (.wrap .i64 (.add (.wrap .i64 (.add v4 n1)) n1)) n1)) n1)) n1)) n1)) n1)) n1))),(9,v10)]] [] w0 [(f241,true),(f219,false),(f22,false),(f21,false),(f23,false),(f27,false),(f25,false),(f24,false),(f26,false),(f0,false),(f2,false),(f19,false),(f13,false),(f14,false),(f15,false),(f3,false),(f20,false),(f16,false),(f17,false),(f12,false),(f18,false),(f10,false),(f9,false),(f11,false),(f7,false),(f6,false),(f8,false),(f4,false),(f5,false),(f1,false)]
theorem Hb254 : H xb254 zb254 db254 := by delta H;kernel_rfl
theorem Kb254 : K 82 (rk 8) xb254 db254 [lE] := by delta K;kernel_rfl
theorem qb254 : Q 82 (rk 8) xb254 zb254 := pK Hb254 Kb254
def db210 : D_ := c49_ [o10] [] w0 [(f182,true),(f22,false),(f21,false),(f23,false),(f27,false),(f25,false),(f24,false),(f26,false),(f0,false),(f2,false),(f19,false),(f13,false),(f14,false),(f15,false),(f3,false),(f20,false),(f16,false),(f17,false),(f12,false),(f18,false),(f10,false),(f9,false),(f11,false),(f7,false),(f6,false),(f8,false),(f4,false),(f5,false),(f1,false)]
theorem Hb210 : H xb210 zb210 db210 := by delta H;kernel_rfl
theorem Kb210 : K 74 (rk 7) xb210 db210 [lE] := by delta K;kernel_rfl
theorem qb210 : Q 74 (rk 7) xb210 zb210 := pK Hb210 Kb210
def d18 : D_ := K_ f120 (L_ (.cut 23 q0_ [] w0)) (c15_ [[(5,(.lit 60))],o0,[(14,v9),(15,v5),(16,v6),(17,v7),(18,v8)]] [] w0) a51
theorem H18 : H g8 (t18.cfg) d18 := by delta H;kernel_rfl
theorem K18 : K 18 (rk 20) g8 d18 [lE,lE] := by delta K;kernel_rfl
theorem q18 : Q 18 (rk 20) g8 t18.cfg := pK H18 K18
def d96 : D_ := l66 a51
theorem H96 : H g71 (t96.cfg) d96 := by delta H;kernel_rfl
theorem K96 : K 96 (rk 10) g71 d96 [lE] := by delta K;kernel_rfl
theorem q96 : Q 96 (rk 10) g71 t96.cfg := pK H96 K96
def d111 : D_ := L_ (.cut 117 q6_ [] w0) a172
theorem H111 : H g97 (t111.cfg) d111 := by delta H;kernel_rfl
theorem K111 : K 111 (rk 4) g97 d111 [lE] := by delta K;kernel_rfl
theorem q111 : Q 111 (rk 4) g97 t111.cfg := pK H111 K111
def d58 : D_ := K_ f28 (K_ f94 l53 (K_ f51 l53 (K_ f83 l53 (K_ f84 l53 (K_ f52 l53 (K_ f50 l53 (K_ f95 l53 (K_ f39 l53 (K_ f36 l53 (K_ f37 l53 (K_ f38 l53 (K_ f85 l53 l53)))))))))))) (L_ (.cut 62 q3_ [] w0)) a73
theorem H58 : H g55 (t58.cfg) d58 := by delta H;kernel_rfl
theorem K58 : K 58 m58 g55 d58 [lE,lE,lE,lE,lE,lE,lE,lE,lE,lE,lE,lE,lE,lE] := by delta K;kernel_rfl
theorem q58 : Q 58 m58 g55 t58.cfg := pK H58 K58
def d136 : D_ := K_ f28 (K_ f84 l72 (K_ f85 l72 (K_ f38 l72 (K_ f37 l72 (K_ f95 l72 (K_ f106 l72 (K_ f128 l72 (K_ f129 l72 (K_ f94 l72 (K_ f36 l72 (K_ f39 l72 (K_ f130 l72 l72)))))))))))) l68 a174
theorem H136 : H g129 (t136.cfg) d136 := by delta H;kernel_rfl
theorem K136 : K 136 m136 g129 d136 [lE,lE,lE,lE,lE,lE,lE,lE,lE,lE,lE,lE,lE,lE] := by delta K;kernel_rfl
theorem q136 : Q 136 m136 g129 t136.cfg := pK H136 K136
def db108 : D_ := K_ f94 l54 (K_ f51 l54 (K_ f83 l54 (K_ f84 l54 (K_ f50 l54 (K_ f95 l54 (K_ f52 l54 (K_ f39 l54 (K_ f36 l54 (K_ f37 l54 (K_ f38 l54 (K_ f85 l54 l54))))))))))) a74
theorem Hb108 : H xb108 zb108 db108 := by delta H;kernel_rfl
theorem Kb108 : K 59 m59 xb108 db108 [lE,lE,lE,lE,lE,lE,lE,lE,lE,lE,lE,lE,lE] := by delta K;kernel_rfl
theorem qb108 : Q 59 m59 xb108 zb108 := pK Hb108 Kb108
def db58 : D_ := K_ f109 (K_ f98 (K_ f99 (K_ f101 (K_ f103 (K_ f108 l32 l33) l34) l35) l36) l37) (c6_ [[(20,(.add v19 n1))]] [] []) [(f144,true),(f53,false),(f71,false),(f90,false),(f104,false),(f123,false),(f29,false),(f31,false),(f34,false),(f45,false),(f30,false),(f35,false),(f46,false),(f33,false),(f43,false),(f44,false),(f49,false)]
theorem Hb58 : H xb58 zb58 db58 := by delta H;kernel_rfl
theorem Kb58 : K 5 (rk 27) xb58 db58 [mT (sq 6 fun i => mO (.eql (.var (13+i)) (.lit 6)) false [sA,sP,sU [7]] cB) (lT [sA,sU [7],sP] [] [] .non),mT (sq 6 fun i => mO (.eql (.var (13+i)) (.lit 5)) false [sA] (cV [(40+64*i)])) (lT pY [(6,(cV [48])),(7,(cV [56])),(14,(cV [112])),(15,(cV [120])),(22,(cV [176])),(23,(cV [184])),(30,(cV [240])),(31,(cV [248])),(38,(cV [304])),(39,(cV [312])),(46,(cV [368])),(47,(cV [376]))] [] .non),mT (sq 6 fun i => mO (.eql (.var (13+i)) (.lit 4)) false [sA] (cV [(32+64*i)])) (lT pY [(5,(cV [40])),(6,(cV [48])),(7,(cV [56])),(13,(cV [104])),(14,(cV [112])),(15,(cV [120])),(21,(cV [168])),(22,(cV [176])),(23,(cV [184])),(29,(cV [232])),(30,(cV [240])),(31,(cV [248])),(37,(cV [296])),(38,(cV [304])),(39,(cV [312])),(45,(cV [360])),(46,(cV [368])),(47,(cV [376]))] [] .non),mT (sq 6 fun i => mO (.eql (.var (13+i)) (.lit 3)) false [sA] (cV [(24+64*i)])) (lT pY (ap (sq 4 fun i => ((4+i),(cV [(32+8*i)]))) (ap (sq 4 fun i => ((12+i),(cV [(96+8*i)]))) (ap (sq 4 fun i => ((20+i),(cV [(160+8*i)]))) (ap (sq 4 fun i => ((28+i),(cV [(224+8*i)]))) (ap (sq 4 fun i => ((36+i),(cV [(288+8*i)]))) (sq 4 fun i => ((44+i),(cV [(352+8*i)])))))))) [] .non),mT (sq 6 fun i => mO (.eql (.var (13+i)) (.lit 2)) false [sA] (cV [(16+64*i)])) (lT pY (ap (sq 5 fun i => ((3+i),(cV [(24+8*i)]))) (ap (sq 5 fun i => ((11+i),(cV [(88+8*i)]))) (ap (sq 5 fun i => ((19+i),(cV [(152+8*i)]))) (ap (sq 5 fun i => ((27+i),(cV [(216+8*i)]))) (ap (sq 5 fun i => ((35+i),(cV [(280+8*i)]))) (sq 5 fun i => ((43+i),(cV [(344+8*i)])))))))) [] .non),mT (sq 6 fun i => mO (.eql (.var (13+i)) (.lit 1)) false [sA] (cV [(8+64*i)])) (lT pY (ap (sq 6 fun i => ((2+i),(cV [(16+8*i)]))) (ap (sq 6 fun i => ((10+i),(cV [(80+8*i)]))) (ap (sq 6 fun i => ((18+i),(cV [(144+8*i)]))) (ap (sq 6 fun i => ((26+i),(cV [(208+8*i)]))) (ap (sq 6 fun i => ((34+i),(cV [(272+8*i)]))) (sq 6 fun i => ((42+i),(cV [(336+8*i)])))))))) [] .non),mT (sq 6 fun i => mO (.eql (.var (13+i)) (.rem (.var 7) (.lit 8))) false [sA,sP,sU [7]] cB) (lT pY (ap (sq 7 fun i => ((1+i),(cV [(8+8*i)]))) (ap (sq 7 fun i => ((9+i),(cV [(72+8*i)]))) (ap (sq 7 fun i => ((17+i),(cV [(136+8*i)]))) (ap (sq 7 fun i => ((25+i),(cV [(200+8*i)]))) (ap (sq 7 fun i => ((33+i),(cV [(264+8*i)]))) (sq 7 fun i => ((41+i),(cV [(328+8*i)])))))))) [] .non)] := by delta K;kernel_rfl
theorem qb58 : Q 5 (rk 27) xb58 zb58 := pK Hb58 Kb58
def db54 : D_ := K_ f101 (K_ f103 (K_ f108 (K_ f122 (K_ f127 l28 l31) l30) l29) l24) (c5_ [[(23,(.add v22 n1))]] [] []) [(f230,true),(f204,false),(f175,false),(f156,false),(f143,false),(f53,false),(f71,false),(f90,false),(f104,false),(f29,false),(f31,false),(f34,false),(f30,false),(f35,false),(f33,false),(f48,false)]
theorem Hb54 : H xb54 zb54 db54 := by delta H;kernel_rfl
theorem Kb54 : K 4 (rk 28) xb54 db54 [mT (sq 5 fun i => mO (.eql (.var (13+i)) (.lit 1)) false [sA,sP,sU [7]] cB) (lT [sA,sU [7],sP] [] [] .non),mT (sq 5 fun i => mO (.eql (.var (13+i)) (.lit 0)) false [sA] (cV [(0+64*i)])) (lT pY [(1,(cV [8])),(2,(cV [16])),(3,(cV [24])),(9,(cV [72])),(10,(cV [80])),(11,(cV [88])),(17,(cV [136])),(18,(cV [144])),(19,(cV [152])),(25,(cV [200])),(26,(cV [208])),(27,(cV [216])),(33,(cV [264])),(34,(cV [272])),(35,(cV [280]))] [] .non),mT (sq 5 fun i => mO (.eql (.var (13+i)) (.lit 7)) false [sA] (cV [(56+64*i)])) (lT pY (ap (sq 4 fun i => ((0+i),(cV [(0+8*i)]))) (ap (sq 4 fun i => ((8+i),(cV [(64+8*i)]))) (ap (sq 4 fun i => ((16+i),(cV [(128+8*i)]))) (ap (sq 4 fun i => ((24+i),(cV [(192+8*i)]))) (sq 4 fun i => ((32+i),(cV [(256+8*i)]))))))) [] .non),mT (sq 5 fun i => mO (.eql (.var (13+i)) (.lit 6)) false [sA] (cV [(48+64*i)])) (lT pY (ap (sq 4 fun i => ((0+i),(cV [(0+8*i)]))) (ap (sq 5 fun i => ((7+i),(cV [(56+8*i)]))) (ap (sq 5 fun i => ((15+i),(cV [(120+8*i)]))) (ap (sq 5 fun i => ((23+i),(cV [(184+8*i)]))) (ap (sq 5 fun i => ((31+i),(cV [(248+8*i)]))) [(39,(cV [312]))]))))) [] .non),mT (sq 5 fun i => mO (.eql (.var (13+i)) (.lit 5)) false [sA] (cV [(40+64*i)])) (lT pY (ap (sq 4 fun i => ((0+i),(cV [(0+8*i)]))) (ap (sq 6 fun i => ((6+i),(cV [(48+8*i)]))) (ap (sq 6 fun i => ((14+i),(cV [(112+8*i)]))) (ap (sq 6 fun i => ((22+i),(cV [(176+8*i)]))) (ap (sq 6 fun i => ((30+i),(cV [(240+8*i)]))) [(38,(cV [304])),(39,(cV [312]))]))))) [] .non),mT (sq 5 fun i => mO (.eql (.var (13+i)) (.rem (.var 6) (.lit 8))) false [sA,sP,sU [7]] cB) (lT pY (ap (sq 4 fun i => ((0+i),(cV [(0+8*i)]))) (ap (sq 7 fun i => ((5+i),(cV [(40+8*i)]))) (ap (sq 7 fun i => ((13+i),(cV [(104+8*i)]))) (ap (sq 7 fun i => ((21+i),(cV [(168+8*i)]))) (ap (sq 7 fun i => ((29+i),(cV [(232+8*i)]))) [(37,(cV [296])),(38,(cV [304])),(39,(cV [312]))]))))) [] .non)] := by delta K;kernel_rfl
theorem qb54 : Q 4 (rk 28) xb54 zb54 := pK Hb54 Kb54
def db105 : D_ := c36_ [[(20,v13),(21,v20)]] [] w0 a69
theorem Hb105 : H xb105 zb105 db105 := by delta H;kernel_rfl
theorem Kb105 : K 42 (rk 15) xb105 db105 [lE] := by delta K;kernel_rfl
theorem qb105 : Q 42 (rk 15) xb105 zb105 := pK Hb105 Kb105

end
end Go.Proofs.Ytfimgfodoogibaa.queueOrder
