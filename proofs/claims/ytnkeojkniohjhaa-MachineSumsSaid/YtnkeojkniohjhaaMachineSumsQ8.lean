/- Parts of the plan for the law MachineSums: each is one kernel run. -/
import Derived.Test.YtnkeojkniohjhaaMachineSumsPlan
set_option linter.unusedVariables false
namespace Go.Proofs.Ytnkeojkniohjhaa.machineSums
open Go Go.Ev
noncomputable section

def db211 : D_ := K_ f23 (K_ f1 (c37_ [[(17,n0)],o20] [] w103) (K_ f25 (K_ f14 (c36_ [[(4,(.add v4 v18)),(6,(.add v6 n1)),(11,v11),(12,(.add v12 (.lit (-1)))),(18,v32)],o128,o142,o129] w21 w106) (c36_ [[(4,(.add v4 v18)),(6,(.add v6 n1)),(11,v11),(12,(.add v12 (.lit (-1))))],o128,o129] w21 w106)) (K_ f14 (c36_ [[(4,(.add v4 v18)),(6,n1),(11,v11),(12,(.add v12 (.lit (-1)))),(18,v32)],o128,o142,o129] w21 w107) (c36_ [[(4,(.add v4 v18)),(6,n1),(11,v11),(12,(.add v12 (.lit (-1))))],o128,o129] w21 w107)))) (K_ f1 (c37_ [[(17,n0)],o143,o98] [] w103) (K_ f25 (K_ f14 (c36_ [[(4,(.add v4 v18)),(6,(.add v6 n1)),(11,v11),(12,(.add v12 (.lit (-1)))),(18,v32)],o130,o142,o131] w21 w106) (c36_ [[(4,(.add v4 v18)),(6,(.add v6 n1)),(11,v11),(12,(.add v12 (.lit (-1))))],o130,o131] w21 w106)) (K_ f14 (c36_ [[(4,(.add v4 v18)),(6,n1),(11,v11),(12,(.add v12 (.lit (-1)))),(18,v32)],o130,o142,o131] w21 w107) (c36_ [[(4,(.add v4 v18)),(6,n1),(11,v11),(12,(.add v12 (.lit (-1))))],o130,o131] w21 w107)))) a139
theorem Hb211 : H xb211 zb211 db211 := by delta H;kernel_rfl
theorem Kb211 : K 39 (rk 3) xb211 db211 [p2,p3,p3,p3,p3,p2,p3,p3,p3,p3] := by delta K;kernel_rfl
theorem qb211 : Q 39 (rk 3) xb211 zb211 := pK Hb211 Kb211
def db196 : D_ := K_ f23 (K_ f1 (c37_ [[(18,n0),(21,n0)],o17,o101] [] w103) (K_ f12 (K_ f2 (c36_ [[(5,(.add v5 n1)),(17,v23)],o132,[(22,v22)],o96,o133,o104,[(75,v31)]] w21 w104) (c36_ [[(5,(.add v5 n1))],o132,[(22,v22)],o133,o104] w21 w104)) (K_ f2 (c36_ [[(5,n1),(17,v23)],o132,[(22,v22)],o96,o133,o104,[(75,v31)]] w21 w105) (c36_ [[(5,n1)],o132,[(22,v22)],o133,o104] w21 w105)))) (K_ f1 (c37_ [[(18,n0)],o105,o17,o106] [] w103) (K_ f12 (K_ f2 (c36_ [[(5,(.add v5 n1)),(17,v23)],o132,o96,o133,[(75,v31)]] w21 w104) (c36_ [[(5,(.add v5 n1))],o132,o133] w21 w104)) (K_ f2 (c36_ [[(5,n1),(17,v23)],o132,o96,o133,[(75,v31)]] w21 w105) (c36_ [[(5,n1)],o132,o133] w21 w105)))) a132
theorem Hb196 : H xb196 zb196 db196 := by delta H;kernel_rfl
theorem Kb196 : K 39 (rk 3) xb196 db196 [p2,p1,p1,p1,p1,p2,p1,p1,p1,p1] := by delta K;kernel_rfl
theorem qb196 : Q 39 (rk 3) xb196 zb196 := pK Hb196 Kb196
def db260 : D_ := K_ f23 (K_ f1 (c39_ [[(18,n0),(20,n0)],o17,o107] [] w103) (K_ f12 (K_ f2 (c38_ [[(5,(.add v5 n1)),(17,v23),(19,v19)],o108,o153,[(29,v75)],o168,o159] w21 w104) (c38_ [[(5,(.add v5 n1)),(19,v19)],o108,o168,o159] w21 w104)) (K_ f2 (c38_ [[(5,n1),(17,v23),(19,v19)],o108,o153,[(29,v75)],o168,o159] w21 w105) (c38_ [[(5,n1),(19,v19)],o108,o168,o159] w21 w105)))) (K_ f1 (c39_ [[(18,n0),(20,n0),(22,n0)],o17,o107,o98] [] w103) (K_ f12 (K_ f2 (c38_ [[(5,(.add v5 n1)),(17,v23),(19,v19),(21,v21)],o153,[(29,v75)],o168,o160] w21 w104) (c38_ [[(5,(.add v5 n1)),(19,v19),(21,v21)],o168,o160] w21 w104)) (K_ f2 (c38_ [[(5,n1),(17,v23),(19,v19),(21,v21)],o153,[(29,v75)],o168,o160] w21 w105) (c38_ [[(5,n1),(19,v19),(21,v21)],o168,o160] w21 w105)))) a133
theorem Hb260 : H xb260 zb260 db260 := by delta H;kernel_rfl
theorem Kb260 : K 41 m41 xb260 db260 [p2,p4,p4,p5,p5,p2,p4,p4,p5,p5] := by delta K;kernel_rfl
theorem qb260 : Q 41 m41 xb260 zb260 := pK Hb260 Kb260
def db215 : D_ := K_ f23 (K_ f1 (c37_ [[(17,n0)],o112,o20,o113] [] w103) (K_ f25 (K_ f14 (c36_ [[(4,(.add v4 v18)),(6,(.add v6 n1)),(11,v11),(12,(.add v12 (.lit (-1)))),(18,v32),(19,v19),(22,v22)],o142,o134,o104] w21 w106) (c36_ [[(4,(.add v4 v18)),(6,(.add v6 n1)),(11,v11),(12,(.add v12 (.lit (-1)))),(19,v19),(22,v22)],o134,o104] w21 w106)) (K_ f14 (c36_ [[(4,(.add v4 v18)),(6,n1),(11,v11),(12,(.add v12 (.lit (-1)))),(18,v32),(19,v19),(22,v22)],o142,o134,o104] w21 w107) (c36_ [[(4,(.add v4 v18)),(6,n1),(11,v11),(12,(.add v12 (.lit (-1)))),(19,v19),(22,v22)],o134,o104] w21 w107)))) (K_ f1 (c37_ [[(17,n0),(20,n0),(21,n0),(22,n0),(23,n0),(24,n0),(25,n0),(26,n0),(27,n0),(28,n0),(29,n0),(30,n0),(31,n0)],o114] [] w103) (K_ f25 (K_ f14 (c36_ [[(4,(.add v4 v18)),(6,(.add v6 n1)),(11,v11),(12,(.add v12 (.lit (-1)))),(18,v32),(19,v19)],o142,o134] w21 w106) (c36_ [[(4,(.add v4 v18)),(6,(.add v6 n1)),(11,v11),(12,(.add v12 (.lit (-1)))),(19,v19)],o134] w21 w106)) (K_ f14 (c36_ [[(4,(.add v4 v18)),(6,n1),(11,v11),(12,(.add v12 (.lit (-1)))),(18,v32),(19,v19)],o142,o134] w21 w107) (c36_ [[(4,(.add v4 v18)),(6,n1),(11,v11),(12,(.add v12 (.lit (-1)))),(19,v19)],o134] w21 w107)))) a142
theorem Hb215 : H xb215 zb215 db215 := by delta H;kernel_rfl
theorem Kb215 : K 39 (rk 3) xb215 db215 [p2,p3,p3,p3,p3,p2,p3,p3,p3,p3] := by delta K;kernel_rfl
theorem qb215 : Q 39 (rk 3) xb215 zb215 := pK Hb215 Kb215
def db283 : D_ := K_ f23 (K_ f1 (c39_ [[(17,n0)],o122,o169,o123] [] w103) (K_ f25 (K_ f14 (c38_ [[(4,(.add v4 v18)),(6,(.add v6 n1)),(11,v11),(12,(.add v12 (.lit (-1)))),(18,v30)],o108,o170,o159] w21 w106) (c38_ [[(4,(.add v4 v18)),(6,(.add v6 n1)),(11,v11),(12,(.add v12 (.lit (-1))))],o108,o159] w21 w106)) (K_ f14 (c38_ [[(4,(.add v4 v18)),(6,n1),(11,v11),(12,(.add v12 (.lit (-1)))),(18,v30)],o108,o170,o159] w21 w107) (c38_ [[(4,(.add v4 v18)),(6,n1),(11,v11),(12,(.add v12 (.lit (-1))))],o108,o159] w21 w107)))) (K_ f1 (c39_ [[(17,n0)],o122,o171,o123,o98] [] w103) (K_ f25 (K_ f14 (c38_ [[(4,(.add v4 v18)),(6,(.add v6 n1)),(11,v11),(12,(.add v12 (.lit (-1)))),(18,v30),(21,v21)],o170,o160] w21 w106) (c38_ [[(4,(.add v4 v18)),(6,(.add v6 n1)),(11,v11),(12,(.add v12 (.lit (-1)))),(21,v21)],o160] w21 w106)) (K_ f14 (c38_ [[(4,(.add v4 v18)),(6,n1),(11,v11),(12,(.add v12 (.lit (-1)))),(18,v30),(21,v21)],o170,o160] w21 w107) (c38_ [[(4,(.add v4 v18)),(6,n1),(11,v11),(12,(.add v12 (.lit (-1)))),(21,v21)],o160] w21 w107)))) a145
theorem Hb283 : H xb283 zb283 db283 := by delta H;kernel_rfl
theorem Kb283 : K 41 m41 xb283 db283 [p2,p8,p8,p9,p9,p2,p8,p8,p9,p9] := by delta K;kernel_rfl
theorem qb283 : Q 41 m41 xb283 zb283 := pK Hb283 Kb283
def db222 : D_ := K_ f23 (K_ f1 (c37_ [[(17,n0)],o124,o20,o125] [] w103) (K_ f25 (K_ f14 (c36_ [[(4,(.add v4 v18)),(6,(.add v6 n1)),(11,v11),(12,(.add v12 (.lit (-1)))),(18,v32),(22,v22)],o142,o104] w21 w106) (c36_ [[(4,(.add v4 v18)),(6,(.add v6 n1)),(11,v11),(12,(.add v12 (.lit (-1)))),(22,v22)],o104] w21 w106)) (K_ f14 (c36_ [[(4,(.add v4 v18)),(6,n1),(11,v11),(12,(.add v12 (.lit (-1)))),(18,v32),(22,v22)],o142,o104] w21 w107) (c36_ [[(4,(.add v4 v18)),(6,n1),(11,v11),(12,(.add v12 (.lit (-1)))),(22,v22)],o104] w21 w107)))) (K_ f1 (c37_ [[(17,n0),(19,n0),(20,n0),(21,n0),(22,n0),(23,n0),(24,n0),(25,n0),(26,n0),(27,n0),(28,n0),(29,n0),(30,n0),(31,n0)],o127] [] w103) (K_ f25 (K_ f14 (c36_ [[(4,(.add v4 v18)),(6,(.add v6 n1)),(11,v11),(12,(.add v12 (.lit (-1)))),(18,v32)],o142] w21 w106) (c36_ [[(4,(.add v4 v18)),(6,(.add v6 n1)),(11,v11),(12,(.add v12 (.lit (-1))))]] w21 w106)) (K_ f14 (c36_ [[(4,(.add v4 v18)),(6,n1),(11,v11),(12,(.add v12 (.lit (-1)))),(18,v32)],o142] w21 w107) (c36_ [[(4,(.add v4 v18)),(6,n1),(11,v11),(12,(.add v12 (.lit (-1))))]] w21 w107)))) a146
theorem Hb222 : H xb222 zb222 db222 := by delta H;kernel_rfl
theorem Kb222 : K 39 (rk 3) xb222 db222 [p2,p3,p3,p3,p3,p55,p3,p19,p3,p19] := by delta K;kernel_rfl
theorem qb222 : Q 39 (rk 3) xb222 zb222 := pK Hb222 Kb222
def db139 : D_ := K_ f11 (K_ f1 (c34_ [o72,o73] [] w86) (K_ f12 (K_ f15 (c33_ [[(5,(.add v5 n1)),(15,v20),(16,v16),(19,v19)],o56,o69,o64,[(63,v28)]] w26 w87) (c33_ [[(5,(.add v5 n1)),(16,v16),(19,v19)],o69,o64] w26 w87)) (K_ f15 (c33_ [[(5,n1),(15,v20),(16,v16),(19,v19)],o56,o69,o64,[(63,v28)]] w26 w88) (c33_ [[(5,n1),(16,v16),(19,v19)],o69,o64] w26 w88)))) (K_ f1 (c34_ [o3,o74] [] w86) (K_ f12 (K_ f15 (c33_ [[(5,(.add v5 n1)),(15,v20),(16,v16)],o56,o69,[(63,v28)]] w26 w87) (c33_ [[(5,(.add v5 n1)),(16,v16)],o69] w26 w87)) (K_ f15 (c33_ [[(5,n1),(15,v20),(16,v16)],o56,o69,[(63,v28)]] w26 w88) (c33_ [[(5,n1),(16,v16)],o69] w26 w88)))) a101
theorem Hb139 : H xb139 zb139 db139 := by delta H;kernel_rfl
theorem Kb139 : K 36 (rk 3) xb139 db139 [p2,p1,p1,p1,p1,p2,p1,p1,p1,p1] := by delta K;kernel_rfl
theorem qb139 : Q 36 (rk 3) xb139 zb139 := pK Hb139 Kb139
def db325 : D_ := K_ f11 (K_ f1 (c41_ [o39,o189,o75] [] w86) (K_ f37 (K_ f14 (c40_ [[(4,(.add v4 v17)),(7,(.add v7 n1)),(10,v10),(12,(.add v12 (.lit (-1)))),(17,v36)],o68,o193,o184] w26 w91) (c40_ [[(4,(.add v4 v17)),(7,(.add v7 n1)),(10,v10),(12,(.add v12 (.lit (-1))))],o68,o184] w26 w91)) (K_ f14 (c40_ [[(4,(.add v4 v17)),(7,n1),(10,v10),(12,(.add v12 (.lit (-1)))),(17,v36)],o68,o193,o184] w26 w92) (c40_ [[(4,(.add v4 v17)),(7,n1),(10,v10),(12,(.add v12 (.lit (-1))))],o68,o184] w26 w92)))) (K_ f1 (c41_ [o39,o191,o75,o58] [] w86) (K_ f37 (K_ f14 (c40_ [[(4,(.add v4 v17)),(7,(.add v7 n1)),(10,v10),(12,(.add v12 (.lit (-1)))),(17,v36),(18,v18)],o193,o185] w26 w91) (c40_ [[(4,(.add v4 v17)),(7,(.add v7 n1)),(10,v10),(12,(.add v12 (.lit (-1)))),(18,v18)],o185] w26 w91)) (K_ f14 (c40_ [[(4,(.add v4 v17)),(7,n1),(10,v10),(12,(.add v12 (.lit (-1)))),(17,v36),(18,v18)],o193,o185] w26 w92) (c40_ [[(4,(.add v4 v17)),(7,n1),(10,v10),(12,(.add v12 (.lit (-1)))),(18,v18)],o185] w26 w92)))) a110
theorem Hb325 : H xb325 zb325 db325 := by delta H;kernel_rfl
theorem Kb325 : K 42 m42 xb325 db325 [p2,p11,p11,p12,p12,p2,p11,p11,p12,p12] := by delta K;kernel_rfl
theorem qb325 : Q 42 m42 xb325 zb325 := pK Hb325 Kb325
def db336 : D_ := K_ f10 (K_ f1 (c43_ [o46,o47] [] w72) (K_ f12 (K_ f34 (c42_ [[(5,(.add v5 n1)),(13,v17),(16,v16)],o196,o200] w31 w73) (c42_ [[(5,(.add v5 n1)),(16,v16)],o200] w31 w73)) (K_ f34 (c42_ [[(5,n1),(13,v17),(16,v16)],o196,o200] w31 w74) (c42_ [[(5,n1),(16,v16)],o200] w31 w74)))) (K_ f1 (c43_ [o2,o48] [] w72) (K_ f12 (K_ f34 (c42_ [[(5,(.add v5 n1)),(13,v17)],o196] w31 w73) (c42_ [[(5,(.add v5 n1))]] w31 w73)) (K_ f34 (c42_ [[(5,n1),(13,v17)],o196] w31 w74) (c42_ [[(5,n1)]] w31 w74)))) a84
theorem Hb336 : H xb336 zb336 db336 := by delta H;kernel_rfl
theorem Kb336 : K 43 m43 xb336 db336 [p2,p4,p4,p5,p5,p2,p4,p32,p5,p33] := by delta K;kernel_rfl
theorem qb336 : Q 43 m43 xb336 zb336 := pK Hb336 Kb336
def db90 : D_ := K_ f24 (K_ f1 (c28_ [[(11,n0),(14,n0),(15,n0),(16,n0),(17,n0),(18,n0),(19,n0),(20,n0),(21,n0),(22,n0)]] [] w61) (K_ f25 (K_ f34 (c27_ [[(4,(.add v4 v12)),(6,(.add v6 n1)),(8,v8),(9,(.add v9 (.lit (-1)))),(12,v23),(13,v13)],o25,o22] w36 w64) (c27_ [[(4,(.add v4 v12)),(6,(.add v6 n1)),(8,v8),(9,(.add v9 (.lit (-1)))),(13,v13)],o22] w36 w64)) (K_ f34 (c27_ [[(4,(.add v4 v12)),(6,n1),(8,v8),(9,(.add v9 (.lit (-1)))),(12,v23),(13,v13)],o25,o22] w36 w65) (c27_ [[(4,(.add v4 v12)),(6,n1),(8,v8),(9,(.add v9 (.lit (-1)))),(13,v13)],o22] w36 w65)))) (K_ f1 (c28_ [[(11,n0),(13,n0),(14,n0),(15,n0),(16,n0),(17,n0),(18,n0),(19,n0),(20,n0),(21,n0),(22,n0)],o17] [] w61) (K_ f25 (K_ f34 (c27_ [[(4,(.add v4 v12)),(6,(.add v6 n1)),(8,v8),(9,(.add v9 (.lit (-1)))),(12,v23)],o25] w36 w64) (c27_ [[(4,(.add v4 v12)),(6,(.add v6 n1)),(8,v8),(9,(.add v9 (.lit (-1))))]] w36 w64)) (K_ f34 (c27_ [[(4,(.add v4 v12)),(6,n1),(8,v8),(9,(.add v9 (.lit (-1)))),(12,v23)],o25] w36 w65) (c27_ [[(4,(.add v4 v12)),(6,n1),(8,v8),(9,(.add v9 (.lit (-1))))]] w36 w65)))) a71
theorem Hb90 : H xb90 zb90 db90 := by delta H;kernel_rfl
theorem Kb90 : K 30 (rk 3) xb90 db90 [p2,p3,p3,p3,p3,p2,p3,p19,p3,p19] := by delta K;kernel_rfl
theorem qb90 : Q 30 (rk 3) xb90 zb90 := pK Hb90 Kb90
def db329 : D_ := K_ f11 (K_ f1 (c41_ [o93,o189,o84] [] w86) (K_ f39 (K_ f62 (c40_ [[(4,(.add v4 v19)),(9,(.add v9 n1)),(10,v10),(14,(.add v14 (.lit (-1)))),(19,v54)],o195] w26 w95) (c40_ [[(4,(.add v4 v19)),(9,(.add v9 n1)),(10,v10),(14,(.add v14 (.lit (-1))))]] w26 w95)) (K_ f62 (c40_ [[(4,(.add v4 v19)),(9,n1),(10,v10),(14,(.add v14 (.lit (-1)))),(19,v54)],o195] w26 w96) (c40_ [[(4,(.add v4 v19)),(9,n1),(10,v10),(14,(.add v14 (.lit (-1))))]] w26 w96)))) (c41_ [[(15,n0),(16,n0),(17,n0),(18,n0),(19,n0),(20,n0),(21,n0),(22,n0),(23,n0),(24,n0),(25,n0),(26,n0),(27,n0)],o86] [] w86) a113
theorem Hb329 : H xb329 zb329 db329 := by delta H;kernel_rfl
theorem Kb329 : K 42 m42 xb329 db329 [p2,p41,p60,p42,p61,p24] := by delta K;kernel_rfl
theorem qb329 : Q 42 m42 xb329 zb329 := pK Hb329 Kb329
def db75 : D_ := K_ f36 (K_ f1 (c25_ [[(9,n0),(11,n0),(12,n0),(13,n0),(14,n0),(15,n0),(16,n0),(17,n0),(18,n0),(19,n0)]] [] [r0,r1]) (K_ f25 (K_ f71 (c24_ [[(4,(.add v4 v10)),(5,v5),(6,(.add v6 n1)),(7,v7),(8,(.add v8 (.lit (-1)))),(10,v20)],o13] w41 w56) (c24_ [[(4,(.add v4 v10)),(5,v5),(6,(.add v6 n1)),(7,v7),(8,(.add v8 (.lit (-1))))]] w41 w56)) (K_ f71 (c24_ [[(4,(.add v4 v10)),(5,v5),(6,n1),(7,v7),(8,(.add v8 (.lit (-1)))),(10,v20)],o13] w41 w57) (c24_ [[(4,(.add v4 v10)),(5,v5),(6,n1),(7,v7),(8,(.add v8 (.lit (-1))))]] w41 w57)))) (c25_ [[(9,n0),(10,n0),(11,n0),(12,n0),(13,n0),(14,n0),(15,n0),(16,n0),(17,n0),(18,n0),(19,n0),(20,n0),(21,n0),(22,n0),(23,n0),(24,n0),(25,n0),(26,n0),(27,n0),(28,n0)]] [] [r0,r1]) a61
theorem Hb75 : H xb75 zb75 db75 := by delta H;kernel_rfl
theorem Kb75 : K 27 (rk 3) xb75 db75 [p2,p3,p19,p3,p19,p24] := by delta K;kernel_rfl
theorem qb75 : Q 27 (rk 3) xb75 zb75 := pK Hb75 Kb75
def db97 : D_ := K_ f141 (K_ f146 (K_ f149 (K_ f11 l66 (K_ f86 l8 l8)) (K_ f11 l66 (K_ f86 l8 l8))) (K_ f149 (K_ f11 l67 (K_ f86 l8 l8)) (K_ f11 l67 (K_ f86 l8 l8)))) l65 [(f38,true),(f26,false),(f73,true),(f33,true),(f42,true),(f95,false),(f66,false),(f98,false),(f67,false),(f96,false),(f65,false),(f97,false),(f64,false),(f40,false),(f16,false)]
theorem Hb97 : H xb97 zb97 db97 := by delta H;kernel_rfl
theorem Kb97 : K 32 m32 xb97 db97 [p3,p0,p0,p3,p0,p0,p3,p0,p0,p3,p0,p0,p7] := by delta K;kernel_rfl
theorem qb97 : Q 32 m32 xb97 zb97 := pK Hb97 Kb97
def db172 : D_ := K_ (.lss n0 v46) (K_ f141 (K_ (.lss n1 v46) (K_ f139 l94 (K_ f117 l8 l8)) (K_ f139 l94 (K_ f117 l8 l8))) (K_ (.lss n1 v46) (K_ f139 l95 (K_ f117 l8 l8)) (K_ f139 l95 (K_ f117 l8 l8)))) l87 [(f135,true),(f118,false),(f101,false),(f72,false),(f44,false),(f114,true),(f129,true),(f94,false),(f76,false),(f49,false),(f78,false),(f48,false),(f80,false),(f47,false),(f75,false),(f52,false),(f77,false),(f51,false),(f79,false),(f50,false),(f130,false),(f58,false)]
theorem Hb172 : H xb172 zb172 db172 := by delta H;kernel_rfl
theorem Kb172 : K 38 m38 xb172 db172 [p17,p0,p0,p17,p0,p0,p17,p0,p0,p17,p0,p0,p7] := by delta K;kernel_rfl
theorem qb172 : Q 38 m38 xb172 zb172 := pK Hb172 Kb172
def d13 : D_ := K_ f142 (K_ f70 l15 l34) (K_ f148 (K_ f70 l15 l34) (K_ f141 (K_ f70 l15 l34) (K_ f70 l34 l15))) [(f108,false),(f91,false),(f109,false),(f89,false),(f107,false),(f90,false),(f127,false),(f16,false)]
theorem H13 : H g13 (t13.cfg) d13 := by delta H;kernel_rfl
theorem K13 : K 13 m13 g13 d13 [p13,p7,p13,p7,p13,p7,p7,lO (ap [sA] (ap (sq 30 fun i => sE (10+256*i)) [sP,sU (ap (sq 31 fun i => (2+256*i)) [7690,7938,7946,8194,8202,8450,8458,8706,8714,8962,8970,9218,9226,9474,9482,9730,9738,9986,9994,10242,10250,10498,10506,10754,10762,11010,11018,11266,11274,11522,11530,11778,11786,12034,12042,12290,12298,12546,12554,12802,12810,13058,13066,13314,13322,13570,13578,13826,13834,14082,14090,14338,14346,14594,14602,14850,14858,15106,15114]),sU [7]])) (cQ 24 (cM [1194,0]) (cM [1194,3]))] := by delta K;kernel_rfl
theorem q13 : Q 13 m13 g13 t13.cfg := pK H13 K13
def d25 : D_ := K_ f12 l15 (K_ f152 l48 l15) a54
theorem H25 : H g25 (t25.cfg) d25 := by delta H;kernel_rfl
theorem K25 : K 25 (rk 1) g25 d25 [p0,lO [sA,sP,sU [2,258,514,770,1026,1282,1538,1794,2050],sU [7]] (cQ 8 (cM [426,48]) (cM [426,51])),lO [sA,sP,sU [2,258,514,770,1026,1282,1538,1794,2050],sU [7]] (cQ 24 (cM [1194,0]) (cM [1194,3]))] := by delta K;kernel_rfl
theorem q25 : Q 25 (rk 1) g25 t25.cfg := pK H25 K25
def d21 : D_ := L_ (.cut 22 [v0] [] []) []
theorem H21 : H g21 (t21.cfg) d21 := by delta H;kernel_rfl
theorem K21 : K 21 (rk 2) g21 d21 [lE] := by delta K;kernel_rfl
theorem q21 : Q 21 (rk 2) g21 t21.cfg := pK H21 K21
def db24 : D_ := l14 [(f144,false),(f35,true),(f94,false),(f92,false),(f87,false),(f99,false),(f110,false),(f120,false),(f124,false),(f94,false)]
theorem Hb24 : H xb24 zb24 db24 := by delta H;kernel_rfl
theorem Kb24 : K 6 (rk 5) xb24 db24 [p15] := by delta K;kernel_rfl
theorem qb24 : Q 6 (rk 5) xb24 zb24 := pK Hb24 Kb24
def db103 : D_ := l72 [(f42,false),(f95,false),(f66,false),(f98,false),(f67,false),(f96,false),(f65,false),(f97,false),(f64,false),(f40,false),(f16,false)]
theorem Hb103 : H xb103 zb103 db103 := by delta H;kernel_rfl
theorem Kb103 : K 32 m32 xb103 db103 [p7] := by delta K;kernel_rfl
theorem qb103 : Q 32 m32 xb103 zb103 := pK Hb103 Kb103

end
end Go.Proofs.Ytnkeojkniohjhaa.machineSums
