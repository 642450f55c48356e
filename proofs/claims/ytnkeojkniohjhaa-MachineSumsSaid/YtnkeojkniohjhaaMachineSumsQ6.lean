/- Parts of the plan for the law MachineSums: each is one kernel run. -/
import Derived.Test.YtnkeojkniohjhaaMachineSumsPlan
set_option linter.unusedVariables false
namespace Go.Proofs.Ytnkeojkniohjhaa.machineSums
open Go Go.Ev
noncomputable section

def db187 : D_ := K_ f23 (K_ f1 (c37_ [[(19,n0)],o115] [] w103) (K_ f12 (K_ f2 (c36_ [[(5,(.add v5 n1)),(17,v23),(18,v18)],o116,o96,o117,o118,[(75,v31)]] w21 w104) (c36_ [[(5,(.add v5 n1)),(18,v18)],o116,o117,o118] w21 w104)) (K_ f2 (c36_ [[(5,n1),(17,v23),(18,v18)],o116,o96,o117,o118,[(75,v31)]] w21 w105) (c36_ [[(5,n1),(18,v18)],o116,o117,o118] w21 w105)))) (K_ f1 (c37_ [[(19,n0),(22,n0)],o115,o98] [] w103) (K_ f12 (K_ f2 (c36_ [[(5,(.add v5 n1)),(17,v23),(18,v18)],o119,o96,o117,o120,[(75,v31)]] w21 w104) (c36_ [[(5,(.add v5 n1)),(18,v18)],o119,o117,o120] w21 w104)) (K_ f2 (c36_ [[(5,n1),(17,v23),(18,v18)],o119,o96,o117,o120,[(75,v31)]] w21 w105) (c36_ [[(5,n1),(18,v18)],o119,o117,o120] w21 w105)))) a127
theorem Hb187 : H xb187 zb187 db187 := by delta H;kernel_rfl
theorem Kb187 : K 39 (rk 3) xb187 db187 [p2,p1,p1,p1,p1,p2,p1,p1,p1,p1] := by delta K;kernel_rfl
theorem qb187 : Q 39 (rk 3) xb187 zb187 := pK Hb187 Kb187
def db188 : D_ := K_ f23 (K_ f1 (c37_ [[(19,n0),(21,n0)],o115,o101] [] w103) (K_ f12 (K_ f2 (c36_ [[(5,(.add v5 n1)),(17,v23),(18,v18),(20,v20),(22,v22)],o96,o117,o121,o104,[(75,v31)]] w21 w104) (c36_ [[(5,(.add v5 n1)),(18,v18),(20,v20),(22,v22)],o117,o121,o104] w21 w104)) (K_ f2 (c36_ [[(5,n1),(17,v23),(18,v18),(20,v20),(22,v22)],o96,o117,o121,o104,[(75,v31)]] w21 w105) (c36_ [[(5,n1),(18,v18),(20,v20),(22,v22)],o117,o121,o104] w21 w105)))) (K_ f1 (c37_ [[(19,n0)],o105,o115,o106] [] w103) (K_ f12 (K_ f2 (c36_ [[(5,(.add v5 n1)),(17,v23),(18,v18),(20,v20)],o96,o117,o121,[(75,v31)]] w21 w104) (c36_ [[(5,(.add v5 n1)),(18,v18),(20,v20)],o117,o121] w21 w104)) (K_ f2 (c36_ [[(5,n1),(17,v23),(18,v18),(20,v20)],o96,o117,o121,[(75,v31)]] w21 w105) (c36_ [[(5,n1),(18,v18),(20,v20)],o117,o121] w21 w105)))) a128
theorem Hb188 : H xb188 zb188 db188 := by delta H;kernel_rfl
theorem Kb188 : K 39 (rk 3) xb188 db188 [p2,p1,p1,p1,p1,p2,p1,p1,p1,p1] := by delta K;kernel_rfl
theorem qb188 : Q 39 (rk 3) xb188 zb188 := pK Hb188 Kb188
def db252 : D_ := K_ f23 (K_ f1 (c39_ [o122,o123] [] w103) (K_ f12 (K_ f2 (c38_ [[(5,(.add v5 n1)),(17,v23),(18,v18)],o108,o153,[(29,v75)],o161,o159] w21 w104) (c38_ [[(5,(.add v5 n1)),(18,v18)],o108,o161,o159] w21 w104)) (K_ f2 (c38_ [[(5,n1),(17,v23),(18,v18)],o108,o153,[(29,v75)],o161,o159] w21 w105) (c38_ [[(5,n1),(18,v18)],o108,o161,o159] w21 w105)))) (K_ f1 (c39_ [o122,[(22,n0)],o123,o98] [] w103) (K_ f12 (K_ f2 (c38_ [[(5,(.add v5 n1)),(17,v23),(18,v18),(21,v21)],o153,[(29,v75)],o161,o160] w21 w104) (c38_ [[(5,(.add v5 n1)),(18,v18),(21,v21)],o161,o160] w21 w104)) (K_ f2 (c38_ [[(5,n1),(17,v23),(18,v18),(21,v21)],o153,[(29,v75)],o161,o160] w21 w105) (c38_ [[(5,n1),(18,v18),(21,v21)],o161,o160] w21 w105)))) a129
theorem Hb252 : H xb252 zb252 db252 := by delta H;kernel_rfl
theorem Kb252 : K 41 m41 xb252 db252 [p2,p4,p4,p5,p5,p2,p4,p4,p5,p5] := by delta K;kernel_rfl
theorem qb252 : Q 41 m41 xb252 zb252 := pK Hb252 Kb252
def db203 : D_ := K_ f23 (K_ f1 (c37_ [o65,[(21,n0)],o135,o101] [] w103) (K_ f12 (K_ f2 (c36_ [[(5,(.add v5 n1)),(17,v23),(20,v20),(22,v22)],o96,o121,o104,[(75,v31)]] w21 w104) (c36_ [[(5,(.add v5 n1)),(20,v20),(22,v22)],o121,o104] w21 w104)) (K_ f2 (c36_ [[(5,n1),(17,v23),(20,v20),(22,v22)],o96,o121,o104,[(75,v31)]] w21 w105) (c36_ [[(5,n1),(20,v20),(22,v22)],o121,o104] w21 w105)))) (K_ f1 (c37_ [o65,o105,o135,o106] [] w103) (K_ f12 (K_ f2 (c36_ [[(5,(.add v5 n1)),(17,v23),(20,v20)],o96,o121,[(75,v31)]] w21 w104) (c36_ [[(5,(.add v5 n1)),(20,v20)],o121] w21 w104)) (K_ f2 (c36_ [[(5,n1),(17,v23),(20,v20)],o96,o121,[(75,v31)]] w21 w105) (c36_ [[(5,n1),(20,v20)],o121] w21 w105)))) a136
theorem Hb203 : H xb203 zb203 db203 := by delta H;kernel_rfl
theorem Kb203 : K 39 (rk 3) xb203 db203 [p2,p1,p1,p1,p1,p2,p1,p1,p1,p1] := by delta K;kernel_rfl
theorem qb203 : Q 39 (rk 3) xb203 zb203 := pK Hb203 Kb203
def db277 : D_ := K_ f23 (K_ f1 (c39_ [[(17,n0)],o112,o169,o113] [] w103) (K_ f25 (K_ f14 (c38_ [[(4,(.add v4 v18)),(6,(.add v6 n1)),(11,v11),(12,(.add v12 (.lit (-1)))),(18,v30),(19,v19),(22,v22)],o170,o168,o157] w21 w106) (c38_ [[(4,(.add v4 v18)),(6,(.add v6 n1)),(11,v11),(12,(.add v12 (.lit (-1)))),(19,v19),(22,v22)],o168,o157] w21 w106)) (K_ f14 (c38_ [[(4,(.add v4 v18)),(6,n1),(11,v11),(12,(.add v12 (.lit (-1)))),(18,v30),(19,v19),(22,v22)],o170,o168,o157] w21 w107) (c38_ [[(4,(.add v4 v18)),(6,n1),(11,v11),(12,(.add v12 (.lit (-1)))),(19,v19),(22,v22)],o168,o157] w21 w107)))) (K_ f1 (c39_ [[(17,n0)],o173,o114] [] w103) (K_ f25 (K_ f14 (c38_ [[(4,(.add v4 v18)),(6,(.add v6 n1)),(11,v11),(12,(.add v12 (.lit (-1)))),(18,v30),(19,v19)],o170,o168] w21 w106) (c38_ [[(4,(.add v4 v18)),(6,(.add v6 n1)),(11,v11),(12,(.add v12 (.lit (-1)))),(19,v19)],o168] w21 w106)) (K_ f14 (c38_ [[(4,(.add v4 v18)),(6,n1),(11,v11),(12,(.add v12 (.lit (-1)))),(18,v30),(19,v19)],o170,o168] w21 w107) (c38_ [[(4,(.add v4 v18)),(6,n1),(11,v11),(12,(.add v12 (.lit (-1)))),(19,v19)],o168] w21 w107)))) a142
theorem Hb277 : H xb277 zb277 db277 := by delta H;kernel_rfl
theorem Kb277 : K 41 m41 xb277 db277 [p2,p8,p8,p9,p9,p2,p8,p8,p9,p9] := by delta K;kernel_rfl
theorem qb277 : Q 41 m41 xb277 zb277 := pK Hb277 Kb277
def db318 : D_ := K_ f11 (K_ f1 (c41_ [[(15,n0)],o189] [] w86) (K_ f25 (K_ f2 (c40_ [[(4,(.add v4 v16)),(6,(.add v6 n1)),(10,v10),(11,(.add v11 (.lit (-1)))),(16,v27)],o76,o190,o186] w26 w89) (c40_ [[(4,(.add v4 v16)),(6,(.add v6 n1)),(10,v10),(11,(.add v11 (.lit (-1))))],o76,o186] w26 w89)) (K_ f2 (c40_ [[(4,(.add v4 v16)),(6,n1),(10,v10),(11,(.add v11 (.lit (-1)))),(16,v27)],o76,o190,o186] w26 w90) (c40_ [[(4,(.add v4 v16)),(6,n1),(10,v10),(11,(.add v11 (.lit (-1))))],o76,o186] w26 w90)))) (K_ f1 (c41_ [[(15,n0)],o191,o58] [] w86) (K_ f25 (K_ f2 (c40_ [[(4,(.add v4 v16)),(6,(.add v6 n1)),(10,v10),(11,(.add v11 (.lit (-1)))),(16,v27)],o78,o190,o187] w26 w89) (c40_ [[(4,(.add v4 v16)),(6,(.add v6 n1)),(10,v10),(11,(.add v11 (.lit (-1))))],o78,o187] w26 w89)) (K_ f2 (c40_ [[(4,(.add v4 v16)),(6,n1),(10,v10),(11,(.add v11 (.lit (-1)))),(16,v27)],o78,o190,o187] w26 w90) (c40_ [[(4,(.add v4 v16)),(6,n1),(10,v10),(11,(.add v11 (.lit (-1))))],o78,o187] w26 w90)))) a106
theorem Hb318 : H xb318 zb318 db318 := by delta H;kernel_rfl
theorem Kb318 : K 42 m42 xb318 db318 [p2,p8,p8,p9,p9,p2,p8,p8,p9,p9] := by delta K;kernel_rfl
theorem qb318 : Q 42 m42 xb318 zb318 := pK Hb318 Kb318
def db319 : D_ := K_ f11 (K_ f1 (c41_ [[(15,n0),(18,n0)],o189,o61] [] w86) (K_ f25 (K_ f2 (c40_ [[(4,(.add v4 v16)),(6,(.add v6 n1)),(10,v10),(11,(.add v11 (.lit (-1)))),(16,v27),(17,v17),(19,v19)],o190,o188,o182] w26 w89) (c40_ [[(4,(.add v4 v16)),(6,(.add v6 n1)),(10,v10),(11,(.add v11 (.lit (-1)))),(17,v17),(19,v19)],o188,o182] w26 w89)) (K_ f2 (c40_ [[(4,(.add v4 v16)),(6,n1),(10,v10),(11,(.add v11 (.lit (-1)))),(16,v27),(17,v17),(19,v19)],o190,o188,o182] w26 w90) (c40_ [[(4,(.add v4 v16)),(6,n1),(10,v10),(11,(.add v11 (.lit (-1)))),(17,v17),(19,v19)],o188,o182] w26 w90)))) (K_ f1 (c41_ [[(15,n0)],o192,o66] [] w86) (K_ f25 (K_ f2 (c40_ [[(4,(.add v4 v16)),(6,(.add v6 n1)),(10,v10),(11,(.add v11 (.lit (-1)))),(16,v27),(17,v17)],o190,o188] w26 w89) (c40_ [[(4,(.add v4 v16)),(6,(.add v6 n1)),(10,v10),(11,(.add v11 (.lit (-1)))),(17,v17)],o188] w26 w89)) (K_ f2 (c40_ [[(4,(.add v4 v16)),(6,n1),(10,v10),(11,(.add v11 (.lit (-1)))),(16,v27),(17,v17)],o190,o188] w26 w90) (c40_ [[(4,(.add v4 v16)),(6,n1),(10,v10),(11,(.add v11 (.lit (-1)))),(17,v17)],o188] w26 w90)))) a107
theorem Hb319 : H xb319 zb319 db319 := by delta H;kernel_rfl
theorem Kb319 : K 42 m42 xb319 db319 [p2,p8,p8,p9,p9,p2,p8,p8,p9,p9] := by delta K;kernel_rfl
theorem qb319 : Q 42 m42 xb319 zb319 := pK Hb319 Kb319
def db328 : D_ := K_ f11 (K_ f1 (c41_ [o91,o189,o82] [] w86) (K_ f36 (K_ f28 (c40_ [[(4,(.add v4 v18)),(8,(.add v8 n1)),(10,v10),(13,(.add v13 (.lit (-1)))),(18,v45),(19,v19)],o194,o182] w26 w93) (c40_ [[(4,(.add v4 v18)),(8,(.add v8 n1)),(10,v10),(13,(.add v13 (.lit (-1)))),(19,v19)],o182] w26 w93)) (K_ f28 (c40_ [[(4,(.add v4 v18)),(8,n1),(10,v10),(13,(.add v13 (.lit (-1)))),(18,v45),(19,v19)],o194,o182] w26 w94) (c40_ [[(4,(.add v4 v18)),(8,n1),(10,v10),(13,(.add v13 (.lit (-1)))),(19,v19)],o182] w26 w94)))) (K_ f1 (c41_ [o91,o191,o82,o58] [] w86) (K_ f36 (K_ f28 (c40_ [[(4,(.add v4 v18)),(8,(.add v8 n1)),(10,v10),(13,(.add v13 (.lit (-1)))),(18,v45)],o194] w26 w93) (c40_ [[(4,(.add v4 v18)),(8,(.add v8 n1)),(10,v10),(13,(.add v13 (.lit (-1))))]] w26 w93)) (K_ f28 (c40_ [[(4,(.add v4 v18)),(8,n1),(10,v10),(13,(.add v13 (.lit (-1)))),(18,v45)],o194] w26 w94) (c40_ [[(4,(.add v4 v18)),(8,n1),(10,v10),(13,(.add v13 (.lit (-1))))]] w26 w94)))) a112
theorem Hb328 : H xb328 zb328 db328 := by delta H;kernel_rfl
theorem Kb328 : K 42 m42 xb328 db328 [p2,p20,p20,p21,p21,p2,p20,p45,p21,p46] := by delta K;kernel_rfl
theorem qb328 : Q 42 m42 xb328 zb328 := pK Hb328 Kb328
def db110 : D_ := K_ f10 (K_ f1 (c31_ [o46,o47] [] w72) (K_ f12 (K_ f34 (c30_ [[(5,(.add v5 n1)),(13,v17),(16,v16)],o43,o37] w31 w73) (c30_ [[(5,(.add v5 n1)),(16,v16)],o37] w31 w73)) (K_ f34 (c30_ [[(5,n1),(13,v17),(16,v16)],o43,o37] w31 w74) (c30_ [[(5,n1),(16,v16)],o37] w31 w74)))) (K_ f1 (c31_ [o2,o48] [] w72) (K_ f12 (K_ f34 (c30_ [[(5,(.add v5 n1)),(13,v17)],o43] w31 w73) (c30_ [[(5,(.add v5 n1))]] w31 w73)) (K_ f34 (c30_ [[(5,n1),(13,v17)],o43] w31 w74) (c30_ [[(5,n1)]] w31 w74)))) a84
theorem Hb110 : H xb110 zb110 db110 := by delta H;kernel_rfl
theorem Kb110 : K 33 (rk 3) xb110 db110 [p2,p1,p1,p1,p1,p2,p1,p23,p1,p23] := by delta K;kernel_rfl
theorem qb110 : Q 33 (rk 3) xb110 zb110 := pK Hb110 Kb110
def db342 : D_ := K_ f10 (K_ f1 (c43_ [o51,o203,o41] [] w72) (K_ f37 (K_ f2 (c42_ [[(4,(.add v4 v15)),(7,(.add v7 n1)),(9,v9),(11,(.add v11 (.lit (-1)))),(15,v34),(16,v16)],o206,o200] w31 w77) (c42_ [[(4,(.add v4 v15)),(7,(.add v7 n1)),(9,v9),(11,(.add v11 (.lit (-1)))),(16,v16)],o200] w31 w77)) (K_ f2 (c42_ [[(4,(.add v4 v15)),(7,n1),(9,v9),(11,(.add v11 (.lit (-1)))),(15,v34),(16,v16)],o206,o200] w31 w78) (c42_ [[(4,(.add v4 v15)),(7,n1),(9,v9),(11,(.add v11 (.lit (-1)))),(16,v16)],o200] w31 w78)))) (K_ f1 (c43_ [o51,o205,o41,o31] [] w72) (K_ f37 (K_ f2 (c42_ [[(4,(.add v4 v15)),(7,(.add v7 n1)),(9,v9),(11,(.add v11 (.lit (-1)))),(15,v34)],o206] w31 w77) (c42_ [[(4,(.add v4 v15)),(7,(.add v7 n1)),(9,v9),(11,(.add v11 (.lit (-1))))]] w31 w77)) (K_ f2 (c42_ [[(4,(.add v4 v15)),(7,n1),(9,v9),(11,(.add v11 (.lit (-1)))),(15,v34)],o206] w31 w78) (c42_ [[(4,(.add v4 v15)),(7,n1),(9,v9),(11,(.add v11 (.lit (-1))))]] w31 w78)))) a87
theorem Hb342 : H xb342 zb342 db342 := by delta H;kernel_rfl
theorem Kb342 : K 43 m43 xb342 db342 [p2,p11,p11,p12,p12,p2,p11,p39,p12,p40] := by delta K;kernel_rfl
theorem qb342 : Q 43 m43 xb342 zb342 := pK Hb342 Kb342
def db58 : D_ := K_ f27 (K_ (.lss n0 v31) (K_ (.lss n1 v31) (K_ f36 l35 (K_ f68 l8 l8)) (K_ f36 l35 (K_ f68 l8 l8))) (c16_ [[(7,n0),(34,n1),(37,n0)]] w39 w40)) (K_ f153 (K_ f154 (K_ f9 l36 (K_ f100 l8 l8)) (K_ f9 l36 (K_ f100 l8 l8))) (c16_ [[(7,n0),(34,n1),(38,n0)]] w39 w40)) [(f151,true),(f69,true),(f35,true),(f45,false),(f43,false)]
theorem Hb58 : H xb58 zb58 db58 := by delta H;kernel_rfl
theorem Kb58 : K 14 (rk 5) xb58 db58 [p22,p0,p0,p22,p0,p0,p14,p26,p0,p0,lT (pW [] 1) [(0,(cQ 10 (cM [522,3]) (cM [522,0]))),(2,(cQ 10 (cM [522,51,15423]) (cM [48,522,15420])))] [] .non,p0,p0,p14] := by delta K;kernel_rfl
theorem qb58 : Q 14 (rk 5) xb58 zb58 := pK Hb58 Kb58
def db79 : D_ := K_ f142 (K_ f128 (K_ (.lss n1 v38) (K_ f9 l55 (K_ f35 l8 l8)) (K_ f9 l55 (K_ f35 l8 l8))) (K_ (.lss n1 v38) (K_ f9 l56 (K_ f35 l8 l8)) (K_ f9 l56 (K_ f35 l8 l8)))) l57 [(f26,true),(f102,true),(f33,true),(f42,true),(f108,false),(f91,false),(f109,false),(f89,false),(f107,false),(f90,false),(f40,false),(f16,false)]
theorem Hb79 : H xb79 zb79 db79 := by delta H;kernel_rfl
theorem Kb79 : K 29 m29 xb79 db79 [p1,p0,p0,p1,p0,p0,p1,p0,p0,p1,p0,p0,p7] := by delta K;kernel_rfl
theorem qb79 : Q 29 m29 xb79 zb79 := pK Hb79 Kb79
def db125 : D_ := K_ f147 (K_ f140 (K_ f150 (K_ f93 l78 (K_ f68 l8 l8)) (K_ f93 l78 (K_ f68 l8 l8))) (K_ f150 (K_ f93 l79 (K_ f68 l8 l8)) (K_ f93 l79 (K_ f68 l8 l8)))) l75 [(f74,true),(f38,false),(f26,false),(f46,true),(f33,true),(f42,true),(f81,false),(f57,false),(f83,false),(f56,false),(f85,false),(f55,false),(f84,false),(f53,false),(f82,false),(f54,false),(f40,false),(f16,false)]
theorem Hb125 : H xb125 zb125 db125 := by delta H;kernel_rfl
theorem Kb125 : K 35 m35 xb125 db125 [p6,p0,p0,p6,p0,p0,p6,p0,p0,p6,p0,p0,p7] := by delta K;kernel_rfl
theorem qb125 : Q 35 m35 xb125 zb125 := pK Hb125 Kb125
def db16 : D_ := K_ f153 (K_ f154 (K_ f39 l7 (K_ f68 l8 l8)) (K_ f39 l7 (K_ f68 l8 l8))) (c12_ [[(8,n0),(35,n1),(42,n0)]] w19 w20) [(f27,true),(f144,true),(f35,true),(f94,false),(f92,false),(f87,false),(f99,false),(f110,false),(f120,false),(f124,false),(f94,false)]
theorem Hb16 : H xb16 zb16 db16 := by delta H;kernel_rfl
theorem Kb16 : K 6 (rk 5) xb16 db16 [p22,p0,p0,p22,p0,p0,p14] := by delta K;kernel_rfl
theorem qb16 : Q 6 (rk 5) xb16 zb16 := pK Hb16 Kb16
def db41 : D_ := K_ (.lss n0 v31) (K_ (.lss n1 v31) (K_ f36 l24 (K_ f68 l8 l8)) (K_ f36 l24 (K_ f68 l8 l8))) (c14_ [[(7,n0),(34,n1),(39,n0)]] w29 w30) [(f27,true),(f113,true),(f69,true),(f35,true),(f45,false),(f43,false),(f63,false),(f106,false)]
theorem Hb41 : H xb41 zb41 db41 := by delta H;kernel_rfl
theorem Kb41 : K 10 (rk 5) xb41 db41 [p22,p0,p0,p22,p0,p0,p14] := by delta K;kernel_rfl
theorem qb41 : Q 10 (rk 5) xb41 zb41 := pK Hb41 Kb41
def db83 : D_ := l57 [(f102,false),(f33,true),(f42,true),(f108,false),(f91,false),(f109,false),(f89,false),(f107,false),(f90,false),(f40,false),(f16,false)]
theorem Hb83 : H xb83 zb83 db83 := by delta H;kernel_rfl
theorem Kb83 : K 29 m29 xb83 db83 [p7] := by delta K;kernel_rfl
theorem qb83 : Q 29 m29 xb83 zb83 := pK Hb83 Kb83
def d19 : D_ := c19_ [[(3,(.add v3 n1))]] [(.var 0)] [r0] []
theorem H19 : H g19 (t19.cfg) d19 := by delta H;kernel_rfl
theorem K19 : K 19 m19 g19 d19 [lE] := by delta K;kernel_rfl
theorem q19 : Q 19 m19 g19 t19.cfg := pK H19 K19
def db65 : D_ := l47 [(f42,false),(f133,false),(f122,false),(f40,false),(f16,false)]
theorem Hb65 : H xb65 zb65 db65 := by delta H;kernel_rfl
theorem Kb65 : K 23 m23 xb65 db65 [p18] := by delta K;kernel_rfl
theorem qb65 : Q 23 m23 xb65 zb65 := pK Hb65 Kb65

end
end Go.Proofs.Ytnkeojkniohjhaa.machineSums
