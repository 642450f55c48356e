/- Parts of the plan for the law MachineSums: each is one kernel run. -/
import Derived.Test.YtnkeojkniohjhaaMachineSumsPlan
set_option linter.unusedVariables false
namespace Go.Proofs.Ytnkeojkniohjhaa.machineSums
open Go Go.Ev
noncomputable section

def db183 : D_ := K_ f23 (K_ f1 (c37_ [[(20,n0)],o107] [] w103) (K_ f12 (K_ f2 (c36_ [[(5,(.add v5 n1)),(17,v23)],o68,o108,o96,o109,o110,[(75,v31)]] w21 w104) (c36_ [[(5,(.add v5 n1))],o68,o108,o109,o110] w21 w104)) (K_ f2 (c36_ [[(5,n1),(17,v23)],o68,o108,o96,o109,o110,[(75,v31)]] w21 w105) (c36_ [[(5,n1)],o68,o108,o109,o110] w21 w105)))) (K_ f1 (c37_ [[(20,n0),(22,n0)],o107,o98] [] w103) (K_ f12 (K_ f2 (c36_ [[(5,(.add v5 n1)),(17,v23)],o68,[(21,v21)],o96,o109,o111,[(75,v31)]] w21 w104) (c36_ [[(5,(.add v5 n1))],o68,[(21,v21)],o109,o111] w21 w104)) (K_ f2 (c36_ [[(5,n1),(17,v23)],o68,[(21,v21)],o96,o109,o111,[(75,v31)]] w21 w105) (c36_ [[(5,n1)],o68,[(21,v21)],o109,o111] w21 w105)))) a125
theorem Hb183 : H xb183 zb183 db183 := by delta H;kernel_rfl
theorem Kb183 : K 39 (rk 3) xb183 db183 [p2,p1,p1,p1,p1,p2,p1,p1,p1,p1] := by delta K;kernel_rfl
theorem qb183 : Q 39 (rk 3) xb183 zb183 := pK Hb183 Kb183
def db184 : D_ := K_ f23 (K_ f1 (c37_ [o112,o113] [] w103) (K_ f12 (K_ f2 (c36_ [[(5,(.add v5 n1)),(17,v23)],o68,[(22,v22)],o96,o109,o104,[(75,v31)]] w21 w104) (c36_ [[(5,(.add v5 n1))],o68,[(22,v22)],o109,o104] w21 w104)) (K_ f2 (c36_ [[(5,n1),(17,v23)],o68,[(22,v22)],o96,o109,o104,[(75,v31)]] w21 w105) (c36_ [[(5,n1)],o68,[(22,v22)],o109,o104] w21 w105)))) (K_ f1 (c37_ [o4,o114] [] w103) (K_ f12 (K_ f2 (c36_ [[(5,(.add v5 n1)),(17,v23)],o68,o96,o109,[(75,v31)]] w21 w104) (c36_ [[(5,(.add v5 n1))],o68,o109] w21 w104)) (K_ f2 (c36_ [[(5,n1),(17,v23)],o68,o96,o109,[(75,v31)]] w21 w105) (c36_ [[(5,n1)],o68,o109] w21 w105)))) a126
theorem Hb184 : H xb184 zb184 db184 := by delta H;kernel_rfl
theorem Kb184 : K 39 (rk 3) xb184 db184 [p2,p1,p1,p1,p1,p2,p1,p1,p1,p1] := by delta K;kernel_rfl
theorem qb184 : Q 39 (rk 3) xb184 zb184 := pK Hb184 Kb184
def db250 : D_ := K_ f23 (K_ f1 (c39_ [[(19,n0),(21,n0)],o115,o101] [] w103) (K_ f12 (K_ f2 (c38_ [[(5,(.add v5 n1)),(17,v23),(18,v18),(20,v20),(22,v22)],o153,[(29,v75)],o161,o164,o157] w21 w104) (c38_ [[(5,(.add v5 n1)),(18,v18),(20,v20),(22,v22)],o161,o164,o157] w21 w104)) (K_ f2 (c38_ [[(5,n1),(17,v23),(18,v18),(20,v20),(22,v22)],o153,[(29,v75)],o161,o164,o157] w21 w105) (c38_ [[(5,n1),(18,v18),(20,v20),(22,v22)],o161,o164,o157] w21 w105)))) (K_ f1 (c39_ [[(19,n0)],o105,o115,o106] [] w103) (K_ f12 (K_ f2 (c38_ [[(5,(.add v5 n1)),(17,v23),(18,v18),(20,v20)],o153,[(29,v75)],o161,o164] w21 w104) (c38_ [[(5,(.add v5 n1)),(18,v18),(20,v20)],o161,o164] w21 w104)) (K_ f2 (c38_ [[(5,n1),(17,v23),(18,v18),(20,v20)],o153,[(29,v75)],o161,o164] w21 w105) (c38_ [[(5,n1),(18,v18),(20,v20)],o161,o164] w21 w105)))) a128
theorem Hb250 : H xb250 zb250 db250 := by delta H;kernel_rfl
theorem Kb250 : K 41 m41 xb250 db250 [p2,p4,p4,p5,p5,p2,p4,p4,p5,p5] := by delta K;kernel_rfl
theorem qb250 : Q 41 m41 xb250 zb250 := pK Hb250 Kb250
def db199 : D_ := K_ f23 (K_ f1 (c37_ [[(18,n0)],o112,o17,o113] [] w103) (K_ f12 (K_ f2 (c36_ [[(5,(.add v5 n1)),(17,v23),(19,v19),(22,v22)],o96,o134,o104,[(75,v31)]] w21 w104) (c36_ [[(5,(.add v5 n1)),(19,v19),(22,v22)],o134,o104] w21 w104)) (K_ f2 (c36_ [[(5,n1),(17,v23),(19,v19),(22,v22)],o96,o134,o104,[(75,v31)]] w21 w105) (c36_ [[(5,n1),(19,v19),(22,v22)],o134,o104] w21 w105)))) (K_ f1 (c37_ [[(18,n0)],o4,o17,o114] [] w103) (K_ f12 (K_ f2 (c36_ [[(5,(.add v5 n1)),(17,v23),(19,v19)],o96,o134,[(75,v31)]] w21 w104) (c36_ [[(5,(.add v5 n1)),(19,v19)],o134] w21 w104)) (K_ f2 (c36_ [[(5,n1),(17,v23),(19,v19)],o96,o134,[(75,v31)]] w21 w105) (c36_ [[(5,n1),(19,v19)],o134] w21 w105)))) a134
theorem Hb199 : H xb199 zb199 db199 := by delta H;kernel_rfl
theorem Kb199 : K 39 (rk 3) xb199 db199 [p2,p1,p1,p1,p1,p2,p1,p1,p1,p1] := by delta K;kernel_rfl
theorem qb199 : Q 39 (rk 3) xb199 zb199 := pK Hb199 Kb199
def db267 : D_ := K_ f23 (K_ f1 (c39_ [o136,o137] [] w103) (K_ f12 (K_ f2 (c38_ [[(5,(.add v5 n1)),(17,v23)],o108,o153,[(29,v75)],o159] w21 w104) (c38_ [[(5,(.add v5 n1))],o108,o159] w21 w104)) (K_ f2 (c38_ [[(5,n1),(17,v23)],o108,o153,[(29,v75)],o159] w21 w105) (c38_ [[(5,n1)],o108,o159] w21 w105)))) (K_ f1 (c39_ [o136,[(22,n0)],o137,o98] [] w103) (K_ f12 (K_ f2 (c38_ [[(5,(.add v5 n1)),(17,v23),(21,v21)],o153,[(29,v75)],o160] w21 w104) (c38_ [[(5,(.add v5 n1)),(21,v21)],o160] w21 w104)) (K_ f2 (c38_ [[(5,n1),(17,v23),(21,v21)],o153,[(29,v75)],o160] w21 w105) (c38_ [[(5,n1),(21,v21)],o160] w21 w105)))) a137
theorem Hb267 : H xb267 zb267 db267 := by delta H;kernel_rfl
theorem Kb267 : K 41 m41 xb267 db267 [p2,p4,p4,p5,p5,p2,p4,p4,p5,p5] := by delta K;kernel_rfl
theorem qb267 : Q 41 m41 xb267 zb267 := pK Hb267 Kb267
def db310 : D_ := K_ f11 (K_ f1 (c41_ [[(16,n0)],o75] [] w86) (K_ f12 (K_ f15 (c40_ [[(5,(.add v5 n1)),(15,v20)],o76,o178,[(26,v63)],o186] w26 w87) (c40_ [[(5,(.add v5 n1))],o76,o186] w26 w87)) (K_ f15 (c40_ [[(5,n1),(15,v20)],o76,o178,[(26,v63)],o186] w26 w88) (c40_ [[(5,n1)],o76,o186] w26 w88)))) (K_ f1 (c41_ [[(16,n0),(19,n0)],o75,o58] [] w86) (K_ f12 (K_ f15 (c40_ [[(5,(.add v5 n1)),(15,v20)],o78,o178,[(26,v63)],o187] w26 w87) (c40_ [[(5,(.add v5 n1))],o78,o187] w26 w87)) (K_ f15 (c40_ [[(5,n1),(15,v20)],o78,o178,[(26,v63)],o187] w26 w88) (c40_ [[(5,n1)],o78,o187] w26 w88)))) a102
theorem Hb310 : H xb310 zb310 db310 := by delta H;kernel_rfl
theorem Kb310 : K 42 m42 xb310 db310 [p2,p4,p4,p5,p5,p2,p4,p4,p5,p5] := by delta K;kernel_rfl
theorem qb310 : Q 42 m42 xb310 zb310 := pK Hb310 Kb310
def db313 : D_ := K_ f11 (K_ f1 (c41_ [o81,o82] [] w86) (K_ f12 (K_ f15 (c40_ [[(5,(.add v5 n1)),(15,v20)],o68,o178,[(26,v63)],o184] w26 w87) (c40_ [[(5,(.add v5 n1))],o68,o184] w26 w87)) (K_ f15 (c40_ [[(5,n1),(15,v20)],o68,o178,[(26,v63)],o184] w26 w88) (c40_ [[(5,n1)],o68,o184] w26 w88)))) (K_ f1 (c41_ [o81,[(19,n0)],o82,o58] [] w86) (K_ f12 (K_ f15 (c40_ [[(5,(.add v5 n1)),(15,v20),(18,v18)],o178,[(26,v63)],o185] w26 w87) (c40_ [[(5,(.add v5 n1)),(18,v18)],o185] w26 w87)) (K_ f15 (c40_ [[(5,n1),(15,v20),(18,v18)],o178,[(26,v63)],o185] w26 w88) (c40_ [[(5,n1),(18,v18)],o185] w26 w88)))) a104
theorem Hb313 : H xb313 zb313 db313 := by delta H;kernel_rfl
theorem Kb313 : K 42 m42 xb313 db313 [p2,p4,p4,p5,p5,p2,p4,p4,p5,p5] := by delta K;kernel_rfl
theorem qb313 : Q 42 m42 xb313 zb313 := pK Hb313 Kb313
def db326 : D_ := K_ f11 (K_ f1 (c41_ [o39,[(18,n0)],o189,o75,o61] [] w86) (K_ f37 (K_ f14 (c40_ [[(4,(.add v4 v17)),(7,(.add v7 n1)),(10,v10),(12,(.add v12 (.lit (-1)))),(17,v36),(19,v19)],o193,o182] w26 w91) (c40_ [[(4,(.add v4 v17)),(7,(.add v7 n1)),(10,v10),(12,(.add v12 (.lit (-1)))),(19,v19)],o182] w26 w91)) (K_ f14 (c40_ [[(4,(.add v4 v17)),(7,n1),(10,v10),(12,(.add v12 (.lit (-1)))),(17,v36),(19,v19)],o193,o182] w26 w92) (c40_ [[(4,(.add v4 v17)),(7,n1),(10,v10),(12,(.add v12 (.lit (-1)))),(19,v19)],o182] w26 w92)))) (K_ f1 (c41_ [o39,o192,o75,o66] [] w86) (K_ f37 (K_ f14 (c40_ [[(4,(.add v4 v17)),(7,(.add v7 n1)),(10,v10),(12,(.add v12 (.lit (-1)))),(17,v36)],o193] w26 w91) (c40_ [[(4,(.add v4 v17)),(7,(.add v7 n1)),(10,v10),(12,(.add v12 (.lit (-1))))]] w26 w91)) (K_ f14 (c40_ [[(4,(.add v4 v17)),(7,n1),(10,v10),(12,(.add v12 (.lit (-1)))),(17,v36)],o193] w26 w92) (c40_ [[(4,(.add v4 v17)),(7,n1),(10,v10),(12,(.add v12 (.lit (-1))))]] w26 w92)))) a111
theorem Hb326 : H xb326 zb326 db326 := by delta H;kernel_rfl
theorem Kb326 : K 42 m42 xb326 db326 [p2,p11,p11,p12,p12,p2,p11,p39,p12,p40] := by delta K;kernel_rfl
theorem qb326 : Q 42 m42 xb326 zb326 := pK Hb326 Kb326
def db2 : D_ := c1_ [[(0,v0),(1,v2),(5,v3),(6,v4),(7,v5),(8,v6),(9,v7),(10,v8),(11,v9),(12,v10),(13,v11),(14,v12),(15,v13),(16,v14),(17,v15),(18,v16),(19,v17),(20,v18),(21,v19),(22,v20),(23,v21),(24,v22),(25,v23),(26,v24),(27,v25),(28,v26)]] [(.lit false),(.var 18),(.var 19),(.var 2),(.var 3),(.var 4),(.var 5),(.var 6),(.var 7),(.var 8),(.var 9),(.var 10),(.var 11),(.var 12),(.var 13),(.var 14),(.var 15),(.var 16),(.var 17)] [r9,r1,r2,r3,r4,r5,r6,r7,r8] [((.lss n0 v1),false),(f35,true),((.lss v26 v25),false),((.lss v23 v22),false),((.lss v20 v19),false),((.lss v17 v16),false),((.lss v14 v13),false),((.lss v11 v10),false),((.lss v8 v7),false),((.lss v5 v4),false),((.lss v2 v1),false),((.lss v29 v28),false)]
theorem qb2 : QQ 47 { rank := top } false xb2 zb2 := Cl.partK 1000000 db2 [lE] (by kernel_rfl) (by kernel_rfl) (by kernel_rfl)
def db88 : D_ := K_ f24 (K_ f1 (c28_ [[(12,n0)],o20] [] w61) (K_ f12 (K_ f71 (c27_ [[(5,(.add v5 n1)),(11,v14),(13,v13)],o21,o22] w36 w62) (c27_ [[(5,(.add v5 n1)),(13,v13)],o22] w36 w62)) (K_ f71 (c27_ [[(5,n1),(11,v14),(13,v13)],o21,o22] w36 w63) (c27_ [[(5,n1),(13,v13)],o22] w36 w63)))) (K_ f1 (c28_ [o23,o24] [] w61) (K_ f12 (K_ f71 (c27_ [[(5,(.add v5 n1)),(11,v14)],o21] w36 w62) (c27_ [[(5,(.add v5 n1))]] w36 w62)) (K_ f71 (c27_ [[(5,n1),(11,v14)],o21] w36 w63) (c27_ [[(5,n1)]] w36 w63)))) a70
theorem Hb88 : H xb88 zb88 db88 := by delta H;kernel_rfl
theorem Kb88 : K 30 (rk 3) xb88 db88 [p2,p1,p1,p1,p1,p2,p1,p23,p1,p23] := by delta K;kernel_rfl
theorem qb88 : Q 30 (rk 3) xb88 zb88 := pK Hb88 Kb88
def db161 : D_ := K_ f11 (K_ f1 (c34_ [o93,[(20,n0),(21,n0),(22,n0),(23,n0),(24,n0),(25,n0),(26,n0),(27,n0),(28,n0),(29,n0),(30,n0),(31,n0),(32,n0),(33,n0),(34,n0),(35,n0),(36,n0),(37,n0),(38,n0),(39,n0),(40,n0),(41,n0),(42,n0),(43,n0),(44,n0),(45,n0),(46,n0),(47,n0),(48,n0),(49,n0),(50,n0),(51,n0),(52,n0),(53,n0),(54,n0),(55,n0)]] [] w86) (K_ f39 (K_ f62 (c33_ [[(4,(.add v4 v19)),(9,(.add v9 n1)),(10,v10),(14,(.add v14 (.lit (-1)))),(19,v56)],o94] w26 w95) (c33_ [[(4,(.add v4 v19)),(9,(.add v9 n1)),(10,v10),(14,(.add v14 (.lit (-1))))]] w26 w95)) (K_ f62 (c33_ [[(4,(.add v4 v19)),(9,n1),(10,v10),(14,(.add v14 (.lit (-1)))),(19,v56)],o94] w26 w96) (c33_ [[(4,(.add v4 v19)),(9,n1),(10,v10),(14,(.add v14 (.lit (-1))))]] w26 w96)))) (c34_ [[(15,n0),(16,n0),(17,n0),(18,n0),(19,n0),(20,n0),(21,n0),(22,n0),(23,n0),(24,n0),(25,n0),(26,n0),(27,n0),(28,n0),(29,n0),(30,n0),(31,n0),(32,n0),(33,n0),(34,n0),(35,n0),(36,n0),(37,n0),(38,n0),(39,n0),(40,n0),(41,n0),(42,n0),(43,n0),(44,n0),(45,n0),(46,n0),(47,n0),(48,n0),(49,n0),(50,n0),(51,n0),(52,n0),(53,n0),(54,n0),(55,n0),(56,n0),(57,n0),(58,n0),(59,n0),(60,n0),(61,n0),(62,n0),(63,n0),(64,n0)]] [] w86) a113
theorem Hb161 : H xb161 zb161 db161 := by delta H;kernel_rfl
theorem Kb161 : K 36 (rk 3) xb161 db161 [p2,p17,p29,p17,p29,p24] := by delta K;kernel_rfl
theorem qb161 : Q 36 (rk 3) xb161 zb161 := pK Hb161 Kb161
def db63 : D_ := K_ (.lss (.rem (.sel .u64 r0 (.mul v9 n2)) n6) n1) (K_ f128 (K_ f37 (K_ (.lss n1 v35) (K_ f9 l44 (K_ f35 l8 l8)) (K_ f9 l44 (K_ f35 l8 l8))) (K_ (.lss n1 v35) (K_ f9 l45 (K_ f35 l8 l8)) (K_ f9 l45 (K_ f35 l8 l8)))) l46) l46 [(f33,true),(f42,true),(f133,false),(f122,false),(f40,false),(f16,false)]
theorem Hb63 : H xb63 zb63 db63 := by delta H;kernel_rfl
theorem Kb63 : K 23 m23 xb63 db63 [p31,p0,p0,p31,p0,p0,p31,p0,p0,lT (pW [] 2) [(1,(cQ 10 (cM [51,522,63]) (cM [522,60,48])))] [] .non,p0,p0,p18,p18] := by delta K;kernel_rfl
theorem qb63 : Q 23 m23 xb63 zb63 := pK Hb63 Kb63
def db127 : D_ := K_ (.lss n0 v43) (K_ f142 (K_ (.lss n1 v43) (K_ f121 l80 (K_ f100 l8 l8)) (K_ f121 l80 (K_ f100 l8 l8))) (K_ (.lss n1 v43) (K_ f121 l81 (K_ f100 l8 l8)) (K_ f121 l81 (K_ f100 l8 l8)))) l75 [(f136,true),(f74,false),(f38,false),(f26,false),(f46,true),(f33,true),(f42,true),(f81,false),(f57,false),(f83,false),(f56,false),(f85,false),(f55,false),(f84,false),(f53,false),(f82,false),(f54,false),(f40,false),(f16,false)]
theorem Hb127 : H xb127 zb127 db127 := by delta H;kernel_rfl
theorem Kb127 : K 35 m35 xb127 db127 [p10,p0,p0,p10,p0,p0,p10,p0,p0,p10,p0,p0,p7] := by delta K;kernel_rfl
theorem qb127 : Q 35 m35 xb127 zb127 := pK Hb127 Kb127
def db18 : D_ := K_ (.lss n0 v33) (K_ (.lss n1 v33) (K_ f10 l9 (K_ f100 l8 l8)) (K_ f10 l9 (K_ f100 l8 l8))) (c12_ [[(8,n0),(35,n1),(43,n0)]] w19 w20) [(f41,true),(f27,false),(f144,true),(f35,true),(f94,false),(f92,false),(f87,false),(f99,false),(f110,false),(f120,false),(f124,false),(f94,false)]
theorem Hb18 : H xb18 zb18 db18 := by delta H;kernel_rfl
theorem Kb18 : K 6 (rk 5) xb18 db18 [p26,p0,p0,p26,p0,p0,p14] := by delta K;kernel_rfl
theorem qb18 : Q 6 (rk 5) xb18 zb18 := pK Hb18 Kb18
def db43 : D_ := K_ f153 (K_ f154 (K_ f9 l25 (K_ f100 l8 l8)) (K_ f9 l25 (K_ f100 l8 l8))) (c14_ [[(7,n0),(34,n1),(40,n0)]] w29 w30) [(f41,true),(f27,false),(f113,true),(f69,true),(f35,true),(f45,false),(f43,false),(f63,false),(f106,false)]
theorem Hb43 : H xb43 zb43 db43 := by delta H;kernel_rfl
theorem Kb43 : K 10 (rk 5) xb43 db43 [p26,p0,p0,p26,p0,p0,p14] := by delta K;kernel_rfl
theorem qb43 : Q 10 (rk 5) xb43 zb43 := pK Hb43 Kb43
def db101 : D_ := l65 [(f73,false),(f33,true),(f42,true),(f95,false),(f66,false),(f98,false),(f67,false),(f96,false),(f65,false),(f97,false),(f64,false),(f40,false),(f16,false)]
theorem Hb101 : H xb101 zb101 db101 := by delta H;kernel_rfl
theorem Kb101 : K 32 m32 xb101 db101 [p7] := by delta K;kernel_rfl
theorem qb101 : Q 32 m32 xb101 zb101 := pK Hb101 Kb101
def db25 : D_ := K_ f86 l14 l14 [(f35,false),(f94,false),(f92,false),(f87,false),(f99,false),(f110,false),(f120,false),(f124,false),(f94,false)]
theorem Hb25 : H xb25 zb25 db25 := by delta H;kernel_rfl
theorem Kb25 : K 6 (rk 5) xb25 db25 [p15,p15] := by delta K;kernel_rfl
theorem qb25 : Q 6 (rk 5) xb25 zb25 := pK Hb25 Kb25
def db72 : D_ := l54 [(f33,false),(f42,true),(f111,false),(f104,false),(f112,false),(f103,false),(f40,false),(f16,false)]
theorem Hb72 : H xb72 zb72 db72 := by delta H;kernel_rfl
theorem Kb72 : K 26 m26 xb72 db72 [p7] := by delta K;kernel_rfl
theorem qb72 : Q 26 m26 xb72 zb72 := pK Hb72 Kb72

end
end Go.Proofs.Ytnkeojkniohjhaa.machineSums
