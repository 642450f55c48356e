/- Parts of the plan for the law MachineSums: each is one kernel run. -/
import Derived.Test.YtnkeojkniohjhaaMachineSumsPlan
set_option linter.unusedVariables false
namespace Go.Proofs.Ytnkeojkniohjhaa.machineSums
open Go Go.Ev
noncomputable section

def db245 : D_ := K_ f23 (K_ f1 (c39_ [[(20,n0)],o107] [] w103) (K_ f12 (K_ f2 (c38_ [[(5,(.add v5 n1)),(17,v23)],o68,o108,o153,[(29,v75)],o158,o159] w21 w104) (c38_ [[(5,(.add v5 n1))],o68,o108,o158,o159] w21 w104)) (K_ f2 (c38_ [[(5,n1),(17,v23)],o68,o108,o153,[(29,v75)],o158,o159] w21 w105) (c38_ [[(5,n1)],o68,o108,o158,o159] w21 w105)))) (K_ f1 (c39_ [[(20,n0),(22,n0)],o107,o98] [] w103) (K_ f12 (K_ f2 (c38_ [[(5,(.add v5 n1)),(17,v23)],o68,[(21,v21)],o153,[(29,v75)],o158,o160] w21 w104) (c38_ [[(5,(.add v5 n1))],o68,[(21,v21)],o158,o160] w21 w104)) (K_ f2 (c38_ [[(5,n1),(17,v23)],o68,[(21,v21)],o153,[(29,v75)],o158,o160] w21 w105) (c38_ [[(5,n1)],o68,[(21,v21)],o158,o160] w21 w105)))) a125
theorem Hb245 : H xb245 zb245 db245 := by delta H;kernel_rfl
theorem Kb245 : K 41 m41 xb245 db245 [p2,p4,p4,p5,p5,p2,p4,p4,p5,p5] := by delta K;kernel_rfl
theorem qb245 : Q 41 m41 xb245 zb245 := pK Hb245 Kb245
def db202 : D_ := K_ f23 (K_ f1 (c37_ [o65,o135] [] w103) (K_ f12 (K_ f2 (c36_ [[(5,(.add v5 n1)),(17,v23)],o116,o96,o118,[(75,v31)]] w21 w104) (c36_ [[(5,(.add v5 n1))],o116,o118] w21 w104)) (K_ f2 (c36_ [[(5,n1),(17,v23)],o116,o96,o118,[(75,v31)]] w21 w105) (c36_ [[(5,n1)],o116,o118] w21 w105)))) (K_ f1 (c37_ [o65,[(22,n0)],o135,o98] [] w103) (K_ f12 (K_ f2 (c36_ [[(5,(.add v5 n1)),(17,v23)],o119,o96,o120,[(75,v31)]] w21 w104) (c36_ [[(5,(.add v5 n1))],o119,o120] w21 w104)) (K_ f2 (c36_ [[(5,n1),(17,v23)],o119,o96,o120,[(75,v31)]] w21 w105) (c36_ [[(5,n1)],o119,o120] w21 w105)))) a135
theorem Hb202 : H xb202 zb202 db202 := by delta H;kernel_rfl
theorem Kb202 : K 39 (rk 3) xb202 db202 [p2,p1,p1,p1,p1,p2,p1,p1,p1,p1] := by delta K;kernel_rfl
theorem qb202 : Q 39 (rk 3) xb202 zb202 := pK Hb202 Kb202
def db274 : D_ := K_ f23 (K_ f1 (c39_ [[(17,n0),(21,n0)],o169,o101] [] w103) (K_ f25 (K_ f14 (c38_ [[(4,(.add v4 v18)),(6,(.add v6 n1)),(11,v11),(12,(.add v12 (.lit (-1)))),(18,v30)],o132,[(22,v22)],o170,o167,o157] w21 w106) (c38_ [[(4,(.add v4 v18)),(6,(.add v6 n1)),(11,v11),(12,(.add v12 (.lit (-1))))],o132,[(22,v22)],o167,o157] w21 w106)) (K_ f14 (c38_ [[(4,(.add v4 v18)),(6,n1),(11,v11),(12,(.add v12 (.lit (-1)))),(18,v30)],o132,[(22,v22)],o170,o167,o157] w21 w107) (c38_ [[(4,(.add v4 v18)),(6,n1),(11,v11),(12,(.add v12 (.lit (-1))))],o132,[(22,v22)],o167,o157] w21 w107)))) (K_ f1 (c39_ [[(17,n0)],o172,o106] [] w103) (K_ f25 (K_ f14 (c38_ [[(4,(.add v4 v18)),(6,(.add v6 n1)),(11,v11),(12,(.add v12 (.lit (-1)))),(18,v30)],o132,o170,o167] w21 w106) (c38_ [[(4,(.add v4 v18)),(6,(.add v6 n1)),(11,v11),(12,(.add v12 (.lit (-1))))],o132,o167] w21 w106)) (K_ f14 (c38_ [[(4,(.add v4 v18)),(6,n1),(11,v11),(12,(.add v12 (.lit (-1)))),(18,v30)],o132,o170,o167] w21 w107) (c38_ [[(4,(.add v4 v18)),(6,n1),(11,v11),(12,(.add v12 (.lit (-1))))],o132,o167] w21 w107)))) a140
theorem Hb274 : H xb274 zb274 db274 := by delta H;kernel_rfl
theorem Kb274 : K 41 m41 xb274 db274 [p2,p8,p8,p9,p9,p2,p8,p8,p9,p9] := by delta K;kernel_rfl
theorem qb274 : Q 41 m41 xb274 zb274 := pK Hb274 Kb274
def db221 : D_ := K_ f23 (K_ f1 (c37_ [[(17,n0)],o122,o20,o123] [] w103) (K_ f25 (K_ f14 (c36_ [[(4,(.add v4 v18)),(6,(.add v6 n1)),(11,v11),(12,(.add v12 (.lit (-1)))),(18,v32)],o108,o142,o110] w21 w106) (c36_ [[(4,(.add v4 v18)),(6,(.add v6 n1)),(11,v11),(12,(.add v12 (.lit (-1))))],o108,o110] w21 w106)) (K_ f14 (c36_ [[(4,(.add v4 v18)),(6,n1),(11,v11),(12,(.add v12 (.lit (-1)))),(18,v32)],o108,o142,o110] w21 w107) (c36_ [[(4,(.add v4 v18)),(6,n1),(11,v11),(12,(.add v12 (.lit (-1))))],o108,o110] w21 w107)))) (K_ f1 (c37_ [[(17,n0)],o122,o143,o123,o98] [] w103) (K_ f25 (K_ f14 (c36_ [[(4,(.add v4 v18)),(6,(.add v6 n1)),(11,v11),(12,(.add v12 (.lit (-1)))),(18,v32),(21,v21)],o142,o111] w21 w106) (c36_ [[(4,(.add v4 v18)),(6,(.add v6 n1)),(11,v11),(12,(.add v12 (.lit (-1)))),(21,v21)],o111] w21 w106)) (K_ f14 (c36_ [[(4,(.add v4 v18)),(6,n1),(11,v11),(12,(.add v12 (.lit (-1)))),(18,v32),(21,v21)],o142,o111] w21 w107) (c36_ [[(4,(.add v4 v18)),(6,n1),(11,v11),(12,(.add v12 (.lit (-1)))),(21,v21)],o111] w21 w107)))) a145
theorem Hb221 : H xb221 zb221 db221 := by delta H;kernel_rfl
theorem Kb221 : K 39 (rk 3) xb221 db221 [p2,p3,p3,p3,p3,p2,p3,p3,p3,p3] := by delta K;kernel_rfl
theorem qb221 : Q 39 (rk 3) xb221 zb221 := pK Hb221 Kb221
def db291 : D_ := K_ f23 (K_ f1 (c39_ [o72,[(20,n0)],o169,o17,o107] [] w103) (K_ f37 (K_ f28 (c38_ [[(4,(.add v4 v19)),(7,(.add v7 n1)),(11,v11),(13,(.add v13 (.lit (-1)))),(19,v39)],o108,o174,o159] w21 w108) (c38_ [[(4,(.add v4 v19)),(7,(.add v7 n1)),(11,v11),(13,(.add v13 (.lit (-1))))],o108,o159] w21 w108)) (K_ f28 (c38_ [[(4,(.add v4 v19)),(7,n1),(11,v11),(13,(.add v13 (.lit (-1)))),(19,v39)],o108,o174,o159] w21 w109) (c38_ [[(4,(.add v4 v19)),(7,n1),(11,v11),(13,(.add v13 (.lit (-1))))],o108,o159] w21 w109)))) (K_ f1 (c39_ [o72,[(20,n0)],o171,o17,o107,o98] [] w103) (K_ f37 (K_ f28 (c38_ [[(4,(.add v4 v19)),(7,(.add v7 n1)),(11,v11),(13,(.add v13 (.lit (-1)))),(19,v39),(21,v21)],o174,o160] w21 w108) (c38_ [[(4,(.add v4 v19)),(7,(.add v7 n1)),(11,v11),(13,(.add v13 (.lit (-1)))),(21,v21)],o160] w21 w108)) (K_ f28 (c38_ [[(4,(.add v4 v19)),(7,n1),(11,v11),(13,(.add v13 (.lit (-1)))),(19,v39),(21,v21)],o174,o160] w21 w109) (c38_ [[(4,(.add v4 v19)),(7,n1),(11,v11),(13,(.add v13 (.lit (-1)))),(21,v21)],o160] w21 w109)))) a149
theorem Hb291 : H xb291 zb291 db291 := by delta H;kernel_rfl
theorem Kb291 : K 41 m41 xb291 db291 [p2,p11,p11,p12,p12,p2,p11,p11,p12,p12] := by delta K;kernel_rfl
theorem qb291 : Q 41 m41 xb291 zb291 := pK Hb291 Kb291
def db234 : D_ := K_ f23 (K_ f1 (c37_ [o3,[(21,n0)],o147,o101] [] w103) (K_ f36 (K_ f62 (c36_ [[(4,(.add v4 v20)),(8,(.add v8 n1)),(11,v11),(14,(.add v14 (.lit (-1)))),(20,v50),(22,v22)],o148,o104] w21 w110) (c36_ [[(4,(.add v4 v20)),(8,(.add v8 n1)),(11,v11),(14,(.add v14 (.lit (-1)))),(22,v22)],o104] w21 w110)) (K_ f62 (c36_ [[(4,(.add v4 v20)),(8,n1),(11,v11),(14,(.add v14 (.lit (-1)))),(20,v50),(22,v22)],o148,o104] w21 w111) (c36_ [[(4,(.add v4 v20)),(8,n1),(11,v11),(14,(.add v14 (.lit (-1)))),(22,v22)],o104] w21 w111)))) (K_ f1 (c37_ [o3,[(21,n0),(22,n0),(23,n0),(24,n0),(25,n0),(26,n0),(27,n0),(28,n0),(29,n0),(30,n0),(31,n0),(32,n0),(33,n0),(34,n0),(35,n0),(36,n0),(37,n0),(38,n0),(39,n0),(40,n0),(41,n0),(42,n0),(43,n0),(44,n0),(45,n0),(46,n0),(47,n0),(48,n0),(49,n0)],o106] [] w103) (K_ f36 (K_ f62 (c36_ [[(4,(.add v4 v20)),(8,(.add v8 n1)),(11,v11),(14,(.add v14 (.lit (-1)))),(20,v50)],o148] w21 w110) (c36_ [[(4,(.add v4 v20)),(8,(.add v8 n1)),(11,v11),(14,(.add v14 (.lit (-1))))]] w21 w110)) (K_ f62 (c36_ [[(4,(.add v4 v20)),(8,n1),(11,v11),(14,(.add v14 (.lit (-1)))),(20,v50)],o148] w21 w111) (c36_ [[(4,(.add v4 v20)),(8,n1),(11,v11),(14,(.add v14 (.lit (-1))))]] w21 w111)))) a152
theorem Hb234 : H xb234 zb234 db234 := by delta H;kernel_rfl
theorem Kb234 : K 39 (rk 3) xb234 db234 [p2,p10,p10,p10,p10,p57,p10,p27,p10,p27] := by delta K;kernel_rfl
theorem qb234 : Q 39 (rk 3) xb234 zb234 := pK Hb234 Kb234
def db145 : D_ := K_ f11 (K_ f1 (c34_ [o81,o82] [] w86) (K_ f12 (K_ f15 (c33_ [[(5,(.add v5 n1)),(15,v20)],o68,o56,o70,[(63,v28)]] w26 w87) (c33_ [[(5,(.add v5 n1))],o68,o70] w26 w87)) (K_ f15 (c33_ [[(5,n1),(15,v20)],o68,o56,o70,[(63,v28)]] w26 w88) (c33_ [[(5,n1)],o68,o70] w26 w88)))) (K_ f1 (c34_ [o81,[(19,n0)],o82,o58] [] w86) (K_ f12 (K_ f15 (c33_ [[(5,(.add v5 n1)),(15,v20),(18,v18)],o56,o71,[(63,v28)]] w26 w87) (c33_ [[(5,(.add v5 n1)),(18,v18)],o71] w26 w87)) (K_ f15 (c33_ [[(5,n1),(15,v20),(18,v18)],o56,o71,[(63,v28)]] w26 w88) (c33_ [[(5,n1),(18,v18)],o71] w26 w88)))) a104
theorem Hb145 : H xb145 zb145 db145 := by delta H;kernel_rfl
theorem Kb145 : K 36 (rk 3) xb145 db145 [p2,p1,p1,p1,p1,p2,p1,p1,p1,p1] := by delta K;kernel_rfl
theorem qb145 : Q 36 (rk 3) xb145 zb145 := pK Hb145 Kb145
def db332 : D_ := K_ f10 (K_ f1 (L_ (.cut 34 i43_34 [] w72)) (K_ f12 (K_ f34 (c42_ [[(5,(.add v5 n1)),(13,v17)],o28,o196,o197] w31 w73) (c42_ [[(5,(.add v5 n1))],o28,o197] w31 w73)) (K_ f34 (c42_ [[(5,n1),(13,v17)],o28,o196,o197] w31 w74) (c42_ [[(5,n1)],o28,o197] w31 w74)))) (K_ f1 (c43_ [[(16,n0)],o31] [] w72) (K_ f12 (K_ f34 (c42_ [[(5,(.add v5 n1)),(13,v17)],o32,o196,o198] w31 w73) (c42_ [[(5,(.add v5 n1))],o32,o198] w31 w73)) (K_ f34 (c42_ [[(5,n1),(13,v17)],o32,o196,o198] w31 w74) (c42_ [[(5,n1)],o32,o198] w31 w74)))) a81
theorem Hb332 : H xb332 zb332 db332 := by delta H;kernel_rfl
theorem Kb332 : K 43 m43 xb332 db332 [p2,p4,p4,p5,p5,p2,p4,p4,p5,p5] := by delta K;kernel_rfl
theorem qb332 : Q 43 m43 xb332 zb332 := pK Hb332 Kb332
def db116 : D_ := K_ f10 (K_ f1 (c31_ [o51,[(17,n0),(18,n0),(19,n0),(20,n0),(21,n0),(22,n0),(23,n0),(24,n0),(25,n0),(26,n0),(27,n0),(28,n0),(29,n0),(30,n0),(31,n0),(32,n0),(33,n0),(34,n0)]] [] w72) (K_ f37 (K_ f2 (c30_ [[(4,(.add v4 v15)),(7,(.add v7 n1)),(9,v9),(11,(.add v11 (.lit (-1)))),(15,v35),(16,v16)],o52,o37] w31 w77) (c30_ [[(4,(.add v4 v15)),(7,(.add v7 n1)),(9,v9),(11,(.add v11 (.lit (-1)))),(16,v16)],o37] w31 w77)) (K_ f2 (c30_ [[(4,(.add v4 v15)),(7,n1),(9,v9),(11,(.add v11 (.lit (-1)))),(15,v35),(16,v16)],o52,o37] w31 w78) (c30_ [[(4,(.add v4 v15)),(7,n1),(9,v9),(11,(.add v11 (.lit (-1)))),(16,v16)],o37] w31 w78)))) (K_ f1 (c31_ [o51,[(16,n0),(17,n0),(18,n0),(19,n0),(20,n0),(21,n0),(22,n0),(23,n0),(24,n0),(25,n0),(26,n0),(27,n0),(28,n0),(29,n0),(30,n0),(31,n0),(32,n0),(33,n0),(34,n0)],o31] [] w72) (K_ f37 (K_ f2 (c30_ [[(4,(.add v4 v15)),(7,(.add v7 n1)),(9,v9),(11,(.add v11 (.lit (-1)))),(15,v35)],o52] w31 w77) (c30_ [[(4,(.add v4 v15)),(7,(.add v7 n1)),(9,v9),(11,(.add v11 (.lit (-1))))]] w31 w77)) (K_ f2 (c30_ [[(4,(.add v4 v15)),(7,n1),(9,v9),(11,(.add v11 (.lit (-1)))),(15,v35)],o52] w31 w78) (c30_ [[(4,(.add v4 v15)),(7,n1),(9,v9),(11,(.add v11 (.lit (-1))))]] w31 w78)))) a87
theorem Hb116 : H xb116 zb116 db116 := by delta H;kernel_rfl
theorem Kb116 : K 33 (rk 3) xb116 db116 [p2,p6,p6,p6,p6,p2,p6,p25,p6,p25] := by delta K;kernel_rfl
theorem qb116 : Q 33 (rk 3) xb116 zb116 := pK Hb116 Kb116
def db345 : D_ := K_ f24 (K_ f1 (L_ (.cut 31 i44_31 [] w61)) (K_ f12 (K_ f71 (c44_ [[(5,(.add v5 n1)),(11,v14)],o14,o208,o209] w36 w62) (c44_ [[(5,(.add v5 n1))],o14,o209] w36 w62)) (K_ f71 (c44_ [[(5,n1),(11,v14)],o14,o208,o209] w36 w63) (c44_ [[(5,n1)],o14,o209] w36 w63)))) (K_ f1 (c45_ [[(13,n0)],o17] [] w61) (K_ f12 (K_ f71 (c44_ [[(5,(.add v5 n1)),(11,v14),(12,v12)],o208,o210] w36 w62) (c44_ [[(5,(.add v5 n1)),(12,v12)],o210] w36 w62)) (K_ f71 (c44_ [[(5,n1),(11,v14),(12,v12)],o208,o210] w36 w63) (c44_ [[(5,n1),(12,v12)],o210] w36 w63)))) a69
theorem Hb345 : H xb345 zb345 db345 := by delta H;kernel_rfl
theorem Kb345 : K 44 m44 xb345 db345 [p2,p4,p4,p5,p5,p2,p4,p4,p5,p5] := by delta K;kernel_rfl
theorem qb345 : Q 44 m44 xb345 zb345 := pK Hb345 Kb345
def db52 : D_ := K_ f41 (K_ f153 (K_ f154 (K_ f9 l31 (K_ f100 l8 l8)) (K_ f9 l31 (K_ f100 l8 l8))) (c15_ [[(7,n0),(34,n1),(39,n0)]] w34 w35)) (K_ (.lss n0 v33) (K_ (.lss n1 v33) (K_ f11 l32 (K_ f117 l8 l8)) (K_ f11 l32 (K_ f117 l8 l8))) (c15_ [[(7,n0),(34,n1),(40,n0)]] w34 w35)) [(f27,false),(f126,true),(f69,true),(f35,true),(f45,false),(f43,false),(f63,false)]
theorem Hb52 : H xb52 zb52 db52 := by delta H;kernel_rfl
theorem Kb52 : K 12 (rk 5) xb52 db52 [p26,p0,p0,p26,p0,p0,p14,p28,p0,p0,lT (pW [] 1) [(0,(cQ 10 (cM [522,3]) (cM [522,0]))),(2,(cQ 10 (cM [522,51,30783]) (cM [48,522,30780])))] [] .non,p0,p0,p14] := by delta K;kernel_rfl
theorem qb52 : Q 12 (rk 5) xb52 zb52 := pK Hb52 Kb52
def db70 : D_ := K_ f142 (K_ f146 (K_ (.lss n1 v38) (K_ f11 l52 (K_ f86 l8 l8)) (K_ f11 l52 (K_ f86 l8 l8))) (K_ (.lss n1 v38) (K_ f11 l53 (K_ f86 l8 l8)) (K_ f11 l53 (K_ f86 l8 l8)))) l51 [(f26,false),(f119,true),(f33,true),(f42,true),(f111,false),(f104,false),(f112,false),(f103,false),(f40,false),(f16,false)]
theorem Hb70 : H xb70 zb70 db70 := by delta H;kernel_rfl
theorem Kb70 : K 26 m26 xb70 db70 [p3,p0,p0,p19,p0,p0,p3,p0,p0,p19,p0,p0,p7] := by delta K;kernel_rfl
theorem qb70 : Q 26 m26 xb70 zb70 := pK Hb70 Kb70
def db121 : D_ := K_ f141 (K_ f128 (K_ f149 (K_ f9 l73 (K_ f35 l8 l8)) (K_ f9 l73 (K_ f35 l8 l8))) (K_ f149 (K_ f9 l74 (K_ f35 l8 l8)) (K_ f9 l74 (K_ f35 l8 l8)))) l75 [(f26,true),(f46,true),(f33,true),(f42,true),(f81,false),(f57,false),(f83,false),(f56,false),(f85,false),(f55,false),(f84,false),(f53,false),(f82,false),(f54,false),(f40,false),(f16,false)]
theorem Hb121 : H xb121 zb121 db121 := by delta H;kernel_rfl
theorem Kb121 : K 35 m35 xb121 db121 [p1,p0,p0,p1,p0,p0,p1,p0,p0,p1,p0,p0,p7] := by delta K;kernel_rfl
theorem qb121 : Q 35 m35 xb121 zb121 := pK Hb121 Kb121
def d46 : D_ := K_ f12 (K_ f1 (L_ (.cut 25 i46_25 w46 [r0])) (K_ (.lss n0 v2) (K_ (.lss n1 v5) (L_ (.cut 46 i46_46 w46 w50)) (c48_ [o218] w46 w50)) (K_ (.lss n1 v5) (L_ (.cut 46 i46_46 w46 w51)) (c48_ [o218] w46 w51)))) (c49_ [o8] w46 [r0]) a54
theorem H46 : H g46 (t46.cfg) d46 := by delta H;kernel_rfl
theorem K46 : K 46 m46 g46 d46 [p2,p62,lT (pW [] 1) [(1,(cQ 10 (cM [522,51,63]) (cM [48,522,60])))] [] .non,p62,lT (pW [] 1) [(1,(cQ 10 (cM [522,51,63]) (cM [522,60,48])))] [] .non,p16] := by delta K;kernel_rfl
theorem q46 : Q 46 m46 g46 t46.cfg := pK H46 K46
def d31 : D_ := K_ f36 l15 (K_ f39 l15 (K_ f24 l15 (K_ f152 l48 l15))) [(f60,false),(f61,false),(f59,false),(f0,false)]
theorem H31 : H g30 (t31.cfg) d31 := by delta H;kernel_rfl
theorem K31 : K 31 (rk 1) g30 d31 [p0,p0,p0,lO [sA,sP,sU [2,258,514,770,1026,1282,1538,1794,2050,2306,2562,2818,3074,3330,3586,3842,4098,4354,4610,4866,5122,5378,5634,5890,6146,6402,6658,6914,7170,7426],sU [7]] (cQ 8 (cM [426,96]) (cM [426,99])),lO [sA,sP,sU [2,258,514,770,1026,1282,1538,1794,2050,2306,2562,2818,3074,3330,3586,3842,4098,4354,4610,4866,5122,5378,5634,5890,6146,6402,6658,6914,7170,7426],sU [7]] (cQ 24 (cM [1194,0]) (cM [1194,3]))] := by delta K;kernel_rfl
theorem q31 : Q 31 (rk 1) g30 t31.cfg := pK H31 K31
def d15 : D_ := K_ f140 (K_ f70 l15 l38) (K_ f142 (K_ f70 l15 l38) (K_ f70 l38 l15)) [(f111,false),(f104,false),(f112,false),(f103,false),(f127,false),(f16,false)]
theorem H15 : H g15 (t15.cfg) d15 := by delta H;kernel_rfl
theorem K15 : K 15 m15 g15 d15 [p13,p7,p13,p7,p7,lO (ap [sA] (ap (sq 20 fun i => sE (10+256*i)) [sP,sU (ap (sq 21 fun i => (2+256*i)) [5130,5378,5386,5634,5642,5890,5898,6146,6154,6402,6410,6658,6666,6914,6922,7170,7178,7426,7434,7682,7690,7938,7946,8194,8202,8450,8458,8706,8714,8962,8970,9218,9226,9474,9482,9730,9738,9986,9994]),sU [7]])) (cQ 24 (cM [1194,0]) (cM [1194,3]))] := by delta K;kernel_rfl
theorem q15 : Q 15 m15 g15 t15.cfg := pK H15 K15
def d22 : D_ := L_ (.fin (.lit true)) []
theorem H22 : H g21 (t22.cfg) d22 := by delta H;kernel_rfl
theorem K22 : K 22 (rk 1) g21 d22 [lE] := by delta K;kernel_rfl
theorem q22 : Q 22 (rk 1) g21 t22.cfg := pK H22 K22
def db36 : D_ := l22 [(f69,false),(f35,true),(f45,false),(f43,false),(f63,false),(f106,false),(f131,false)]
theorem Hb36 : H xb36 zb36 db36 := by delta H;kernel_rfl
theorem Kb36 : K 8 (rk 5) xb36 db36 [p15] := by delta K;kernel_rfl
theorem qb36 : Q 8 (rk 5) xb36 zb36 := pK Hb36 Kb36
def db130 : D_ := l84 [(f33,false),(f42,true),(f81,false),(f57,false),(f83,false),(f56,false),(f85,false),(f55,false),(f84,false),(f53,false),(f82,false),(f54,false),(f40,false),(f16,false)]
theorem Hb130 : H xb130 zb130 db130 := by delta H;kernel_rfl
theorem Kb130 : K 35 m35 xb130 db130 [p7] := by delta K;kernel_rfl
theorem qb130 : Q 35 m35 xb130 zb130 := pK Hb130 Kb130

end
end Go.Proofs.Ytnkeojkniohjhaa.machineSums
