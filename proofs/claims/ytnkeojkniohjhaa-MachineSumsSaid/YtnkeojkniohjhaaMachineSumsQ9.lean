/- Parts of the plan for the law MachineSums: each is one kernel run. -/
import Derived.Test.YtnkeojkniohjhaaMachineSumsPlan
set_option linter.unusedVariables false
namespace Go.Proofs.Ytnkeojkniohjhaa.machineSums
open Go Go.Ev
noncomputable section

def db243 : D_ := K_ f23 (K_ f1 (c39_ [[(21,n0)],o101] [] w103) (K_ f12 (K_ f2 (c38_ [[(5,(.add v5 n1)),(17,v23)],o102,[(22,v22)],o153,[(29,v75)],o156,o157] w21 w104) (c38_ [[(5,(.add v5 n1))],o102,[(22,v22)],o156,o157] w21 w104)) (K_ f2 (c38_ [[(5,n1),(17,v23)],o102,[(22,v22)],o153,[(29,v75)],o156,o157] w21 w105) (c38_ [[(5,n1)],o102,[(22,v22)],o156,o157] w21 w105)))) (K_ f1 (c39_ [o105,o106] [] w103) (K_ f12 (K_ f2 (c38_ [[(5,(.add v5 n1)),(17,v23)],o102,o153,[(29,v75)],o156] w21 w104) (c38_ [[(5,(.add v5 n1))],o102,o156] w21 w104)) (K_ f2 (c38_ [[(5,n1),(17,v23)],o102,o153,[(29,v75)],o156] w21 w105) (c38_ [[(5,n1)],o102,o156] w21 w105)))) a124
theorem Hb243 : H xb243 zb243 db243 := by delta H;kernel_rfl
theorem Kb243 : K 41 m41 xb243 db243 [p2,p4,p4,p5,p5,p2,p4,p4,p5,p5] := by delta K;kernel_rfl
theorem qb243 : Q 41 m41 xb243 zb243 := pK Hb243 Kb243
def db198 : D_ := K_ f23 (K_ f1 (c37_ [[(18,n0),(20,n0)],o17,o107] [] w103) (K_ f12 (K_ f2 (c36_ [[(5,(.add v5 n1)),(17,v23),(19,v19)],o108,o96,o134,o110,[(75,v31)]] w21 w104) (c36_ [[(5,(.add v5 n1)),(19,v19)],o108,o134,o110] w21 w104)) (K_ f2 (c36_ [[(5,n1),(17,v23),(19,v19)],o108,o96,o134,o110,[(75,v31)]] w21 w105) (c36_ [[(5,n1),(19,v19)],o108,o134,o110] w21 w105)))) (K_ f1 (c37_ [[(18,n0),(20,n0),(22,n0)],o17,o107,o98] [] w103) (K_ f12 (K_ f2 (c36_ [[(5,(.add v5 n1)),(17,v23),(19,v19),(21,v21)],o96,o134,o111,[(75,v31)]] w21 w104) (c36_ [[(5,(.add v5 n1)),(19,v19),(21,v21)],o134,o111] w21 w104)) (K_ f2 (c36_ [[(5,n1),(17,v23),(19,v19),(21,v21)],o96,o134,o111,[(75,v31)]] w21 w105) (c36_ [[(5,n1),(19,v19),(21,v21)],o134,o111] w21 w105)))) a133
theorem Hb198 : H xb198 zb198 db198 := by delta H;kernel_rfl
theorem Kb198 : K 39 (rk 3) xb198 db198 [p2,p1,p1,p1,p1,p2,p1,p1,p1,p1] := by delta K;kernel_rfl
theorem qb198 : Q 39 (rk 3) xb198 zb198 := pK Hb198 Kb198
def db264 : D_ := K_ f23 (K_ f1 (c39_ [o65,o135] [] w103) (K_ f12 (K_ f2 (c38_ [[(5,(.add v5 n1)),(17,v23)],o116,o153,[(29,v75)],o162] w21 w104) (c38_ [[(5,(.add v5 n1))],o116,o162] w21 w104)) (K_ f2 (c38_ [[(5,n1),(17,v23)],o116,o153,[(29,v75)],o162] w21 w105) (c38_ [[(5,n1)],o116,o162] w21 w105)))) (K_ f1 (c39_ [o65,[(22,n0)],o135,o98] [] w103) (K_ f12 (K_ f2 (c38_ [[(5,(.add v5 n1)),(17,v23)],o119,o153,[(29,v75)],o163] w21 w104) (c38_ [[(5,(.add v5 n1))],o119,o163] w21 w104)) (K_ f2 (c38_ [[(5,n1),(17,v23)],o119,o153,[(29,v75)],o163] w21 w105) (c38_ [[(5,n1)],o119,o163] w21 w105)))) a135
theorem Hb264 : H xb264 zb264 db264 := by delta H;kernel_rfl
theorem Kb264 : K 41 m41 xb264 db264 [p2,p4,p4,p5,p5,p2,p4,p4,p5,p5] := by delta K;kernel_rfl
theorem qb264 : Q 41 m41 xb264 zb264 := pK Hb264 Kb264
def db219 : D_ := K_ f23 (K_ f1 (c37_ [[(17,n0),(19,n0),(21,n0)],o20,o115,o101] [] w103) (K_ f25 (K_ f14 (c36_ [[(4,(.add v4 v18)),(6,(.add v6 n1)),(11,v11),(12,(.add v12 (.lit (-1)))),(18,v32),(20,v20),(22,v22)],o142,o121,o104] w21 w106) (c36_ [[(4,(.add v4 v18)),(6,(.add v6 n1)),(11,v11),(12,(.add v12 (.lit (-1)))),(20,v20),(22,v22)],o121,o104] w21 w106)) (K_ f14 (c36_ [[(4,(.add v4 v18)),(6,n1),(11,v11),(12,(.add v12 (.lit (-1)))),(18,v32),(20,v20),(22,v22)],o142,o121,o104] w21 w107) (c36_ [[(4,(.add v4 v18)),(6,n1),(11,v11),(12,(.add v12 (.lit (-1)))),(20,v20),(22,v22)],o121,o104] w21 w107)))) (K_ f1 (c37_ [[(17,n0),(19,n0)],o144,o115,o106] [] w103) (K_ f25 (K_ f14 (c36_ [[(4,(.add v4 v18)),(6,(.add v6 n1)),(11,v11),(12,(.add v12 (.lit (-1)))),(18,v32),(20,v20)],o142,o121] w21 w106) (c36_ [[(4,(.add v4 v18)),(6,(.add v6 n1)),(11,v11),(12,(.add v12 (.lit (-1)))),(20,v20)],o121] w21 w106)) (K_ f14 (c36_ [[(4,(.add v4 v18)),(6,n1),(11,v11),(12,(.add v12 (.lit (-1)))),(18,v32),(20,v20)],o142,o121] w21 w107) (c36_ [[(4,(.add v4 v18)),(6,n1),(11,v11),(12,(.add v12 (.lit (-1)))),(20,v20)],o121] w21 w107)))) a144
theorem Hb219 : H xb219 zb219 db219 := by delta H;kernel_rfl
theorem Kb219 : K 39 (rk 3) xb219 db219 [p2,p3,p3,p3,p3,p2,p3,p3,p3,p3] := by delta K;kernel_rfl
theorem qb219 : Q 39 (rk 3) xb219 zb219 := pK Hb219 Kb219
def db289 : D_ := K_ f23 (K_ f1 (c39_ [o72,[(21,n0)],o169,o17,o101] [] w103) (K_ f37 (K_ f28 (c38_ [[(4,(.add v4 v19)),(7,(.add v7 n1)),(11,v11),(13,(.add v13 (.lit (-1)))),(19,v39),(20,v20),(22,v22)],o174,o164,o157] w21 w108) (c38_ [[(4,(.add v4 v19)),(7,(.add v7 n1)),(11,v11),(13,(.add v13 (.lit (-1)))),(20,v20),(22,v22)],o164,o157] w21 w108)) (K_ f28 (c38_ [[(4,(.add v4 v19)),(7,n1),(11,v11),(13,(.add v13 (.lit (-1)))),(19,v39),(20,v20),(22,v22)],o174,o164,o157] w21 w109) (c38_ [[(4,(.add v4 v19)),(7,n1),(11,v11),(13,(.add v13 (.lit (-1)))),(20,v20),(22,v22)],o164,o157] w21 w109)))) (K_ f1 (c39_ [o72,o172,o17,o106] [] w103) (K_ f37 (K_ f28 (c38_ [[(4,(.add v4 v19)),(7,(.add v7 n1)),(11,v11),(13,(.add v13 (.lit (-1)))),(19,v39),(20,v20)],o174,o164] w21 w108) (c38_ [[(4,(.add v4 v19)),(7,(.add v7 n1)),(11,v11),(13,(.add v13 (.lit (-1)))),(20,v20)],o164] w21 w108)) (K_ f28 (c38_ [[(4,(.add v4 v19)),(7,n1),(11,v11),(13,(.add v13 (.lit (-1)))),(19,v39),(20,v20)],o174,o164] w21 w109) (c38_ [[(4,(.add v4 v19)),(7,n1),(11,v11),(13,(.add v13 (.lit (-1)))),(20,v20)],o164] w21 w109)))) a148
theorem Hb289 : H xb289 zb289 db289 := by delta H;kernel_rfl
theorem Kb289 : K 41 m41 xb289 db289 [p2,p11,p11,p12,p12,p2,p11,p11,p12,p12] := by delta K;kernel_rfl
theorem qb289 : Q 41 m41 xb289 zb289 := pK Hb289 Kb289
def db230 : D_ := K_ f23 (K_ f1 (c37_ [o72,o112,o24,o113] [] w103) (K_ f37 (K_ f28 (c36_ [[(4,(.add v4 v19)),(7,(.add v7 n1)),(11,v11),(13,(.add v13 (.lit (-1)))),(19,v41),(22,v22)],o145,o104] w21 w108) (c36_ [[(4,(.add v4 v19)),(7,(.add v7 n1)),(11,v11),(13,(.add v13 (.lit (-1)))),(22,v22)],o104] w21 w108)) (K_ f28 (c36_ [[(4,(.add v4 v19)),(7,n1),(11,v11),(13,(.add v13 (.lit (-1)))),(19,v41),(22,v22)],o145,o104] w21 w109) (c36_ [[(4,(.add v4 v19)),(7,n1),(11,v11),(13,(.add v13 (.lit (-1)))),(22,v22)],o104] w21 w109)))) (K_ f1 (c37_ [o72,[(20,n0),(21,n0),(22,n0),(23,n0),(24,n0),(25,n0),(26,n0),(27,n0),(28,n0),(29,n0),(30,n0),(31,n0),(32,n0),(33,n0),(34,n0),(35,n0),(36,n0),(37,n0),(38,n0),(39,n0),(40,n0)],o114] [] w103) (K_ f37 (K_ f28 (c36_ [[(4,(.add v4 v19)),(7,(.add v7 n1)),(11,v11),(13,(.add v13 (.lit (-1)))),(19,v41)],o145] w21 w108) (c36_ [[(4,(.add v4 v19)),(7,(.add v7 n1)),(11,v11),(13,(.add v13 (.lit (-1))))]] w21 w108)) (K_ f28 (c36_ [[(4,(.add v4 v19)),(7,n1),(11,v11),(13,(.add v13 (.lit (-1)))),(19,v41)],o145] w21 w109) (c36_ [[(4,(.add v4 v19)),(7,n1),(11,v11),(13,(.add v13 (.lit (-1))))]] w21 w109)))) a150
theorem Hb230 : H xb230 zb230 db230 := by delta H;kernel_rfl
theorem Kb230 : K 39 (rk 3) xb230 db230 [p2,p6,p6,p6,p6,p56,p6,p25,p6,p25] := by delta K;kernel_rfl
theorem qb230 : Q 39 (rk 3) xb230 zb230 := pK Hb230 Kb230
def db143 : D_ := K_ f11 (K_ f1 (c34_ [[(16,n0),(18,n0)],o75,o61] [] w86) (K_ f12 (K_ f15 (c33_ [[(5,(.add v5 n1)),(15,v20),(17,v17),(19,v19)],o56,o80,o64,[(63,v28)]] w26 w87) (c33_ [[(5,(.add v5 n1)),(17,v17),(19,v19)],o80,o64] w26 w87)) (K_ f15 (c33_ [[(5,n1),(15,v20),(17,v17),(19,v19)],o56,o80,o64,[(63,v28)]] w26 w88) (c33_ [[(5,n1),(17,v17),(19,v19)],o80,o64] w26 w88)))) (K_ f1 (c34_ [[(16,n0)],o65,o75,o66] [] w86) (K_ f12 (K_ f15 (c33_ [[(5,(.add v5 n1)),(15,v20),(17,v17)],o56,o80,[(63,v28)]] w26 w87) (c33_ [[(5,(.add v5 n1)),(17,v17)],o80] w26 w87)) (K_ f15 (c33_ [[(5,n1),(15,v20),(17,v17)],o56,o80,[(63,v28)]] w26 w88) (c33_ [[(5,n1),(17,v17)],o80] w26 w88)))) a103
theorem Hb143 : H xb143 zb143 db143 := by delta H;kernel_rfl
theorem Kb143 : K 36 (rk 3) xb143 db143 [p2,p1,p1,p1,p1,p2,p1,p1,p1,p1] := by delta K;kernel_rfl
theorem qb143 : Q 36 (rk 3) xb143 zb143 := pK Hb143 Kb143
def db106 : D_ := K_ f10 (K_ f1 (L_ (.cut 34 i33_34 [] w72)) (K_ f12 (K_ f34 (c30_ [[(5,(.add v5 n1)),(13,v17)],o28,o29] w31 w73) (c30_ [[(5,(.add v5 n1))],o28,o30] w31 w73)) (K_ f34 (c30_ [[(5,n1),(13,v17)],o28,o29] w31 w74) (c30_ [[(5,n1)],o28,o30] w31 w74)))) (K_ f1 (c31_ [[(16,n0)],o31] [] w72) (K_ f12 (K_ f34 (c30_ [[(5,(.add v5 n1)),(13,v17)],o32,o33] w31 w73) (c30_ [[(5,(.add v5 n1))],o32,o34] w31 w73)) (K_ f34 (c30_ [[(5,n1),(13,v17)],o32,o33] w31 w74) (c30_ [[(5,n1)],o32,o34] w31 w74)))) a81
theorem Hb106 : H xb106 zb106 db106 := by delta H;kernel_rfl
theorem Kb106 : K 33 (rk 3) xb106 db106 [p2,p1,p1,p1,p1,p2,p1,p1,p1,p1] := by delta K;kernel_rfl
theorem qb106 : Q 33 (rk 3) xb106 zb106 := pK Hb106 Kb106
def db114 : D_ := K_ f10 (K_ f1 (c31_ [[(13,n0),(15,n0)],o49,o35] [] w72) (K_ f25 (K_ f15 (c30_ [[(4,(.add v4 v14)),(6,(.add v6 n1)),(9,v9),(10,(.add v10 (.lit (-1)))),(14,v26),(16,v16)],o50,o37] w31 w75) (c30_ [[(4,(.add v4 v14)),(6,(.add v6 n1)),(9,v9),(10,(.add v10 (.lit (-1)))),(16,v16)],o37] w31 w75)) (K_ f15 (c30_ [[(4,(.add v4 v14)),(6,n1),(9,v9),(10,(.add v10 (.lit (-1)))),(14,v26),(16,v16)],o50,o37] w31 w76) (c30_ [[(4,(.add v4 v14)),(6,n1),(9,v9),(10,(.add v10 (.lit (-1)))),(16,v16)],o37] w31 w76)))) (K_ f1 (c31_ [[(13,n0),(15,n0),(16,n0),(17,n0),(18,n0),(19,n0),(20,n0),(21,n0),(22,n0),(23,n0),(24,n0),(25,n0)],o40] [] w72) (K_ f25 (K_ f15 (c30_ [[(4,(.add v4 v14)),(6,(.add v6 n1)),(9,v9),(10,(.add v10 (.lit (-1)))),(14,v26)],o50] w31 w75) (c30_ [[(4,(.add v4 v14)),(6,(.add v6 n1)),(9,v9),(10,(.add v10 (.lit (-1))))]] w31 w75)) (K_ f15 (c30_ [[(4,(.add v4 v14)),(6,n1),(9,v9),(10,(.add v10 (.lit (-1)))),(14,v26)],o50] w31 w76) (c30_ [[(4,(.add v4 v14)),(6,n1),(9,v9),(10,(.add v10 (.lit (-1))))]] w31 w76)))) a86
theorem Hb114 : H xb114 zb114 db114 := by delta H;kernel_rfl
theorem Kb114 : K 33 (rk 3) xb114 db114 [p2,p3,p3,p3,p3,p2,p3,p19,p3,p19] := by delta K;kernel_rfl
theorem qb114 : Q 33 (rk 3) xb114 zb114 := pK Hb114 Kb114
def db87 : D_ := K_ f24 (K_ f1 (L_ (.cut 31 i30_31 [] w61)) (K_ f12 (K_ f71 (c27_ [[(5,(.add v5 n1)),(11,v14)],o14,o15] w36 w62) (c27_ [[(5,(.add v5 n1))],o14,o16] w36 w62)) (K_ f71 (c27_ [[(5,n1),(11,v14)],o14,o15] w36 w63) (c27_ [[(5,n1)],o14,o16] w36 w63)))) (K_ f1 (c28_ [[(13,n0)],o17] [] w61) (K_ f12 (K_ f71 (c27_ [[(5,(.add v5 n1)),(11,v14),(12,v12)],o18] w36 w62) (c27_ [[(5,(.add v5 n1)),(12,v12)],o19] w36 w62)) (K_ f71 (c27_ [[(5,n1),(11,v14),(12,v12)],o18] w36 w63) (c27_ [[(5,n1),(12,v12)],o19] w36 w63)))) a69
theorem Hb87 : H xb87 zb87 db87 := by delta H;kernel_rfl
theorem Kb87 : K 30 (rk 3) xb87 db87 [p2,p1,p1,p1,p1,p2,p1,p1,p1,p1] := by delta K;kernel_rfl
theorem qb87 : Q 30 (rk 3) xb87 zb87 := pK Hb87 Kb87
def db44 : D_ := K_ f88 (K_ (.lss n0 v33) (K_ (.lss n1 v33) (K_ f11 l26 (K_ f117 l8 l8)) (K_ f11 l26 (K_ f117 l8 l8))) (c14_ [[(7,n0),(34,n1),(41,n0)]] w29 w30)) (K_ (.lss n0 v34) (K_ (.lss n1 v34) (K_ f93 l27 (K_ f132 l8 l8)) (K_ f93 l27 (K_ f132 l8 l8))) (c14_ [[(7,n0),(34,n1),(42,n0)]] w29 w30)) [(f41,false),(f27,false),(f113,true),(f69,true),(f35,true),(f45,false),(f43,false),(f63,false),(f106,false)]
theorem Hb44 : H xb44 zb44 db44 := by delta H;kernel_rfl
theorem Kb44 : K 10 (rk 5) xb44 db44 [p28,p0,p0,p28,p0,p0,p14,p30,p0,p0,lT (pW [] 1) [(0,(cQ 10 (cM [522,3]) (cM [522,0]))),(2,(cQ 10 (cM [522,51,46143]) (cM [48,522,46140])))] [] .non,p0,p0,p14] := by delta K;kernel_rfl
theorem qb44 : Q 10 (rk 5) xb44 zb44 := pK Hb44 Kb44
def db69 : D_ := K_ f140 (K_ f128 (K_ (.lss n1 v37) (K_ f9 l49 (K_ f35 l8 l8)) (K_ f9 l49 (K_ f35 l8 l8))) (K_ (.lss n1 v37) (K_ f9 l50 (K_ f35 l8 l8)) (K_ f9 l50 (K_ f35 l8 l8)))) l51 [(f26,true),(f119,true),(f33,true),(f42,true),(f111,false),(f104,false),(f112,false),(f103,false),(f40,false),(f16,false)]
theorem Hb69 : H xb69 zb69 db69 := by delta H;kernel_rfl
theorem Kb69 : K 26 m26 xb69 db69 [p1,p0,p0,p1,p0,p0,p1,p0,p0,p1,p0,p0,p7] := by delta K;kernel_rfl
theorem qb69 : Q 26 m26 xb69 zb69 := pK Hb69 Kb69
def db100 : D_ := K_ f147 (K_ f142 (K_ f150 (K_ f121 l70 (K_ f100 l8 l8)) (K_ f121 l70 (K_ f100 l8 l8))) (K_ f150 (K_ f121 l71 (K_ f100 l8 l8)) (K_ f121 l71 (K_ f100 l8 l8)))) l65 [(f74,false),(f38,false),(f26,false),(f73,true),(f33,true),(f42,true),(f95,false),(f66,false),(f98,false),(f67,false),(f96,false),(f65,false),(f97,false),(f64,false),(f40,false),(f16,false)]
theorem Hb100 : H xb100 zb100 db100 := by delta H;kernel_rfl
theorem Kb100 : K 32 m32 xb100 db100 [p10,p0,p0,p27,p0,p0,p10,p0,p0,p27,p0,p0,p7] := by delta K;kernel_rfl
theorem qb100 : Q 32 m32 xb100 zb100 := pK Hb100 Kb100
def d24 : D_ := K_ f12 (K_ f1 (L_ (.cut 25 i24_25 w46 [r0])) (K_ (.lss n0 v2) (K_ (.lss n1 v5) (L_ (.cut 46 i24_46 w46 w50)) (c21_ [o8] w46 w50)) (K_ (.lss n1 v5) (L_ (.cut 46 i24_46 w46 w51)) (c21_ [o8] w46 w51)))) (c22_ [o8] w46 [r0]) a54
theorem H24 : H g24 (t24.cfg) d24 := by delta H;kernel_rfl
theorem K24 : K 24 (rk 3) g24 d24 [p2,p31,lT (pW [] 1) [(0,(cQ 10 (cM [522,3]) (cM [522,0]))),(1,(cQ 10 (cM [522,51,63]) (cM [48,522,60])))] [] .non,p31,lT (pW [] 2) [(1,(cQ 10 (cM [522,51,63]) (cM [522,60,48])))] [] .non,p16] := by delta K;kernel_rfl
theorem q24 : Q 24 (rk 3) g24 t24.cfg := pK H24 K24
def d11 : D_ := K_ f148 (K_ f70 l15 l29) (K_ f141 (K_ f70 l15 l29) (K_ f155 (K_ f70 l15 l29) (K_ f147 (K_ f70 l15 l29) (K_ f70 l29 l15)))) [(f95,false),(f66,false),(f98,false),(f67,false),(f96,false),(f65,false),(f97,false),(f64,false),(f127,false),(f16,false)]
theorem H11 : H g11 (t11.cfg) d11 := by delta H;kernel_rfl
theorem K11 : K 11 m11 g11 d11 [p13,p7,p13,p7,p13,p7,p13,p7,p7,lO (ap [sA] (ap (sq 40 fun i => sE (10+256*i)) [sP,sU (ap (sq 41 fun i => (2+256*i)) [10250,10498,10506,10754,10762,11010,11018,11266,11274,11522,11530,11778,11786,12034,12042,12290,12298,12546,12554,12802,12810,13058,13066,13314,13322,13570,13578,13826,13834,14082,14090,14338,14346,14594,14602,14850,14858,15106,15114,15362,15370,15618,15626,15874,15882,16130,16138,16386,16394,16642,16650,16898,16906,17154,17162,17410,17418,17666,17674,17922,17930,18178,18186,18434,18442,18690,18698,18946,18954,19202,19210,19458,19466,19714,19722,19970,19978,20226,20234]),sU [7]])) (cQ 24 (cM [1194,0]) (cM [1194,3]))] := by delta K;kernel_rfl
theorem q11 : Q 11 m11 g11 t11.cfg := pK H11 K11
def d20 : D_ := K_ (.lss v3 v1) (K_ (.lss v3 (.lit 300)) (c18_ [[(4,(.wrap .i64 (.add v4 n1)))]] [(.var 0)] [r0]) l43) l43 []
theorem H20 : H g20 (t20.cfg) d20 := by delta H;kernel_rfl
theorem K20 : K 20 m20 g20 d20 [lE,lE,lE] := by delta K;kernel_rfl
theorem q20 : Q 20 m20 g20 t20.cfg := pK H20 K20
def d5 : D_ := K_ (.lss n6 v1) l6 l6 [(f94,false),(f92,false),(f87,false),(f99,false),(f110,false),(f120,false),(f124,false)]
theorem H5 : H g5 (t5.cfg) d5 := by delta H;kernel_rfl
theorem K5 : K 5 (rk 6) g5 d5 [p18,p18] := by delta K;kernel_rfl
theorem q5 : Q 5 (rk 6) g5 t5.cfg := pK H5 K5
def db55 : D_ := K_ f86 l33 l33 [(f35,false),(f45,false),(f43,false),(f63,false)]
theorem Hb55 : H xb55 zb55 db55 := by delta H;kernel_rfl
theorem Kb55 : K 12 (rk 5) xb55 db55 [p15,p15] := by delta K;kernel_rfl
theorem qb55 : Q 12 (rk 5) xb55 zb55 := pK Hb55 Kb55
def db85 : D_ := l62 [(f42,false),(f108,false),(f91,false),(f109,false),(f89,false),(f107,false),(f90,false),(f40,false),(f16,false)]
theorem Hb85 : H xb85 zb85 db85 := by delta H;kernel_rfl
theorem Kb85 : K 29 m29 xb85 db85 [p7] := by delta K;kernel_rfl
theorem qb85 : Q 29 m29 xb85 zb85 := pK Hb85 Kb85

end
end Go.Proofs.Ytnkeojkniohjhaa.machineSums
