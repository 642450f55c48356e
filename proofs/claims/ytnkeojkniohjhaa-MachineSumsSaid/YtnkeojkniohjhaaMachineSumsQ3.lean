/- Parts of the plan for the law MachineSums: each is one kernel run. -/
import Derived.Test.YtnkeojkniohjhaaMachineSumsPlan
set_option linter.unusedVariables false
namespace Go.Proofs.Ytnkeojkniohjhaa.machineSums
open Go Go.Ev
noncomputable section

def db242 : D_ := K_ f23 (K_ f1 (L_ (.cut 40 i41_40 [] w103)) (K_ f12 (K_ f2 (c38_ [[(5,(.add v5 n1)),(17,v23)],o95,o153,[(29,v75)],o154] w21 w104) (c38_ [[(5,(.add v5 n1))],o95,o154] w21 w104)) (K_ f2 (c38_ [[(5,n1),(17,v23)],o95,o153,[(29,v75)],o154] w21 w105) (c38_ [[(5,n1)],o95,o154] w21 w105)))) (K_ f1 (c39_ [[(22,n0)],o98] [] w103) (K_ f12 (K_ f2 (c38_ [[(5,(.add v5 n1)),(17,v23)],o99,o153,[(29,v75)],o155] w21 w104) (c38_ [[(5,(.add v5 n1))],o99,o155] w21 w104)) (K_ f2 (c38_ [[(5,n1),(17,v23)],o99,o153,[(29,v75)],o155] w21 w105) (c38_ [[(5,n1)],o99,o155] w21 w105)))) a123
theorem Hb242 : H xb242 zb242 db242 := by delta H;kernel_rfl
theorem Kb242 : K 41 m41 xb242 db242 [p2,p4,p4,p5,p5,p2,p4,p4,p5,p5] := by delta K;kernel_rfl
theorem qb242 : Q 41 m41 xb242 zb242 := pK Hb242 Kb242
def db226 : D_ := K_ f23 (K_ f1 (c37_ [o72,o24] [] w103) (K_ f37 (K_ f28 (c36_ [[(4,(.add v4 v19)),(7,(.add v7 n1)),(11,v11),(13,(.add v13 (.lit (-1)))),(19,v41)],o116,o145,o118] w21 w108) (c36_ [[(4,(.add v4 v19)),(7,(.add v7 n1)),(11,v11),(13,(.add v13 (.lit (-1))))],o116,o118] w21 w108)) (K_ f28 (c36_ [[(4,(.add v4 v19)),(7,n1),(11,v11),(13,(.add v13 (.lit (-1)))),(19,v41)],o116,o145,o118] w21 w109) (c36_ [[(4,(.add v4 v19)),(7,n1),(11,v11),(13,(.add v13 (.lit (-1))))],o116,o118] w21 w109)))) (K_ f1 (c37_ [o72,o146,o98] [] w103) (K_ f37 (K_ f28 (c36_ [[(4,(.add v4 v19)),(7,(.add v7 n1)),(11,v11),(13,(.add v13 (.lit (-1)))),(19,v41)],o119,o145,o120] w21 w108) (c36_ [[(4,(.add v4 v19)),(7,(.add v7 n1)),(11,v11),(13,(.add v13 (.lit (-1))))],o119,o120] w21 w108)) (K_ f28 (c36_ [[(4,(.add v4 v19)),(7,n1),(11,v11),(13,(.add v13 (.lit (-1)))),(19,v41)],o119,o145,o120] w21 w109) (c36_ [[(4,(.add v4 v19)),(7,n1),(11,v11),(13,(.add v13 (.lit (-1))))],o119,o120] w21 w109)))) a147
theorem Hb226 : H xb226 zb226 db226 := by delta H;kernel_rfl
theorem Kb226 : K 39 (rk 3) xb226 db226 [p2,p6,p6,p6,p6,p2,p6,p6,p6,p6] := by delta K;kernel_rfl
theorem qb226 : Q 39 (rk 3) xb226 zb226 := pK Hb226 Kb226
def db135 : D_ := K_ f11 (K_ f1 (L_ (.cut 37 i36_37 [] w86)) (K_ f12 (K_ f15 (c33_ [[(5,(.add v5 n1)),(15,v20)],o55,o56,o57,[(63,v28)]] w26 w87) (c33_ [[(5,(.add v5 n1))],o55,o57] w26 w87)) (K_ f15 (c33_ [[(5,n1),(15,v20)],o55,o56,o57,[(63,v28)]] w26 w88) (c33_ [[(5,n1)],o55,o57] w26 w88)))) (K_ f1 (c34_ [[(19,n0)],o58] [] w86) (K_ f12 (K_ f15 (c33_ [[(5,(.add v5 n1)),(15,v20)],o59,o56,o60,[(63,v28)]] w26 w87) (c33_ [[(5,(.add v5 n1))],o59,o60] w26 w87)) (K_ f15 (c33_ [[(5,n1),(15,v20)],o59,o56,o60,[(63,v28)]] w26 w88) (c33_ [[(5,n1)],o59,o60] w26 w88)))) a98
theorem Hb135 : H xb135 zb135 db135 := by delta H;kernel_rfl
theorem Kb135 : K 36 (rk 3) xb135 db135 [p2,p1,p1,p1,p1,p2,p1,p1,p1,p1] := by delta K;kernel_rfl
theorem qb135 : Q 36 (rk 3) xb135 zb135 := pK Hb135 Kb135
def db233 : D_ := K_ f23 (K_ f1 (c37_ [o3,o147] [] w103) (K_ f36 (K_ f62 (c36_ [[(4,(.add v4 v20)),(8,(.add v8 n1)),(11,v11),(14,(.add v14 (.lit (-1)))),(20,v50)],o108,o148,o110] w21 w110) (c36_ [[(4,(.add v4 v20)),(8,(.add v8 n1)),(11,v11),(14,(.add v14 (.lit (-1))))],o108,o110] w21 w110)) (K_ f62 (c36_ [[(4,(.add v4 v20)),(8,n1),(11,v11),(14,(.add v14 (.lit (-1)))),(20,v50)],o108,o148,o110] w21 w111) (c36_ [[(4,(.add v4 v20)),(8,n1),(11,v11),(14,(.add v14 (.lit (-1))))],o108,o110] w21 w111)))) (K_ f1 (c37_ [o3,[(22,n0),(23,n0),(24,n0),(25,n0),(26,n0),(27,n0),(28,n0),(29,n0),(30,n0),(31,n0),(32,n0),(33,n0),(34,n0),(35,n0),(36,n0),(37,n0),(38,n0),(39,n0),(40,n0),(41,n0),(42,n0),(43,n0),(44,n0),(45,n0),(46,n0),(47,n0),(48,n0),(49,n0)],o98] [] w103) (K_ f36 (K_ f62 (c36_ [[(4,(.add v4 v20)),(8,(.add v8 n1)),(11,v11),(14,(.add v14 (.lit (-1)))),(20,v50),(21,v21)],o148,o111] w21 w110) (c36_ [[(4,(.add v4 v20)),(8,(.add v8 n1)),(11,v11),(14,(.add v14 (.lit (-1)))),(21,v21)],o111] w21 w110)) (K_ f62 (c36_ [[(4,(.add v4 v20)),(8,n1),(11,v11),(14,(.add v14 (.lit (-1)))),(20,v50),(21,v21)],o148,o111] w21 w111) (c36_ [[(4,(.add v4 v20)),(8,n1),(11,v11),(14,(.add v14 (.lit (-1)))),(21,v21)],o111] w21 w111)))) a151
theorem Hb233 : H xb233 zb233 db233 := by delta H;kernel_rfl
theorem Kb233 : K 39 (rk 3) xb233 db233 [p2,p10,p10,p10,p10,p2,p10,p10,p10,p10] := by delta K;kernel_rfl
theorem qb233 : Q 39 (rk 3) xb233 zb233 := pK Hb233 Kb233
def db138 : D_ := K_ f11 (K_ f1 (c34_ [[(17,n0)],o67] [] w86) (K_ f12 (K_ f15 (c33_ [[(5,(.add v5 n1)),(15,v20),(16,v16)],o68,o56,o69,o70,[(63,v28)]] w26 w87) (c33_ [[(5,(.add v5 n1)),(16,v16)],o68,o69,o70] w26 w87)) (K_ f15 (c33_ [[(5,n1),(15,v20),(16,v16)],o68,o56,o69,o70,[(63,v28)]] w26 w88) (c33_ [[(5,n1),(16,v16)],o68,o69,o70] w26 w88)))) (K_ f1 (c34_ [[(17,n0),(19,n0)],o67,o58] [] w86) (K_ f12 (K_ f15 (c33_ [[(5,(.add v5 n1)),(15,v20),(16,v16),(18,v18)],o56,o69,o71,[(63,v28)]] w26 w87) (c33_ [[(5,(.add v5 n1)),(16,v16),(18,v18)],o69,o71] w26 w87)) (K_ f15 (c33_ [[(5,n1),(15,v20),(16,v16),(18,v18)],o56,o69,o71,[(63,v28)]] w26 w88) (c33_ [[(5,n1),(16,v16),(18,v18)],o69,o71] w26 w88)))) a100
theorem Hb138 : H xb138 zb138 db138 := by delta H;kernel_rfl
theorem Kb138 : K 36 (rk 3) xb138 db138 [p2,p1,p1,p1,p1,p2,p1,p1,p1,p1] := by delta K;kernel_rfl
theorem qb138 : Q 36 (rk 3) xb138 zb138 := pK Hb138 Kb138
def db268 : D_ := K_ f23 (K_ f1 (c39_ [o138,o139] [] w103) (K_ f12 (K_ f2 (c38_ [[(5,(.add v5 n1)),(17,v23),(22,v22)],o153,[(29,v75)],o157] w21 w104) (c38_ [[(5,(.add v5 n1)),(22,v22)],o157] w21 w104)) (K_ f2 (c38_ [[(5,n1),(17,v23),(22,v22)],o153,[(29,v75)],o157] w21 w105) (c38_ [[(5,n1),(22,v22)],o157] w21 w105)))) (K_ f1 (c39_ [o140,o141] [] w103) (K_ f12 (K_ f2 (c38_ [[(5,(.add v5 n1)),(17,v23)],o153,[(29,v75)]] w21 w104) (c38_ [[(5,(.add v5 n1))]] w21 w104)) (K_ f2 (c38_ [[(5,n1),(17,v23)],o153,[(29,v75)]] w21 w105) (c38_ [[(5,n1)]] w21 w105)))) a138
theorem Hb268 : H xb268 zb268 db268 := by delta H;kernel_rfl
theorem Kb268 : K 41 m41 xb268 db268 [p2,p4,p4,p5,p5,p54,p4,p32,p5,p33] := by delta K;kernel_rfl
theorem qb268 : Q 41 m41 xb268 zb268 := pK Hb268 Kb268
def db153 : D_ := K_ f11 (K_ f1 (c34_ [[(15,n0),(17,n0)],o11,o67] [] w86) (K_ f25 (K_ f2 (c33_ [[(4,(.add v4 v16)),(6,(.add v6 n1)),(10,v10),(11,(.add v11 (.lit (-1)))),(16,v29)],o68,o87,o70] w26 w89) (c33_ [[(4,(.add v4 v16)),(6,(.add v6 n1)),(10,v10),(11,(.add v11 (.lit (-1))))],o68,o70] w26 w89)) (K_ f2 (c33_ [[(4,(.add v4 v16)),(6,n1),(10,v10),(11,(.add v11 (.lit (-1)))),(16,v29)],o68,o87,o70] w26 w90) (c33_ [[(4,(.add v4 v16)),(6,n1),(10,v10),(11,(.add v11 (.lit (-1))))],o68,o70] w26 w90)))) (K_ f1 (c34_ [[(15,n0),(17,n0)],o88,o67,o58] [] w86) (K_ f25 (K_ f2 (c33_ [[(4,(.add v4 v16)),(6,(.add v6 n1)),(10,v10),(11,(.add v11 (.lit (-1)))),(16,v29),(18,v18)],o87,o71] w26 w89) (c33_ [[(4,(.add v4 v16)),(6,(.add v6 n1)),(10,v10),(11,(.add v11 (.lit (-1)))),(18,v18)],o71] w26 w89)) (K_ f2 (c33_ [[(4,(.add v4 v16)),(6,n1),(10,v10),(11,(.add v11 (.lit (-1)))),(16,v29),(18,v18)],o87,o71] w26 w90) (c33_ [[(4,(.add v4 v16)),(6,n1),(10,v10),(11,(.add v11 (.lit (-1)))),(18,v18)],o71] w26 w90)))) a108
theorem Hb153 : H xb153 zb153 db153 := by delta H;kernel_rfl
theorem Kb153 : K 36 (rk 3) xb153 db153 [p2,p3,p3,p3,p3,p2,p3,p3,p3,p3] := by delta K;kernel_rfl
theorem qb153 : Q 36 (rk 3) xb153 zb153 := pK Hb153 Kb153
def db158 : D_ := K_ f11 (K_ f1 (c34_ [o39,[(18,n0)],o89,o61] [] w86) (K_ f37 (K_ f14 (c33_ [[(4,(.add v4 v17)),(7,(.add v7 n1)),(10,v10),(12,(.add v12 (.lit (-1)))),(17,v38),(19,v19)],o90,o64] w26 w91) (c33_ [[(4,(.add v4 v17)),(7,(.add v7 n1)),(10,v10),(12,(.add v12 (.lit (-1)))),(19,v19)],o64] w26 w91)) (K_ f14 (c33_ [[(4,(.add v4 v17)),(7,n1),(10,v10),(12,(.add v12 (.lit (-1)))),(17,v38),(19,v19)],o90,o64] w26 w92) (c33_ [[(4,(.add v4 v17)),(7,n1),(10,v10),(12,(.add v12 (.lit (-1)))),(19,v19)],o64] w26 w92)))) (K_ f1 (c34_ [o39,[(18,n0),(19,n0),(20,n0),(21,n0),(22,n0),(23,n0),(24,n0),(25,n0),(26,n0),(27,n0),(28,n0),(29,n0),(30,n0),(31,n0),(32,n0),(33,n0),(34,n0),(35,n0),(36,n0),(37,n0)],o66] [] w86) (K_ f37 (K_ f14 (c33_ [[(4,(.add v4 v17)),(7,(.add v7 n1)),(10,v10),(12,(.add v12 (.lit (-1)))),(17,v38)],o90] w26 w91) (c33_ [[(4,(.add v4 v17)),(7,(.add v7 n1)),(10,v10),(12,(.add v12 (.lit (-1))))]] w26 w91)) (K_ f14 (c33_ [[(4,(.add v4 v17)),(7,n1),(10,v10),(12,(.add v12 (.lit (-1)))),(17,v38)],o90] w26 w92) (c33_ [[(4,(.add v4 v17)),(7,n1),(10,v10),(12,(.add v12 (.lit (-1))))]] w26 w92)))) a111
theorem Hb158 : H xb158 zb158 db158 := by delta H;kernel_rfl
theorem Kb158 : K 36 (rk 3) xb158 db158 [p2,p6,p6,p6,p6,p2,p6,p25,p6,p25] := by delta K;kernel_rfl
theorem qb158 : Q 36 (rk 3) xb158 zb158 := pK Hb158 Kb158
def db333 : D_ := K_ f10 (K_ f1 (c43_ [[(15,n0)],o35] [] w72) (K_ f12 (K_ f34 (c42_ [[(5,(.add v5 n1)),(13,v17),(14,v14),(16,v16)],o196,o199,o200] w31 w73) (c42_ [[(5,(.add v5 n1)),(14,v14),(16,v16)],o199,o200] w31 w73)) (K_ f34 (c42_ [[(5,n1),(13,v17),(14,v14),(16,v16)],o196,o199,o200] w31 w74) (c42_ [[(5,n1),(14,v14),(16,v16)],o199,o200] w31 w74)))) (K_ f1 (c43_ [o39,o40] [] w72) (K_ f12 (K_ f34 (c42_ [[(5,(.add v5 n1)),(13,v17),(14,v14)],o196,o199] w31 w73) (c42_ [[(5,(.add v5 n1)),(14,v14)],o199] w31 w73)) (K_ f34 (c42_ [[(5,n1),(13,v17),(14,v14)],o196,o199] w31 w74) (c42_ [[(5,n1),(14,v14)],o199] w31 w74)))) a82
theorem Hb333 : H xb333 zb333 db333 := by delta H;kernel_rfl
theorem Kb333 : K 43 m43 xb333 db333 [p2,p4,p4,p5,p5,p2,p4,p4,p5,p5] := by delta K;kernel_rfl
theorem qb333 : Q 43 m43 xb333 zb333 := pK Hb333 Kb333
def db350 : D_ := K_ f36 (K_ f1 (L_ (.cut 28 i45_28 [] [r0,r1])) (K_ f12 (K_ f134 (c46_ [[(9,v11),(10,v10)],o215,o216] w41 w54) (c46_ [[(10,v10)],o216] w41 w54)) (K_ f134 (c46_ [[(5,n1),(9,v11),(10,v10)],o215,o216] w41 w55) (c46_ [[(5,n1),(10,v10)],o216] w41 w55)))) (K_ f1 (c47_ [[(10,n0)],o11] [] [r0,r1]) (K_ f12 (K_ f134 (c46_ [[(9,v11)],o215] w41 w54) (L_ (.cut 45 i45_45 w41 w54))) (K_ f134 (c46_ [[(5,n1),(9,v11)],o215] w41 w55) (c46_ [[(5,n1)]] w41 w55)))) a60
theorem Hb350 : H xb350 zb350 db350 := by delta H;kernel_rfl
theorem Kb350 : K 45 m45 xb350 db350 [p2,p4,p4,p5,p5,p2,p4,p32,p5,p33] := by delta K;kernel_rfl
theorem qb350 : Q 45 m45 xb350 zb350 := pK Hb350 Kb350
def db299 : D_ := K_ f23 (K_ f1 (c39_ [o151,o169,o139] [] w103) (K_ f24 (K_ (.lss n1 v16) (c38_ [[(4,(.add v4 v22)),(10,(.add v10 n1)),(11,v11),(16,(.add v16 (.lit (-1)))),(22,v66)],o177] w21 w114) (c38_ [[(4,(.add v4 v22)),(10,(.add v10 n1)),(11,v11),(16,(.add v16 (.lit (-1))))]] w21 w114)) (K_ (.lss n1 v16) (c38_ [[(4,(.add v4 v22)),(10,n1),(11,v11),(16,(.add v16 (.lit (-1)))),(22,v66)],o177] w21 w115) (c38_ [[(4,(.add v4 v22)),(10,n1),(11,v11),(16,(.add v16 (.lit (-1))))]] w21 w115)))) (c39_ [[(17,n0),(18,n0),(19,n0),(20,n0),(21,n0),(22,n0),(23,n0),(24,n0),(25,n0),(26,n0),(27,n0),(28,n0),(29,n0),(30,n0)],o141] [] w103) a154
theorem Hb299 : H xb299 zb299 db299 := by delta H;kernel_rfl
theorem Kb299 : K 41 m41 xb299 db299 [p59,lT (pW [] 1) [(2,(cQ 10 (cM [99,522,75327]) (cM [96,522,75324])))] [] .non,lT (pW [] 1) [(2,(cQ 10 (cM [522,99,75327]) (cM [96,522,75324])))] [] .non,lT (pW [] 1) [(1,(cQ 10 (cM [522,51]) (cM [522,48]))),(2,(cQ 10 (cM [99,522,75327]) (cM [96,522,75324])))] [] .non,lT (pW [] 1) [(1,(cQ 10 (cM [522,51]) (cM [522,48]))),(2,(cQ 10 (cM [522,99,75327]) (cM [96,522,75324])))] [] .non,p24] := by delta K;kernel_rfl
theorem qb299 : Q 41 m41 xb299 zb299 := pK Hb299 Kb299
def db351 : D_ := K_ f36 (K_ f1 (c47_ [[(9,n0),(11,n0),(12,n0),(13,n0),(14,n0),(15,n0),(16,n0),(17,n0),(18,n0)]] [] [r0,r1]) (K_ f25 (K_ f71 (c46_ [[(4,(.add v4 v10)),(5,v5),(6,(.add v6 n1)),(7,v7),(8,(.add v8 (.lit (-1)))),(10,v19)],o217] w41 w56) (c46_ [[(4,(.add v4 v10)),(5,v5),(6,(.add v6 n1)),(7,v7),(8,(.add v8 (.lit (-1))))]] w41 w56)) (K_ f71 (c46_ [[(4,(.add v4 v10)),(5,v5),(6,n1),(7,v7),(8,(.add v8 (.lit (-1)))),(10,v19)],o217] w41 w57) (c46_ [[(4,(.add v4 v10)),(5,v5),(6,n1),(7,v7),(8,(.add v8 (.lit (-1))))]] w41 w57)))) (c47_ [[(9,n0),(10,n0),(11,n0),(12,n0),(13,n0),(14,n0),(15,n0),(16,n0),(17,n0),(18,n0)],o11] [] [r0,r1]) a61
theorem Hb351 : H xb351 zb351 db351 := by delta H;kernel_rfl
theorem Kb351 : K 45 m45 xb351 db351 [p2,p8,p34,p9,p35,p24] := by delta K;kernel_rfl
theorem qb351 : Q 45 m45 xb351 zb351 := pK Hb351 Kb351
def db99 : D_ := K_ f155 (K_ f140 (K_ (.lss n1 v41) (K_ f93 l68 (K_ f68 l8 l8)) (K_ f93 l68 (K_ f68 l8 l8))) (K_ (.lss n1 v41) (K_ f93 l69 (K_ f68 l8 l8)) (K_ f93 l69 (K_ f68 l8 l8)))) l65 [(f74,true),(f38,false),(f26,false),(f73,true),(f33,true),(f42,true),(f95,false),(f66,false),(f98,false),(f67,false),(f96,false),(f65,false),(f97,false),(f64,false),(f40,false),(f16,false)]
theorem Hb99 : H xb99 zb99 db99 := by delta H;kernel_rfl
theorem Kb99 : K 32 m32 xb99 db99 [p6,p0,p0,p6,p0,p0,p6,p0,p0,p6,p0,p0,p7] := by delta K;kernel_rfl
theorem qb99 : Q 32 m32 xb99 zb99 := pK Hb99 Kb99
def db173 : D_ := K_ (.lss n0 v47) (K_ f155 (K_ (.lss n1 v47) (K_ (.lss n0 v27) l96 (K_ f132 l8 l8)) (K_ (.lss n0 v27) l96 (K_ f132 l8 l8))) (K_ (.lss n1 v47) (K_ (.lss n0 v27) l97 (K_ f132 l8 l8)) (K_ (.lss n0 v27) l97 (K_ f132 l8 l8)))) l87 [(f135,false),(f118,false),(f101,false),(f72,false),(f44,false),(f114,true),(f129,true),(f94,false),(f76,false),(f49,false),(f78,false),(f48,false),(f80,false),(f47,false),(f75,false),(f52,false),(f77,false),(f51,false),(f79,false),(f50,false),(f130,false),(f58,false)]
theorem Hb173 : H xb173 zb173 db173 := by delta H;kernel_rfl
theorem Kb173 : K 38 m38 xb173 db173 [p37,p0,p0,p38,p0,p0,p37,p0,p0,p38,p0,p0,p7] := by delta K;kernel_rfl
theorem qb173 : Q 38 m38 xb173 zb173 := pK Hb173 Kb173
def d28 : D_ := K_ f37 l15 (K_ f36 l15 (K_ f152 l48 l15)) [(f116,false),(f115,false),(f0,false)]
theorem H28 : H g27 (t28.cfg) d28 := by delta H;kernel_rfl
theorem K28 : K 28 (rk 1) g27 d28 [p0,p0,lO [sA,sP,sU [2,258,514,770,1026,1282,1538,1794,2050,2306,2562,2818,3074,3330,3586,3842,4098,4354,4610,4866],sU [7]] (cQ 8 (cM [426,96]) (cM [426,99])),lO [sA,sP,sU [2,258,514,770,1026,1282,1538,1794,2050,2306,2562,2818,3074,3330,3586,3842,4098,4354,4610,4866],sU [7]] (cQ 24 (cM [1194,0]) (cM [1194,3]))] := by delta K;kernel_rfl
theorem q28 : Q 28 (rk 1) g27 t28.cfg := pK H28 K28
def d18 : D_ := K_ f86 (K_ f69 (c18_ [[(0,v2),(1,v3),(2,v4),(3,n0),(4,n1)]] [(.var 0)] [r0]) l42) (K_ f68 l42 l42) []
theorem H18 : H g18 (t18.cfg) d18 := by delta H;kernel_rfl
theorem K18 : K 18 (rk 4) g18 d18 [lE,lE,lE,lE] := by delta K;kernel_rfl
theorem q18 : Q 18 (rk 4) g18 t18.cfg := pK H18 K18
def d17 : D_ := K_ f128 (K_ f70 l15 l41) (K_ f70 l41 l15) [(f133,false),(f122,false),(f127,false),(f16,false)]
theorem H17 : H g17 (t17.cfg) d17 := by delta H;kernel_rfl
theorem K17 : K 17 m17 g17 d17 [p13,p18,p18,lO (ap [sA] (ap (sq 10 fun i => sE (10+256*i)) [sP,sU (ap (sq 11 fun i => (2+256*i)) [2570,2818,2826,3074,3082,3330,3338,3586,3594,3842,3850,4098,4106,4354,4362,4610,4618,4866,4874]),sU [7]])) (cQ 24 (cM [1194,0]) (cM [1194,3]))] := by delta K;kernel_rfl
theorem q17 : Q 17 m17 g17 t17.cfg := pK H17 K17
def db46 : D_ := l28 [(f69,false),(f35,true),(f45,false),(f43,false),(f63,false),(f106,false)]
theorem Hb46 : H xb46 zb46 db46 := by delta H;kernel_rfl
theorem Kb46 : K 10 (rk 5) xb46 db46 [p15] := by delta K;kernel_rfl
theorem qb46 : Q 10 (rk 5) xb46 zb46 := pK Hb46 Kb46
def db131 : D_ := l84 [(f42,false),(f81,false),(f57,false),(f83,false),(f56,false),(f85,false),(f55,false),(f84,false),(f53,false),(f82,false),(f54,false),(f40,false),(f16,false)]
theorem Hb131 : H xb131 zb131 db131 := by delta H;kernel_rfl
theorem Kb131 : K 35 m35 xb131 db131 [p7] := by delta K;kernel_rfl
theorem qb131 : Q 35 m35 xb131 zb131 := pK Hb131 Kb131

end
end Go.Proofs.Ytnkeojkniohjhaa.machineSums
