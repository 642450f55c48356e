/- Parts of the plan for the law MachineSums: each is one kernel run. -/
import Derived.Test.YtnkeojkniohjhaaMachineSumsPlan
set_option linter.unusedVariables false
namespace Go.Proofs.Ytnkeojkniohjhaa.machineSums
open Go Go.Ev
noncomputable section

def db180 : D_ := K_ f23 (K_ f1 (L_ (.cut 40 i39_40 [] w103)) (K_ f12 (K_ f2 (c36_ [[(5,(.add v5 n1)),(17,v23)],o95,o96,o97,[(75,v31)]] w21 w104) (c36_ [[(5,(.add v5 n1))],o95,o97] w21 w104)) (K_ f2 (c36_ [[(5,n1),(17,v23)],o95,o96,o97,[(75,v31)]] w21 w105) (c36_ [[(5,n1)],o95,o97] w21 w105)))) (K_ f1 (c37_ [[(22,n0)],o98] [] w103) (K_ f12 (K_ f2 (c36_ [[(5,(.add v5 n1)),(17,v23)],o99,o96,o100,[(75,v31)]] w21 w104) (c36_ [[(5,(.add v5 n1))],o99,o100] w21 w104)) (K_ f2 (c36_ [[(5,n1),(17,v23)],o99,o96,o100,[(75,v31)]] w21 w105) (c36_ [[(5,n1)],o99,o100] w21 w105)))) a123
theorem Hb180 : H xb180 zb180 db180 := by delta H;kernel_rfl
theorem Kb180 : K 39 (rk 3) xb180 db180 [p2,p1,p1,p1,p1,p2,p1,p1,p1,p1] := by delta K;kernel_rfl
theorem qb180 : Q 39 (rk 3) xb180 zb180 := pK Hb180 Kb180
def db218 : D_ := K_ f23 (K_ f1 (c37_ [[(17,n0),(19,n0)],o20,o115] [] w103) (K_ f25 (K_ f14 (c36_ [[(4,(.add v4 v18)),(6,(.add v6 n1)),(11,v11),(12,(.add v12 (.lit (-1)))),(18,v32)],o116,o142,o118] w21 w106) (c36_ [[(4,(.add v4 v18)),(6,(.add v6 n1)),(11,v11),(12,(.add v12 (.lit (-1))))],o116,o118] w21 w106)) (K_ f14 (c36_ [[(4,(.add v4 v18)),(6,n1),(11,v11),(12,(.add v12 (.lit (-1)))),(18,v32)],o116,o142,o118] w21 w107) (c36_ [[(4,(.add v4 v18)),(6,n1),(11,v11),(12,(.add v12 (.lit (-1))))],o116,o118] w21 w107)))) (K_ f1 (c37_ [[(17,n0),(19,n0)],o143,o115,o98] [] w103) (K_ f25 (K_ f14 (c36_ [[(4,(.add v4 v18)),(6,(.add v6 n1)),(11,v11),(12,(.add v12 (.lit (-1)))),(18,v32)],o119,o142,o120] w21 w106) (c36_ [[(4,(.add v4 v18)),(6,(.add v6 n1)),(11,v11),(12,(.add v12 (.lit (-1))))],o119,o120] w21 w106)) (K_ f14 (c36_ [[(4,(.add v4 v18)),(6,n1),(11,v11),(12,(.add v12 (.lit (-1)))),(18,v32)],o119,o142,o120] w21 w107) (c36_ [[(4,(.add v4 v18)),(6,n1),(11,v11),(12,(.add v12 (.lit (-1))))],o119,o120] w21 w107)))) a143
theorem Hb218 : H xb218 zb218 db218 := by delta H;kernel_rfl
theorem Kb218 : K 39 (rk 3) xb218 db218 [p2,p3,p3,p3,p3,p2,p3,p3,p3,p3] := by delta K;kernel_rfl
theorem qb218 : Q 39 (rk 3) xb218 zb218 := pK Hb218 Kb218
def db288 : D_ := K_ f23 (K_ f1 (c39_ [o72,o169,o17] [] w103) (K_ f37 (K_ f28 (c38_ [[(4,(.add v4 v19)),(7,(.add v7 n1)),(11,v11),(13,(.add v13 (.lit (-1)))),(19,v39)],o116,o174,o162] w21 w108) (c38_ [[(4,(.add v4 v19)),(7,(.add v7 n1)),(11,v11),(13,(.add v13 (.lit (-1))))],o116,o162] w21 w108)) (K_ f28 (c38_ [[(4,(.add v4 v19)),(7,n1),(11,v11),(13,(.add v13 (.lit (-1)))),(19,v39)],o116,o174,o162] w21 w109) (c38_ [[(4,(.add v4 v19)),(7,n1),(11,v11),(13,(.add v13 (.lit (-1))))],o116,o162] w21 w109)))) (K_ f1 (c39_ [o72,o171,o17,o98] [] w103) (K_ f37 (K_ f28 (c38_ [[(4,(.add v4 v19)),(7,(.add v7 n1)),(11,v11),(13,(.add v13 (.lit (-1)))),(19,v39)],o119,o174,o163] w21 w108) (c38_ [[(4,(.add v4 v19)),(7,(.add v7 n1)),(11,v11),(13,(.add v13 (.lit (-1))))],o119,o163] w21 w108)) (K_ f28 (c38_ [[(4,(.add v4 v19)),(7,n1),(11,v11),(13,(.add v13 (.lit (-1)))),(19,v39)],o119,o174,o163] w21 w109) (c38_ [[(4,(.add v4 v19)),(7,n1),(11,v11),(13,(.add v13 (.lit (-1))))],o119,o163] w21 w109)))) a147
theorem Hb288 : H xb288 zb288 db288 := by delta H;kernel_rfl
theorem Kb288 : K 41 m41 xb288 db288 [p2,p11,p11,p12,p12,p2,p11,p11,p12,p12] := by delta K;kernel_rfl
theorem qb288 : Q 41 m41 xb288 zb288 := pK Hb288 Kb288
def db261 : D_ := K_ f23 (K_ f1 (c39_ [[(18,n0)],o112,o17,o113] [] w103) (K_ f12 (K_ f2 (c38_ [[(5,(.add v5 n1)),(17,v23),(19,v19),(22,v22)],o153,[(29,v75)],o168,o157] w21 w104) (c38_ [[(5,(.add v5 n1)),(19,v19),(22,v22)],o168,o157] w21 w104)) (K_ f2 (c38_ [[(5,n1),(17,v23),(19,v19),(22,v22)],o153,[(29,v75)],o168,o157] w21 w105) (c38_ [[(5,n1),(19,v19),(22,v22)],o168,o157] w21 w105)))) (K_ f1 (c39_ [[(18,n0)],o4,o17,o114] [] w103) (K_ f12 (K_ f2 (c38_ [[(5,(.add v5 n1)),(17,v23),(19,v19)],o153,[(29,v75)],o168] w21 w104) (c38_ [[(5,(.add v5 n1)),(19,v19)],o168] w21 w104)) (K_ f2 (c38_ [[(5,n1),(17,v23),(19,v19)],o153,[(29,v75)],o168] w21 w105) (c38_ [[(5,n1),(19,v19)],o168] w21 w105)))) a134
theorem Hb261 : H xb261 zb261 db261 := by delta H;kernel_rfl
theorem Kb261 : K 41 m41 xb261 db261 [p2,p4,p4,p5,p5,p2,p4,p4,p5,p5] := by delta K;kernel_rfl
theorem qb261 : Q 41 m41 xb261 zb261 := pK Hb261 Kb261
def db150 : D_ := K_ f11 (K_ f1 (c34_ [[(15,n0)],o11] [] w86) (K_ f25 (K_ f2 (c33_ [[(4,(.add v4 v16)),(6,(.add v6 n1)),(10,v10),(11,(.add v11 (.lit (-1)))),(16,v29)],o76,o87,o77] w26 w89) (c33_ [[(4,(.add v4 v16)),(6,(.add v6 n1)),(10,v10),(11,(.add v11 (.lit (-1))))],o76,o77] w26 w89)) (K_ f2 (c33_ [[(4,(.add v4 v16)),(6,n1),(10,v10),(11,(.add v11 (.lit (-1)))),(16,v29)],o76,o87,o77] w26 w90) (c33_ [[(4,(.add v4 v16)),(6,n1),(10,v10),(11,(.add v11 (.lit (-1))))],o76,o77] w26 w90)))) (K_ f1 (c34_ [[(15,n0)],o88,o58] [] w86) (K_ f25 (K_ f2 (c33_ [[(4,(.add v4 v16)),(6,(.add v6 n1)),(10,v10),(11,(.add v11 (.lit (-1)))),(16,v29)],o78,o87,o79] w26 w89) (c33_ [[(4,(.add v4 v16)),(6,(.add v6 n1)),(10,v10),(11,(.add v11 (.lit (-1))))],o78,o79] w26 w89)) (K_ f2 (c33_ [[(4,(.add v4 v16)),(6,n1),(10,v10),(11,(.add v11 (.lit (-1)))),(16,v29)],o78,o87,o79] w26 w90) (c33_ [[(4,(.add v4 v16)),(6,n1),(10,v10),(11,(.add v11 (.lit (-1))))],o78,o79] w26 w90)))) a106
theorem Hb150 : H xb150 zb150 db150 := by delta H;kernel_rfl
theorem Kb150 : K 36 (rk 3) xb150 db150 [p2,p3,p3,p3,p3,p2,p3,p3,p3,p3] := by delta K;kernel_rfl
theorem qb150 : Q 36 (rk 3) xb150 zb150 := pK Hb150 Kb150
def db292 : D_ := K_ f23 (K_ f1 (c39_ [o72,o112,o169,o17,o113] [] w103) (K_ f37 (K_ f28 (c38_ [[(4,(.add v4 v19)),(7,(.add v7 n1)),(11,v11),(13,(.add v13 (.lit (-1)))),(19,v39),(22,v22)],o174,o157] w21 w108) (c38_ [[(4,(.add v4 v19)),(7,(.add v7 n1)),(11,v11),(13,(.add v13 (.lit (-1)))),(22,v22)],o157] w21 w108)) (K_ f28 (c38_ [[(4,(.add v4 v19)),(7,n1),(11,v11),(13,(.add v13 (.lit (-1)))),(19,v39),(22,v22)],o174,o157] w21 w109) (c38_ [[(4,(.add v4 v19)),(7,n1),(11,v11),(13,(.add v13 (.lit (-1)))),(22,v22)],o157] w21 w109)))) (K_ f1 (c39_ [o72,o173,o17,o114] [] w103) (K_ f37 (K_ f28 (c38_ [[(4,(.add v4 v19)),(7,(.add v7 n1)),(11,v11),(13,(.add v13 (.lit (-1)))),(19,v39)],o174] w21 w108) (c38_ [[(4,(.add v4 v19)),(7,(.add v7 n1)),(11,v11),(13,(.add v13 (.lit (-1))))]] w21 w108)) (K_ f28 (c38_ [[(4,(.add v4 v19)),(7,n1),(11,v11),(13,(.add v13 (.lit (-1)))),(19,v39)],o174] w21 w109) (c38_ [[(4,(.add v4 v19)),(7,n1),(11,v11),(13,(.add v13 (.lit (-1))))]] w21 w109)))) a150
theorem Hb292 : H xb292 zb292 db292 := by delta H;kernel_rfl
theorem Kb292 : K 41 m41 xb292 db292 [p2,p11,p11,p12,p12,p56,p11,p39,p12,p40] := by delta K;kernel_rfl
theorem qb292 : Q 41 m41 xb292 zb292 := pK Hb292 Kb292
def db311 : D_ := K_ f11 (K_ f1 (c41_ [[(16,n0),(18,n0)],o75,o61] [] w86) (K_ f12 (K_ f15 (c40_ [[(5,(.add v5 n1)),(15,v20),(17,v17),(19,v19)],o178,[(26,v63)],o188,o182] w26 w87) (c40_ [[(5,(.add v5 n1)),(17,v17),(19,v19)],o188,o182] w26 w87)) (K_ f15 (c40_ [[(5,n1),(15,v20),(17,v17),(19,v19)],o178,[(26,v63)],o188,o182] w26 w88) (c40_ [[(5,n1),(17,v17),(19,v19)],o188,o182] w26 w88)))) (K_ f1 (c41_ [[(16,n0)],o65,o75,o66] [] w86) (K_ f12 (K_ f15 (c40_ [[(5,(.add v5 n1)),(15,v20),(17,v17)],o178,[(26,v63)],o188] w26 w87) (c40_ [[(5,(.add v5 n1)),(17,v17)],o188] w26 w87)) (K_ f15 (c40_ [[(5,n1),(15,v20),(17,v17)],o178,[(26,v63)],o188] w26 w88) (c40_ [[(5,n1),(17,v17)],o188] w26 w88)))) a103
theorem Hb311 : H xb311 zb311 db311 := by delta H;kernel_rfl
theorem Kb311 : K 42 m42 xb311 db311 [p2,p4,p4,p5,p5,p2,p4,p4,p5,p5] := by delta K;kernel_rfl
theorem qb311 : Q 42 m42 xb311 zb311 := pK Hb311 Kb311
def db322 : D_ := K_ f11 (K_ f1 (c41_ [[(15,n0)],o72,o189,o73] [] w86) (K_ f25 (K_ f2 (c40_ [[(4,(.add v4 v16)),(6,(.add v6 n1)),(10,v10),(11,(.add v11 (.lit (-1)))),(16,v27),(19,v19)],o190,o182] w26 w89) (c40_ [[(4,(.add v4 v16)),(6,(.add v6 n1)),(10,v10),(11,(.add v11 (.lit (-1)))),(19,v19)],o182] w26 w89)) (K_ f2 (c40_ [[(4,(.add v4 v16)),(6,n1),(10,v10),(11,(.add v11 (.lit (-1)))),(16,v27),(19,v19)],o190,o182] w26 w90) (c40_ [[(4,(.add v4 v16)),(6,n1),(10,v10),(11,(.add v11 (.lit (-1)))),(19,v19)],o182] w26 w90)))) (K_ f1 (c41_ [[(15,n0),(17,n0),(18,n0),(19,n0),(20,n0),(21,n0),(22,n0),(23,n0),(24,n0),(25,n0),(26,n0),(27,n0)],o74] [] w86) (K_ f25 (K_ f2 (c40_ [[(4,(.add v4 v16)),(6,(.add v6 n1)),(10,v10),(11,(.add v11 (.lit (-1)))),(16,v27)],o190] w26 w89) (c40_ [[(4,(.add v4 v16)),(6,(.add v6 n1)),(10,v10),(11,(.add v11 (.lit (-1))))]] w26 w89)) (K_ f2 (c40_ [[(4,(.add v4 v16)),(6,n1),(10,v10),(11,(.add v11 (.lit (-1)))),(16,v27)],o190] w26 w90) (c40_ [[(4,(.add v4 v16)),(6,n1),(10,v10),(11,(.add v11 (.lit (-1))))]] w26 w90)))) a109
theorem Hb322 : H xb322 zb322 db322 := by delta H;kernel_rfl
theorem Kb322 : K 42 m42 xb322 db322 [p2,p8,p8,p9,p9,p2,p8,p34,p9,p35] := by delta K;kernel_rfl
theorem qb322 : Q 42 m42 xb322 zb322 := pK Hb322 Kb322
def db3 : D_ := K_ f86 (L_ (.cut 18 is_18 [(.lit true),(.var 18),(.var 19),(.lit false),(.lit false),(.lit false),(.lit false),(.lit false),(.lit false),(.lit false),(.lit false),(.lit false),(.lit false),(.lit false),(.lit false),(.lit false),(.lit false),(.lit false),(.lit false)] w3)) (L_ (.cut 18 is_18 [(.lit false),(.var 18),(.var 19),(.lit false),(.lit false),(.lit false),(.lit false),(.lit false),(.lit false),(.lit false),(.lit false),(.lit false),(.lit false),(.lit false),(.lit false),(.lit false),(.lit false),(.lit false),(.lit false)] w3)) [(f35,false),((.lss v26 v25),false),((.lss v23 v22),false),((.lss v20 v19),false),((.lss v17 v16),false),((.lss v14 v13),false),((.lss v11 v10),false),((.lss v8 v7),false),((.lss v5 v4),false),((.lss v2 v1),false),((.lss v29 v28),false)]
theorem qb3 : QQ 47 { rank := top } false xb3 zb3 := Cl.partK 1000000 db3 [lE,lE] (by kernel_rfl) (by kernel_rfl) (by kernel_rfl)
def db348 : D_ := K_ f24 (K_ f1 (c45_ [[(11,n0)],o212] [] w61) (K_ f25 (K_ f34 (c44_ [[(4,(.add v4 v12)),(6,(.add v6 n1)),(8,v8),(9,(.add v9 (.lit (-1)))),(12,v22),(13,v13)],o213,o211] w36 w64) (c44_ [[(4,(.add v4 v12)),(6,(.add v6 n1)),(8,v8),(9,(.add v9 (.lit (-1)))),(13,v13)],o211] w36 w64)) (K_ f34 (c44_ [[(4,(.add v4 v12)),(6,n1),(8,v8),(9,(.add v9 (.lit (-1)))),(12,v22),(13,v13)],o213,o211] w36 w65) (c44_ [[(4,(.add v4 v12)),(6,n1),(8,v8),(9,(.add v9 (.lit (-1)))),(13,v13)],o211] w36 w65)))) (K_ f1 (c45_ [[(11,n0),(13,n0),(14,n0),(15,n0),(16,n0),(17,n0),(18,n0),(19,n0),(20,n0),(21,n0)],o17] [] w61) (K_ f25 (K_ f34 (c44_ [[(4,(.add v4 v12)),(6,(.add v6 n1)),(8,v8),(9,(.add v9 (.lit (-1)))),(12,v22)],o213] w36 w64) (c44_ [[(4,(.add v4 v12)),(6,(.add v6 n1)),(8,v8),(9,(.add v9 (.lit (-1))))]] w36 w64)) (K_ f34 (c44_ [[(4,(.add v4 v12)),(6,n1),(8,v8),(9,(.add v9 (.lit (-1)))),(12,v22)],o213] w36 w65) (c44_ [[(4,(.add v4 v12)),(6,n1),(8,v8),(9,(.add v9 (.lit (-1))))]] w36 w65)))) a71
theorem Hb348 : H xb348 zb348 db348 := by delta H;kernel_rfl
theorem Kb348 : K 44 m44 xb348 db348 [p2,p8,p8,p9,p9,p2,p8,p34,p9,p35] := by delta K;kernel_rfl
theorem qb348 : Q 44 m44 xb348 zb348 := pK Hb348 Kb348
def db34 : D_ := K_ f125 (K_ (.lss n0 v34) (K_ (.lss n1 v34) (K_ f93 l20 (K_ f132 l8 l8)) (K_ f93 l20 (K_ f132 l8 l8))) (c13_ [[(7,n0),(34,n1),(43,n0)]] w24 w25)) (K_ f128 (K_ (.lss n1 v35) (K_ f121 l21 (K_ (.var 6) l8 l8)) (K_ f121 l21 (K_ (.var 6) l8 l8))) (c13_ [[(7,n0),(34,n1),(44,n0)]] w24 w25)) [(f88,false),(f41,false),(f27,false),(f105,true),(f69,true),(f35,true),(f45,false),(f43,false),(f63,false),(f106,false),(f131,false)]
theorem Hb34 : H xb34 zb34 db34 := by delta H;kernel_rfl
theorem Kb34 : K 8 (rk 5) xb34 db34 [p30,p0,p0,p30,p0,p0,p14,p44,p0,p0,lT (pW [] 1) [(0,(cQ 10 (cM [522,3]) (cM [522,0]))),(2,(cQ 10 (cM [522,51,61503]) (cM [48,522,61500])))] [] .non,p0,p0,p14] := by delta K;kernel_rfl
theorem qb34 : Q 8 (rk 5) xb34 zb34 := pK Hb34 Kb34
def db91 : D_ := K_ f24 (K_ f1 (c28_ [o26,[(14,n0),(15,n0),(16,n0),(17,n0),(18,n0),(19,n0),(20,n0),(21,n0),(22,n0),(23,n0),(24,n0),(25,n0),(26,n0),(27,n0),(28,n0),(29,n0),(30,n0),(31,n0)]] [] w61) (K_ f37 (K_ f15 (c27_ [[(4,(.add v4 v13)),(7,(.add v7 n1)),(8,v8),(10,(.add v10 (.lit (-1)))),(13,v32)],o27] w36 w66) (c27_ [[(4,(.add v4 v13)),(7,(.add v7 n1)),(8,v8),(10,(.add v10 (.lit (-1))))]] w36 w66)) (K_ f15 (c27_ [[(4,(.add v4 v13)),(7,n1),(8,v8),(10,(.add v10 (.lit (-1)))),(13,v32)],o27] w36 w67) (c27_ [[(4,(.add v4 v13)),(7,n1),(8,v8),(10,(.add v10 (.lit (-1))))]] w36 w67)))) (c28_ [[(11,n0),(12,n0),(13,n0),(14,n0),(15,n0),(16,n0),(17,n0),(18,n0),(19,n0),(20,n0),(21,n0),(22,n0),(23,n0),(24,n0),(25,n0),(26,n0),(27,n0),(28,n0),(29,n0),(30,n0),(31,n0),(32,n0),(33,n0),(34,n0),(35,n0),(36,n0),(37,n0),(38,n0),(39,n0),(40,n0)]] [] w61) a72
theorem Hb91 : H xb91 zb91 db91 := by delta H;kernel_rfl
theorem Kb91 : K 30 (rk 3) xb91 db91 [p2,p6,p25,p6,p25,p24] := by delta K;kernel_rfl
theorem qb91 : Q 30 (rk 3) xb91 zb91 := pK Hb91 Kb91
def db123 : D_ := K_ f155 (K_ f146 (K_ (.lss n1 v41) (K_ f11 l76 (K_ f86 l8 l8)) (K_ f11 l76 (K_ f86 l8 l8))) (K_ (.lss n1 v41) (K_ f11 l77 (K_ f86 l8 l8)) (K_ f11 l77 (K_ f86 l8 l8)))) l75 [(f38,true),(f26,false),(f46,true),(f33,true),(f42,true),(f81,false),(f57,false),(f83,false),(f56,false),(f85,false),(f55,false),(f84,false),(f53,false),(f82,false),(f54,false),(f40,false),(f16,false)]
theorem Hb123 : H xb123 zb123 db123 := by delta H;kernel_rfl
theorem Kb123 : K 35 m35 xb123 db123 [p3,p0,p0,p3,p0,p0,p3,p0,p0,p3,p0,p0,p7] := by delta K;kernel_rfl
theorem qb123 : Q 35 m35 xb123 zb123 := pK Hb123 Kb123
def d16 : D_ := K_ f35 (K_ f69 (K_ (.lss (.rem (.sel .u64 r0 n0) n6) n1) (K_ f25 (K_ (.lss n1 v6) (K_ f36 l39 (K_ f68 l8 l8)) (K_ f36 l39 (K_ f68 l8 l8))) (c17_ [o6,[(34,n1),(35,n0)]] w44 w45)) (c17_ [o6,[(34,n1),(35,v6)]] w44 w45)) l40) (K_ f86 l40 l40) [((.lss v8 v6),false)]
theorem H16 : H g16 (t16.cfg) d16 := by delta H;kernel_rfl
theorem K16 : K 16 (rk 5) g16 d16 [lT (pW [] 1) [(1,(cQ 10 (cM [3,522,63]) (cM [0,522,60])))] [] .non,p0,p0,lT (pW [] 1) [(1,(cQ 10 (cM [3,522,63]) (cM [522,60,0])))] [] .non,p0,p0,lT (pW [] 2) [] [] .non,p36,p36,p36,p36] := by delta K;kernel_rfl
theorem q16 : Q 16 (rk 5) g16 t16.cfg := pK H16 K16
def d34 : D_ := K_ f39 l15 (K_ f24 l15 (K_ f9 l15 (K_ f10 l15 (K_ f152 l48 l15)))) [(f32,false),(f31,false),(f29,false),(f30,false),(f0,false)]
theorem H34 : H g33 (t34.cfg) d34 := by delta H;kernel_rfl
theorem K34 : K 34 (rk 1) g33 d34 [p0,p0,p0,p0,lO [sA,sP,sU (sq 40 fun i => (2+256*i)),sU [7]] (cQ 8 (cM [426,96]) (cM [426,99])),lO [sA,sP,sU (sq 40 fun i => (2+256*i)),sU [7]] (cQ 24 (cM [1194,0]) (cM [1194,3]))] := by delta K;kernel_rfl
theorem q34 : Q 34 (rk 1) g33 t34.cfg := pK H34 K34
def db35 : D_ := c13_ [[(7,n0),(34,n1)]] w24 w25 [(f105,false),(f69,true),(f35,true),(f45,false),(f43,false),(f63,false),(f106,false),(f131,false)]
theorem Hb35 : H xb35 zb35 db35 := by delta H;kernel_rfl
theorem Kb35 : K 8 (rk 5) xb35 db35 [p15] := by delta K;kernel_rfl
theorem qb35 : Q 8 (rk 5) xb35 zb35 := pK Hb35 Kb35
def db5 : D_ := c3_ [[(1,v2),(2,v3),(3,v4),(4,v5),(5,v6),(6,v7),(7,v8),(8,v9),(9,v10),(10,v11),(11,v12),(12,v13),(13,v14),(14,v15),(15,v16),(16,v17),(17,v18),(18,v19),(19,v20),(20,v21),(21,v22),(22,v23),(23,v24),(24,v25),(25,v26),(26,v27),(27,v28),(28,v29),(29,v30),(30,v31)]] [(.var 0),(.var 1),(.var 2),(.var 3),(.var 4),(.var 5),(.var 6),(.var 7),(.var 8),(.var 9),(.var 10),(.var 11),(.var 12),(.var 13),(.var 14),(.var 15),(.var 16)] [r0,r8,r1,r2,r3,r4,r5,r6,r7] [((.lss n1 v1),false),((.lss v1 n1),false),(f40,false)]
theorem Hb5 : H xb5 zb5 db5 := by delta H;kernel_rfl
theorem Kb5 : K 0 (rk 11) xb5 db5 [lT pY [(0,(cQ 10 (cM [522,3]) (cM [522,0])))] [] .non] := by delta K;kernel_rfl
theorem qb5 : Q 0 (rk 11) xb5 zb5 := pK Hb5 Kb5
def db47 : D_ := K_ f86 l28 l28 [(f35,false),(f45,false),(f43,false),(f63,false),(f106,false)]
theorem Hb47 : H xb47 zb47 db47 := by delta H;kernel_rfl
theorem Kb47 : K 10 (rk 5) xb47 db47 [p15,p15] := by delta K;kernel_rfl
theorem qb47 : Q 10 (rk 5) xb47 zb47 := pK Hb47 Kb47
def db84 : D_ := l62 [(f33,false),(f42,true),(f108,false),(f91,false),(f109,false),(f89,false),(f107,false),(f90,false),(f40,false),(f16,false)]
theorem Hb84 : H xb84 zb84 db84 := by delta H;kernel_rfl
theorem Kb84 : K 29 m29 xb84 db84 [p7] := by delta K;kernel_rfl
theorem qb84 : Q 29 m29 xb84 zb84 := pK Hb84 Kb84

end
end Go.Proofs.Ytnkeojkniohjhaa.machineSums
